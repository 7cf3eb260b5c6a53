/- Sub Cpt Con Ord SoA Srt Sim Cpo San1 -/
import Derived.Test.YtkdibcicncjpdaaGreatDoorCl03
import Derived.Test.YtkdibcicncjpdaaGreatDoorCl05
import Derived.Shelf.SlSortCmp.Whole1
import Derived.Shelf.SlIterI.Sorted
import Derived.Test.YtkdibcicncjpdaaGreatDoorCl04
import Derived.Test.YtkdibcicncjpdaaGreatDoorCl02
set_option linter.unusedSimpArgs false
set_option linter.unusedVariables false
namespace Go.Proofs.YtkdibcicncjpdaaGreatDoor
open _root_.Go.Proofs.Tryz _root_.Go.Proofs.YtkdibcicncjpdaaGreatDoor.Tryz
open Go Go.Sy Go.Pl Go.Proofs
set_option maxRecDepth 100000
def ListR (g : PH) (l : List Int) (r : Sv) : Prop:=Ints g (.slice r.p r.n r.c) l
theorem ListR.mono {g g' : PH} (hl : Le g g') {l : List Int} {r : Sv} (h : ListR g l r) : ListR g' l r:=SlA.mono h hl
theorem ListR.len {g : PH} {l : List Int} {r : Sv} (h : ListR g l r) : r.n = l.length:=(SlA.cap h).1
def Lists (g : PH) (v : Value) (l : List (List Int)) : Prop:=∃ rs,SlA encSv g v rs ∧ All2 (ListR g) l rs
theorem Lists.mono {g g' : PH} {v : Value} {l : List (List Int)} (h : Lists g v l) (hl : Le g g') : Lists g' v l:=by
 obtain ⟨rs,h1,h2⟩:=h
 exact ⟨rs,h1.mono hl,h2.mono fun _ _=>ListR.mono hl⟩
def pickB (bits : Nat) (l : List Int) : List Int:=(l.zipIdx.filter fun p=>bits / 2 ^ p.2 % 2 == 1).map (·.1)
def subsetsC (l : List Int) : List (List Int):=(List.range (2 ^ l.length - 1)).map fun i=>pickB (i + 1) l
theorem shl_one : ∀ n,n < 10 → IntKind.i64.wrap (1 * 2 ^ min ((n : Nat) : Int).toNat IntKind.i64.bits) = ((2 ^ n : Nat) : Int):=by decide
theorem shr_bit (b k : Nat) (hk : k < 10) : (((b : Nat) : Int).fdiv (2 ^ min ((k : Nat) : Int).toNat IntKind.i64.bits)) % 2 = ((b / 2 ^ k % 2 : Nat) : Int):=by
 have h1 : min ((k : Nat) : Int).toNat IntKind.i64.bits = k:=by
  have : IntKind.i64.bits = 64:=rfl
  rw [this]; omega
 rw [h1,Int.fdiv_eq_ediv_of_nonneg _ (Int.le_of_lt (Int.pow_pos dC))]
 simp
theorem pow_le (n : Nat) (h : n ≤ 9) : 2 ^ n ≤ 512:=by
 have : (2 : Nat) ^ n ≤ 2 ^ 9:=Nat.pow_le_pow_right dC h
 simpa using this
theorem pickB_succ {bits k : Nat} {l : List Int} (h : k < l.length) : pickB bits (l.take (k + 1)) = if bits / 2 ^ k % 2 = 1 then pickB bits (l.take k) ++ [l[k]] else pickB bits (l.take k):=by
 unfold pickB
 rw [tS h,List.zipIdx_append,List.filter_append,List.map_append]
 have : (List.take k l).length = k:=by rw [List.length_take]; omega
 rw [this]
 simp only [List.zipIdx_cons,List.zipIdx_nil,Nat.zero_add,List.filter_cons,List.filter_nil]
 by_cases hb : bits / 2 ^ k % 2 = 1
 ·simp [hb]
 ·simp [hb]
theorem pickB_length (bits : Nat) (l : List Int) : (pickB bits l).length ≤ l.length:=by
 unfold pickB
 rw [List.length_map]
 have:=List.length_filter_le (fun p : Int × Nat=>bits / 2 ^ p.2 % 2 == 1) l.zipIdx
 simpa using this
theorem subsets_spec (E : World) (g : PH) (s : Own) (v : Value) (l : List Int) (hv : Ints g v l) (hl : l.length ≤ 9) :
  Ctr Tryz.prog E 89 #[v] g s (fun r g' s'=>s = s' ∧ Le g g' ∧ Lists g' r (subsetsC l)):=by
 obtain ⟨p,c,rfl⟩:=SlA.form hv
 have hpow:=pow_le l.length hl
 refine Ctr.of (args:=[.slice p l.length c]) func89 I ntmps89 (bE I) ?_
 refine SC.sR (lA I (SL.nT (SC.sR (lA I (SL.nT (sQ (SC.sR (lA I (SL.nT (bK (SC.nilRow 27 1 ?_)))))))))))
 refine oP (ι:=PH × Value × Nat × List Sv) (fun i=>[(0,.slice p l.length c),(3,i.2.1),(4,vi (i.2.2.1 + 1 : Nat))]) (fun i=>i.1)
  (fun i=>rowA encSv 27 i.2.1 i.2.2.2 :: s) (fun i=>Le g i.1 ∧ i.2.2.1 + 1 ≤ 2 ^ l.length ∧ All2 (ListR i.1) ((List.range i.2.2.1).map fun j=>pickB (j + 1) l) i.2.2.2) (fun i=>2 ^ l.length - i.2.2.1)
  (g,.slice none 0 0,0,[]) sB rfl rfl ⟨Le.refl g,Nat.one_le_two_pow,trivial⟩ ?_
 rintro ⟨g1,ov,b,rs⟩ ⟨hle,hb,hall⟩
 dsimp only at hle hb hall ⊢
 have hrl:=hall.length
 simp only [List.length_map,List.length_range] at hrl
 refine sQ (SC.sR (lM I (lM I (lU (eN uT27 I) (lU (SU.eq (v':=vi ((2 ^ l.length : Nat) : Int)) (SU.shl I I oM) (congrArg vi (shl_one l.length oM))) (lU (lS I I) (SL.nT ?_)))))))
 refine iP I (fun hlt=>?_) (fun hlt=>?_)
 ·have hbl : b + 1 < 2 ^ l.length:=oM
  refine kP (tN (sQ (bK (SC.sR (lA I (SL.nT (sQ (sQ (SC.nilRow 3 1 (rG (lM I (lU (eN uT27 I) (lM I (SL.nT (bK ?_)))))))))))))))
  refine oP (ι:=Value × Nat) (fun i=>[(0,.slice p l.length c),(3,ov),(4,vi (b + 1 : Nat)),(5,i.1),(15,.slice p l.length c),(16,vi l.length),(17,vi i.2)]) (fun _=>g1)
   (fun i=>rowA encInt 3 i.1 (pickB (b + 1) (l.take i.2)) :: rowA encSv 27 ov rs :: s) (fun i=>i.2 ≤ l.length) (fun i=>l.length - i.2) (.slice none 0 0,0)
   sB rfl rfl (Nat.zero_le _) ?_
  rintro ⟨cv,k⟩ hk
  dsimp only at hk ⊢
  have hpl:=pickB_length (b + 1) (l.take k)
  rw [List.length_take] at hpl
  refine SC.sR (lU (lS I I) (SL.nT (sQ ?_)))
  refine iP I (fun hlt2=>?_) (fun hlt2=>?_)
  ·have hkl : k < l.length:=oM
   have hb1:=SlA.based (hv.mono hle) oM
   have hsucc:=pickB_succ (bits:=b + 1) hkl
   refine kP (tN (sQ (bK (SC.sR (lM I (lU (iA uT27 zT3 I I hb1 oM sL) ?_))))))
   refine SL.q (eB iT3 I (SlA.rd (hv.mono hle)) (gE hkl) I) dC ?_
   refine lA I (lA I (SL.nT (SC.sR (lM I (lM I (lU (SU.shr I I oM) (lU (SU.eq (v':=vi (((b + 1) / 2 ^ k % 2 : Nat) : Int)) (SU.and I I) (congrArg vi ((and_one _).trans (shr_bit (b + 1) k oM)))) (lU (eQ I I) (SL.nT ?_)))))))))
   refine iP I (fun hbit=>?_) (fun hbit=>?_)
   ·refine rG (lM I (lM I (lW (bS sty27 I I I (szs_mk sB) dC) ?_)))
    rintro _ _ _ ⟨b29,rfl,rfl,rfl⟩
    refine lW (aP 0 l[k] sty27 I I I I I oM oM) ?_
    rintro cv' _ _ ⟨rfl,rfl⟩
    refine lA I (nL (bN (tN (rG (lU (aD I I oM) (lM I (nL ?_)))))))
    refine ST.to (fun w hw=>?_) (g':=g1) (s':=rowA encInt 3 cv' (pickB (b + 1) (l.take (k + 1))) :: rowA encSv 27 ov rs :: s) ?_
    ·rw [hsucc,if_pos oM]; exact hw
    exact gA (cv',k + 1) sB I I lN lN
   ·refine kP (bN (tN (rG (lU (aD I I oM) (lM I (nL ?_))))))
    refine ST.to (fun w hw=>?_) (g':=g1) (s':=rowA encInt 3 cv (pickB (b + 1) (l.take (k + 1))) :: rowA encSv 27 ov rs :: s) ?_
    ·rw [hsucc,if_neg oM]; exact hw
    exact gA (cv,k + 1) sB I I lN lN
  ·have hkk : l.take k = l:=tL oM
   refine xI (tX (tX (bX (tN (rG (fR fun g2 hle2 hs2=>?_))))))
   rw [hkk] at hs2
   obtain ⟨q2,d2,rfl⟩:=SlA.form (e:=encInt) hs2
   refine lM I (lM I (lW (bS sty22 I I I (szs_mk sB) dC) ?_))
   rintro _ _ _ ⟨b34,rfl,rfl,rfl⟩
   refine lW (aP (e:=encSv) 0 ⟨q2,(pickB (b + 1) l).length,d2⟩ sty22 I I I I I oM oM) ?_
   rintro ov' _ _ ⟨rfl,rfl⟩
   refine lA I (nL (bN (tN (rG (lM I (lU (aD I I oM) (lA I (nL ?_))))))))
   exact gA (g2,ov',b + 1,rs ++ [⟨q2,(pickB (b + 1) l).length,d2⟩]) ⟨I,I,vi_eq (by simp),trivial⟩ I I ⟨hle.trans hle2,hbl,by
    dsimp only
    rw [List.range_succ,List.map_append]
    exact (hall.mono fun _ _=>ListR.mono hle2).append ⟨hs2,trivial⟩⟩ lN
 ·refine xI (tX (tX (bX (tN (SC.sR (lM I (lA I (SL.nT (rE (fT fun g2 hle2 hs2=>?_))))))))))
  have hbb : b = 2 ^ l.length - 1:=oM
  exact ST.ret1 (.inl I) results89 I ⟨I,hle.trans hle2,rs,hs2,by rw [hbb] at hall; exact hall.mono fun _ _=>ListR.mono hle2⟩
def uniqGo {α : Type} (eq : α → α → Bool) : α → List α → List α
 | _,[]=>[]
 | x,y :: r=>if eq y x then uniqGo eq y r else y :: uniqGo eq y r
def uniq {α : Type} (eq : α → α → Bool) : List α → List α
 | []=>[]
 | x :: r=>x :: uniqGo eq x r
theorem uniqGo_append {α : Type} (eq : α → α → Bool) : ∀ (x : α) (a : List α) (y : α) (r : List α),uniqGo eq x (a ++ y :: r) = uniqGo eq x (a ++ [y]) ++ uniqGo eq y r
 | x,[],y,r=>by simp only [List.nil_append,uniqGo]; split <;> simp
 | x,z :: a,y,r=>by
  simp only [List.cons_append,uniqGo]
  split
  ·exact uniqGo_append eq z a y r
  ·rw [uniqGo_append eq z a y r]; rfl
theorem uniq_append {α : Type} (eq : α → α → Bool) (a : List α) (y : α) (r : List α) : uniq eq (a ++ y :: r) = uniq eq (a ++ [y]) ++ uniqGo eq y r:=by
 cases a with
 | nil=>rfl
 | cons x a=>simp only [List.cons_append,uniq]; rw [uniqGo_append]
theorem uniqGo_length {α : Type} (eq : α → α → Bool) : ∀ (x : α) (r : List α),(uniqGo eq x r).length ≤ r.length
 | _,[]=>lR _
 | x,y :: r=>by
  have:=uniqGo_length eq y r
  simp only [uniqGo]
  split <;> simp <;> omega
theorem uniq_length {α : Type} (eq : α → α → Bool) (l : List α) : (uniq eq l).length ≤ l.length:=by
 cases l with
 | nil=>exact lR _
 | cons x r=>have:=uniqGo_length eq x r; simp [uniq]; exact this
theorem split_at {α : Type} {l : List α} {k : Nat} (h : k + 1 < l.length) : ∃ A x y R,l = A ++ x :: y :: R ∧ A.length = k:=by
 refine ⟨l.take k,l[k],l[k + 1],l.drop (k + 2),?_,by rw [List.length_take]; omega⟩
 have h1 : l.drop k = l[k] :: l.drop (k + 1):=List.drop_eq_getElem_cons oM
 have h2 : l.drop (k + 1) = l[k + 1] :: l.drop (k + 2):=List.drop_eq_getElem_cons oM
 rw [← h2,← h1,List.take_append_drop]
theorem take_at {α : Type} (A : List α) (x : α) (R : List α) : (A ++ x :: R).take (A.length + 1) = A ++ [x]:=by
 rw [List.take_append,tL oM]
 simp
theorem uniq_short {α : Type} (eq : α → α → Bool) {l : List α} (h : l.length < 2) : uniq eq l = l:=by
 match l,h with
 | [],_=>rfl
 | [a],_=>rfl
theorem sl_from {b o n c l k : Nat} (h : l < c) : sliced (some ⟨b,o,none⟩) l n c k = .slice (some ⟨b,o + l * k,none⟩) (n - l) (c - l):=by
 have hadd : (⟨b,o,none⟩ : Addr).add (l * k) = ⟨b,o + l * k,none⟩:=by unfold Addr.add; split <;> simp_all
 simp only [sliced]
 rw [if_neg oM]
 simp [hadd]
theorem sl_to {b o n c k : Nat} : sliced (some ⟨b,o,none⟩) 0 n c k = .slice (some ⟨b,o,none⟩) n c:=by
 have hadd : (⟨b,o,none⟩ : Addr).add 0 = ⟨b,o,none⟩:=by unfold Addr.add; split <;> simp_all
 simp [sliced,hadd]
theorem row_cap {α : Type} {k : Nat} {e : Enc α k} {E : World} {g : PH} {s : Own} {w : World} {T : TypeId} {p : Option Addr} {c i : Nat} {l : List α} (h : At E g s w) (hi : s[i]? = some (rowA e T (.slice p l.length c) l)) (h0 : 0 < l.length) : ∃ b cap,p = some ⟨b,0,none⟩ ∧ c = cap + 1 ∧ l.length ≤ cap + 1:=by
 obtain ⟨_,h1⟩:=row_is h hi
 rcases h1 with ⟨q,_,h2⟩ | ⟨b,cap,cur,he,_,hle,_⟩
 ·omega
 ·injection he with e1 e2 e3
  exact ⟨b,cap,e1,e3,hle⟩
theorem compactL {α : Type} (e1 : Enc α 1) (val : α → Value) (hval : ∀ a,e1.enc a = [val a]) (hvc : ∀ a,(val a).cells = #[val a]) (E : World) (g : PH) (s : Own) (v : Value) (fn : FuncId) (eq : α → α → Bool) (l : List α) (hl : l.length < 1099511627776)
  (hcall : ∀ a b s',CallV Tryz.prog E (.func (.func fn) #[] #[]) [val a,val b] g s' (fun r g' s''=>r = vb (eq a b) ∧ g = g' ∧ s' = s'')) :
  Ctr Tryz.prog E 92 #[v,.func (.func fn) #[] #[]] g (rowA e1 27 v l :: s) (fun r g' s'=>g = g' ∧ s' = rowA e1 27 r (uniq eq l) :: s):=by
 refine Ctr.facts fun ⟨w0,hw0⟩=>?_
 obtain ⟨p,c,rfl⟩:=rowA_form (i:=0) hw0 rfl
 have hrow:=fun h=>row_cap (i:=0) hw0 rfl h
 clear hw0 w0
 refine Ctr.of (args:=[.slice p l.length c,.func (.func fn) #[] #[]]) func92 I ntmps92 (bE I) ?_
 refine SC.sR (lA I (SL.nT (sQ (SC.sR (lM I (lU (eN uT22 I) (lU (lS I I) (SL.nT ?_))))))))
 refine iP I (fun h2=>?_) (fun h2=>?_)
 ·refine SC.sR (lM I (lA I (SL.nT (rE (tR ?_)))))
  exact ST.ret1 (.inl I) results92 I ⟨I,by rw [uniq_short eq oM]⟩
 ·obtain ⟨b,cap,rfl,rfl,hcap⟩:=hrow oM
  refine kP (tN (sQ (SC.sR (lA I (SL.nT (bK ?_))))))
  refine oP (ι:=Nat) (fun k=>[(0,.slice (some ⟨b,0,none⟩) l.length (cap + 1)),(1,.func (.func fn) #[] #[]),(5,vi (k + 1))]) (fun _=>g) (fun _=>rowA e1 27 (.slice (some ⟨b,0,none⟩) l.length (cap + 1)) l :: s) (fun k=>k + 1 ≤ l.length ∧ uniq eq (l.take (k + 1)) = l.take (k + 1)) (fun k=>l.length - k) 0
   sB rfl rfl ⟨oM,uniq_short eq (by rw [List.length_take]; omega)⟩ ?_
  rintro k ⟨hk,huq⟩
  refine sQ (SC.sR (lM I (lM I (lU (eN uT22 I) (lU (lS I I) (SL.nT ?_))))))
  refine iP I (fun hlt=>?_) (fun hlt=>?_)
  ·obtain ⟨A,x,y,R,hsp,hA⟩:=split_at (l:=l) (k:=k) oM
   have hlen : l.length = k + 2 + R.length:=by rw [hsp]; simp; omega
   have hg1 : l[((k : Int) + 1).toNat]? = some y:=by
    have h3 : l = (A ++ [x]) ++ y :: R:=by rw [hsp]; simp
    rw [h3]; exact get_mid (by simp; omega)
   have hg0 : l[((k : Int) + 1 - 1).toNat]? = some x:=by rw [hsp]; exact get_mid oM
   have htk : l.take (k + 1) = A ++ [x]:=by rw [hsp,← hA]; exact take_at A x (y :: R)
   rw [htk] at huq
   refine kP (tN (sQ (bK (sQ ?_))))
   refine dW [] [(0,2),(1,2),(2,2),(3,2),(4,1),(5,2),(6,2),(7,2),(8,2),(9,1),(10,0)] Tryz.mixed (by kernel_rfl) ?_
   refine pU rfl (mV rfl) (pU rfl (mV rfl) (pU rfl (mV rfl) (pU rfl (iA uT22 zT27 rfl rfl rfl oM sL) (pK rfl (eB iT27 rfl (Rd.rowA 0 rfl) hg1 (hval _)) (pU rfl (mV rfl) (pU rfl (mV rfl) (pU rfl (sU rfl rfl oM) (pU rfl (iA uT22 zT27 rfl rfl rfl oM sL) (pK rfl (eB iT27 rfl (Rd.rowA 0 rfl) hg0 (hval _)) (SP.o rfl (SO.callV rfl rfl (hcall _ _ _)) dC (.inr (by rintro _ _ _ ⟨rfl,rfl,rfl⟩; exact ⟨by exact Le.refl _,(by exact .refl _)⟩)) ?_))))))))))
   rintro _ _ _ ⟨rfl,rfl,rfl⟩
   refine pN (tN ?_)
   refine iQ I (fun heq=>?_) (fun heq=>?_)
   ·have hU : uniq eq l = (A ++ [x]) ++ uniqGo eq y R:=by rw [hsp,uniq_append,huq]; simp only [uniqGo,heq,if_true]
    refine SC.sR (lM I (lM I (lU (SU.eq (v':=.slice (some ⟨b,0 + (k + 1) * 1,none⟩) (l.length - (k + 1)) (cap + 1 - (k + 1))) (SU.sliceL uT22 zT27 I I oM oM) (by rw [show ((k : Int) + 1).toNat = k + 1 by omega]; exact sl_from oM)) ?_)))
    refine lA I (SL.nT (sQ (SC.sR (lA I (SL.nT (bK ?_))))))
    refine oP (ι:=List α × List α × α × List α × Nat) (fun i=>[(0,.slice (some ⟨b,0,none⟩) l.length (cap + 1)),(1,.func (.func fn) #[] #[]),(5,vi i.1.length),(6,.slice (some ⟨b,0 + (k + 1) * 1,none⟩) (l.length - (k + 1)) (cap + 1 - (k + 1))),(7,vi i.2.2.2.2)]) (fun _=>g)
     (fun i=>rowA e1 27 (.slice (some ⟨b,0,none⟩) l.length (cap + 1)) (i.1 ++ (i.2.1 ++ [i.2.2.1]) ++ i.2.2.2.1) :: s)
     (fun i=>i.1.length + i.2.1.length = k + i.2.2.2.2 ∧ 1 ≤ i.2.2.2.2 ∧ uniq eq l = i.1 ++ uniqGo eq i.2.2.1 i.2.2.2.1 ∧ i.1.length + i.2.1.length + 1 + i.2.2.2.1.length = l.length) (fun i=>i.2.2.2.1.length)
     (A ++ [x],[],y,R,1) ⟨rfl,rfl,vi_eq lN,rfl,rfl,trivial⟩ rfl (by dsimp only; rw [hsp]; simp) ⟨lN,lR _,hU,lN⟩ ?_
    rintro ⟨D,J0,z,R',n⟩ ⟨hn1,hn2,hu,hln⟩
    dsimp only at hn1 hn2 hu hln ⊢
    have hrl : (D ++ (J0 ++ [z]) ++ R').length = l.length:=lN
    refine sQ (SC.sR (lM I (lM I (lU (eN uT22 I) (lU (lS I I) (SL.nT ?_))))))
    refine iP I (fun hlt2=>?_) (fun hlt2=>?_)
    ·cases R' with
     | nil=>simp at hln; omega
     | cons y' R2 =>
     simp only [List.length_cons] at hln
     have hy1 : ((D ++ (J0 ++ [z]) ++ y' :: R2).drop (k + 1))[((n : Nat) : Int).toNat]? = some y':=by
      rw [List.getElem?_drop]; exact get_mid lN
     have hy0 : ((D ++ (J0 ++ [z]) ++ y' :: R2).drop (k + 1))[((n : Nat) : Int) - 1 |>.toNat]? = some z:=by
      rw [List.getElem?_drop,show D ++ (J0 ++ [z]) ++ y' :: R2 = (D ++ J0) ++ z :: y' :: R2 by simp]; exact get_mid lN
     have hrd : ∀ s',Rd g (rowA e1 27 (.slice (some ⟨b,0,none⟩) l.length (cap + 1)) (D ++ (J0 ++ [z]) ++ y' :: R2) :: s') (.slice (some ⟨b,0 + (k + 1) * 1,none⟩) (l.length - (k + 1)) (cap + 1 - (k + 1))) (((D ++ (J0 ++ [z]) ++ y' :: R2).drop (k + 1)).flatMap e1.enc):=fun s'=>by
      rw [Nat.zero_add]; exact Rd.fromA (Rd.rowA 0 rfl)
     refine kP (tN (sQ (bK (sQ ?_))))
     refine dW [] [(0,2),(1,2),(2,2),(3,2),(4,1),(5,2),(6,2),(7,2),(8,2),(9,1),(10,0),(11,2)] Tryz.mixed (by kernel_rfl) ?_
     refine pU rfl (mV rfl) (pU rfl (mV rfl) (pU rfl (mV rfl) (pU rfl (iA uT22 zT27 rfl rfl rfl oM sL) (pK rfl (eB iT27 rfl (hrd _) hy1 (hval _)) (pU rfl (mV rfl) (pU rfl (mV rfl) (pU rfl (sU rfl rfl oM) (pU rfl (iA uT22 zT27 rfl rfl rfl oM sL) (pK rfl (eB iT27 rfl (hrd _) hy0 (hval _)) (SP.o rfl (SO.callV rfl rfl (hcall _ _ _)) dC (.inr (by rintro _ _ _ ⟨rfl,rfl,rfl⟩; exact ⟨by exact Le.refl _,(by exact .refl _)⟩)) ?_))))))))))
     rintro _ _ _ ⟨rfl,rfl,rfl⟩
     refine pU I (SU.not I) (pN (tN ?_))
     refine iQ I (fun hne=>?_) (fun hne=>?_)
     ·have hne' : eq y' z = false:=by simpa using hne
      refine SC.sR (lM I (lM I (lM I (lM I (lU (iA uT22 zT27 I I I oM sL) (lK (eB iT27 I (hrd _) hy1 (hval _)) (lU (iA uT22 zT27 I I I oM sL) (SL.O2 (sT (a:=y') 0 zT27 I I I lN (by rw [hvc,hval])) ?_))))))))
      refine SL.nT (rG (lM I (lU (aD I I oM) (lA I (nL (bN (tN (rG (lM I (lU (aD I I oM) (lA I (nL ?_))))))))))))
      have hset : ∃ J',(D ++ (J0 ++ [z]) ++ y' :: R2).set ((D.length : Nat) : Int).toNat y' = (D ++ [y']) ++ (J' ++ [y']) ++ R2 ∧ J'.length = J0.length:=by
       cases J0 with
       | nil=>exact ⟨[],by rw [show D ++ ([] ++ [z]) ++ y' :: R2 = D ++ z :: y' :: R2 by simp,set_mid oM]; simp,rfl⟩
       | cons j J1=>exact ⟨J1 ++ [z],by rw [show D ++ (j :: J1 ++ [z]) ++ y' :: R2 = D ++ j :: (J1 ++ [z] ++ y' :: R2) by simp,set_mid oM]; simp,by simp⟩
      obtain ⟨J',hset,hJ'⟩:=hset
      refine ST.to (fun w hw=>?_) (g':=g) (s':=rowA e1 27 (.slice (some ⟨b,0,none⟩) l.length (cap + 1)) ((D ++ [y']) ++ (J' ++ [y']) ++ R2) :: s) ?_
      ·rw [← hset]; exact hw
      exact gA (D ++ [y'],J',y',R2,n + 1) ⟨I,I,vi_eq lN,I,I,trivial⟩ I I ⟨lN,lN,by rw [hu]; simp only [uniqGo,hne']; simp,lN⟩ lN
     ·have he' : eq y' z = true:=by simpa using hne
      refine kP (bN (tN (rG (lM I (lU (aD I I oM) (lA I (nL ?_)))))))
      refine ST.to (fun w hw=>?_) (g':=g) (s':=rowA e1 27 (.slice (some ⟨b,0,none⟩) l.length (cap + 1)) (D ++ ((J0 ++ [z]) ++ [y']) ++ R2) :: s) ?_
      ·rw [show D ++ ((J0 ++ [z]) ++ [y']) ++ R2 = D ++ (J0 ++ [z]) ++ y' :: R2 by simp]; exact hw
      exact gA (D,J0 ++ [z],y',R2,n + 1) sB I I ⟨lN,lN,by rw [hu]; simp only [uniqGo,he']; simp,lN⟩ lN
    ·have hR : R' = []:=List.eq_nil_of_length_eq_zero oM
     subst hR
     simp only [List.length_nil] at hln
     refine xI (tX (tX (bX (tN (SC.sR ?_)))))
     refine SL.to (fun w hw=>At.shrink (i:=0) (D:=D) (J:=J0 ++ [z]) hw (by rw [List.append_nil]; rfl) rfl) ?_
     refine lM I (lM I (lU (SU.eq (v':=.slice (some ⟨b,D.length * 1,none⟩) (l.length - D.length) (cap + 1 - D.length)) (SU.sliceL uT22 zT27 I I oM oM) (by rw [Int.toNat_natCast,sl_from oM,Nat.zero_add])) ?_))
     refine lO (SO.clearA (D:=D) 0 sty22 (ones_mk (l:=[.slice none 0 0]) ⟨I,trivial⟩) I I I oM) ?_
     rintro _ _ _ ⟨rfl,rfl⟩
     refine SL.nT (SC.sR (lM I (lM I (lU (SU.eq (v':=.slice (some ⟨b,0,none⟩) D.length (cap + 1)) (SU.sliceH uT22 zT27 I I oM oM) (by rw [Int.toNat_natCast]; exact sl_to)) ?_))))
     refine lA I (SL.nT (rE (bR (tR (tR (bR (tR ?_)))))))
     exact ST.ret1 (.inl I) results92 I ⟨I,by rw [hu]; simp [uniqGo]⟩
   ·refine kP (bN (tN (rG (lM I (lU (aD I I oM) (lA I (nL ?_)))))))
    exact gA (k + 1) ⟨I,I,vi_eq oM,trivial⟩ I I ⟨oM,by
     have h3 : l = (A ++ [x]) ++ y :: R:=by rw [hsp]; simp
     have h4 : l.take (k + 1 + 1) = (A ++ [x]) ++ [y]:=by
      rw [h3,show k + 1 + 1 = (A ++ [x]).length + 1 by simp; omega]; exact take_at _ y R
     rw [h4,show (A ++ [x]) ++ [y] = A ++ x :: [y] by simp,uniq_append,huq]
     simp [uniqGo,heq]⟩ oM
  ·have hkk : k + 1 = l.length:=oM
   rw [hkk,tL (lR _)] at huq
   refine xI (tX (tX (bX (tN (SC.sR (lM I (lA I (SL.nT (rE ?_)))))))))
   exact ST.ret1 (.inl I) results92 I ⟨I,by rw [huq]⟩
theorem compactI (E : World) (g : PH) (s : Own) (v : Value) (l : List Int) (hl : l.length < 17592186044416) :
  Ctr Tryz.prog E 88 #[v] g (rowA encInt 3 v l :: s) (fun r g' s'=>g = g' ∧ s' = rowA encInt 3 r (uniq (fun a b : Int=>decide (a = b)) l) :: s):=by
 refine Ctr.facts fun ⟨w0,hw0⟩=>?_
 obtain ⟨p,c,rfl⟩:=rowA_form (i:=0) hw0 rfl
 have hrow:=fun h=>row_cap (i:=0) hw0 rfl h
 clear hw0 w0
 refine Ctr.of (args:=[.slice p l.length c]) func88 I ntmps88 (bE I) ?_
 refine SC.sR (lA I (SL.nT (sQ (SC.sR (lM I (lU (eN uT27 I) (lU (lS I I) (SL.nT ?_))))))))
 refine iP I (fun h2=>?_) (fun h2=>?_)
 ·refine SC.sR (lM I (lA I (SL.nT (rE (tR ?_)))))
  exact ST.ret1 (.inl I) results88 I ⟨I,by rw [uniq_short (fun a b : Int=>decide (a = b)) oM]⟩
 ·obtain ⟨b,cap,rfl,rfl,hcap⟩:=hrow oM
  refine kP (tN (sQ (SC.sR (lA I (SL.nT (bK ?_))))))
  refine oP (ι:=Nat) (fun k=>[(0,.slice (some ⟨b,0,none⟩) l.length (cap + 1)),(3,vi (k + 1))]) (fun _=>g) (fun _=>rowA encInt 3 (.slice (some ⟨b,0,none⟩) l.length (cap + 1)) l :: s) (fun k=>k + 1 ≤ l.length ∧ uniq (fun a b : Int=>decide (a = b)) (l.take (k + 1)) = l.take (k + 1)) (fun k=>l.length - k) 0
   sB rfl rfl ⟨oM,uniq_short (fun a b : Int=>decide (a = b)) (by rw [List.length_take]; omega)⟩ ?_
  rintro k ⟨hk,huq⟩
  refine sQ (SC.sR (lM I (lM I (lU (eN uT27 I) (lU (lS I I) (SL.nT ?_))))))
  refine iP I (fun hlt=>?_) (fun hlt=>?_)
  ·obtain ⟨A,x,y,R,hsp,hA⟩:=split_at (l:=l) (k:=k) oM
   have hlen : l.length = k + 2 + R.length:=by rw [hsp]; simp; omega
   have hg1 : l[((k : Int) + 1).toNat]? = some y:=by
    have h3 : l = (A ++ [x]) ++ y :: R:=by rw [hsp]; simp
    rw [h3]; exact get_mid (by simp; omega)
   have hg0 : l[((k : Int) + 1 - 1).toNat]? = some x:=by rw [hsp]; exact get_mid oM
   have htk : l.take (k + 1) = A ++ [x]:=by rw [hsp,← hA]; exact take_at A x (y :: R)
   rw [htk] at huq
   refine kP (tN (sQ (bK (sQ ?_))))
   refine dW [] [(0,2),(1,2),(2,2),(3,1),(4,2),(5,2),(6,2),(7,2),(8,1),(9,2)] Tryz.mixed (by kernel_rfl) ?_
   refine pU I (mV I) (pU I (mV I) (pU I (iA uT27 zT3 I I I oM sL) (pK I (eB iT3 I (Rd.rowA 0 I) hg1 I) (pU I (mV I) (pU I (mV I) (pU I (sU I I oM) (pU I (iA uT27 zT3 I I I oM sL) (pK I (eB iT3 I (Rd.rowA 0 I) hg0 I) (pU I (eQ I I) (pN (tN ?_)))))))))))
   refine iQ I (fun heq=>?_) (fun heq=>?_)
   ·have hU : uniq (fun a b : Int=>decide (a = b)) l = (A ++ [x]) ++ uniqGo (fun a b : Int=>decide (a = b)) y R:=by rw [hsp,uniq_append,huq]; simp only [uniqGo,heq,if_true]
    refine SC.sR (lM I (lM I (lU (SU.eq (v':=.slice (some ⟨b,0 + (k + 1) * 1,none⟩) (l.length - (k + 1)) (cap + 1 - (k + 1))) (SU.sliceL uT27 zT3 I I oM oM) (by rw [show ((k : Int) + 1).toNat = k + 1 by omega]; exact sl_from oM)) ?_)))
    refine lA I (SL.nT (sQ (SC.sR (lA I (SL.nT (bK ?_))))))
    refine oP (ι:=List Int × List Int × Int × List Int × Nat) (fun i=>[(0,.slice (some ⟨b,0,none⟩) l.length (cap + 1)),(3,vi i.1.length),(4,.slice (some ⟨b,0 + (k + 1) * 1,none⟩) (l.length - (k + 1)) (cap + 1 - (k + 1))),(5,vi i.2.2.2.2)]) (fun _=>g)
     (fun i=>rowA encInt 3 (.slice (some ⟨b,0,none⟩) l.length (cap + 1)) (i.1 ++ (i.2.1 ++ [i.2.2.1]) ++ i.2.2.2.1) :: s)
     (fun i=>i.1.length + i.2.1.length = k + i.2.2.2.2 ∧ 1 ≤ i.2.2.2.2 ∧ uniq (fun a b : Int=>decide (a = b)) l = i.1 ++ uniqGo (fun a b : Int=>decide (a = b)) i.2.2.1 i.2.2.2.1 ∧ i.1.length + i.2.1.length + 1 + i.2.2.2.1.length = l.length) (fun i=>i.2.2.2.1.length)
     (A ++ [x],[],y,R,1) ⟨rfl,vi_eq lN,rfl,rfl,trivial⟩ rfl (by dsimp only; rw [hsp]; simp) ⟨lN,lR _,hU,lN⟩ ?_
    rintro ⟨D,J0,z,R',n⟩ ⟨hn1,hn2,hu,hln⟩
    dsimp only at hn1 hn2 hu hln ⊢
    have hrl : (D ++ (J0 ++ [z]) ++ R').length = l.length:=lN
    refine sQ (SC.sR (lM I (lM I (lU (eN uT27 I) (lU (lS I I) (SL.nT ?_))))))
    refine iP I (fun hlt2=>?_) (fun hlt2=>?_)
    ·cases R' with
     | nil=>simp at hln; omega
     | cons y' R2 =>
     simp only [List.length_cons] at hln
     have hy1 : ((D ++ (J0 ++ [z]) ++ y' :: R2).drop (k + 1))[((n : Nat) : Int).toNat]? = some y':=by
      rw [List.getElem?_drop]; exact get_mid lN
     have hy0 : ((D ++ (J0 ++ [z]) ++ y' :: R2).drop (k + 1))[((n : Nat) : Int) - 1 |>.toNat]? = some z:=by
      rw [List.getElem?_drop,show D ++ (J0 ++ [z]) ++ y' :: R2 = (D ++ J0) ++ z :: y' :: R2 by simp]; exact get_mid lN
     have hrd : ∀ s',Rd g (rowA encInt 3 (.slice (some ⟨b,0,none⟩) l.length (cap + 1)) (D ++ (J0 ++ [z]) ++ y' :: R2) :: s') (.slice (some ⟨b,0 + (k + 1) * 1,none⟩) (l.length - (k + 1)) (cap + 1 - (k + 1))) (((D ++ (J0 ++ [z]) ++ y' :: R2).drop (k + 1)).flatMap encInt.enc):=fun s'=>by
      rw [Nat.zero_add]; exact Rd.fromA (Rd.rowA 0 rfl)
     refine kP (tN (sQ (bK (sQ ?_))))
     refine dW [] [(0,2),(1,2),(2,2),(3,1),(4,2),(5,2),(6,2),(7,2),(8,1),(9,2)] Tryz.mixed (by kernel_rfl) ?_
     refine pU I (mV I) (pU I (mV I) (pU I (iA uT27 zT3 I I I oM sL) (pK I (eB iT3 I (hrd _) hy1 I) (pU I (mV I) (pU I (mV I) (pU I (sU I I oM) (pU I (iA uT27 zT3 I I I oM sL) (pK I (eB iT3 I (hrd _) hy0 I) (pU I (nQ I I) (pN (tN ?_)))))))))))
     refine iQ I (fun hne=>?_) (fun hne=>?_)
     ·have hne' : decide (y' = z) = false:=by simpa using hne
      refine SC.sR (lM I (lM I (lM I (lM I (lU (iA uT27 zT3 I I I oM sL) (lK (eB iT3 I (hrd _) hy1 I) (lU (iA uT27 zT3 I I I oM sL) (SL.O2 (sT (a:=y') 0 zT3 I I I lN I) ?_))))))))
      refine SL.nT (rG (lM I (lU (aD I I oM) (lA I (nL (bN (tN (rG (lM I (lU (aD I I oM) (lA I (nL ?_))))))))))))
      have hset : ∃ J',(D ++ (J0 ++ [z]) ++ y' :: R2).set ((D.length : Nat) : Int).toNat y' = (D ++ [y']) ++ (J' ++ [y']) ++ R2 ∧ J'.length = J0.length:=by
       cases J0 with
       | nil=>exact ⟨[],by rw [show D ++ ([] ++ [z]) ++ y' :: R2 = D ++ z :: y' :: R2 by simp,set_mid oM]; simp,rfl⟩
       | cons j J1=>exact ⟨J1 ++ [z],by rw [show D ++ (j :: J1 ++ [z]) ++ y' :: R2 = D ++ j :: (J1 ++ [z] ++ y' :: R2) by simp,set_mid oM]; simp,by simp⟩
      obtain ⟨J',hset,hJ'⟩:=hset
      refine ST.to (fun w hw=>?_) (g':=g) (s':=rowA encInt 3 (.slice (some ⟨b,0,none⟩) l.length (cap + 1)) ((D ++ [y']) ++ (J' ++ [y']) ++ R2) :: s) ?_
      ·rw [← hset]; exact hw
      exact gA (D ++ [y'],J',y',R2,n + 1) ⟨I,vi_eq lN,I,I,trivial⟩ I I ⟨lN,lN,by rw [hu]; simp only [uniqGo,hne']; simp,lN⟩ lN
     ·have he' : decide (y' = z) = true:=by simpa using hne
      refine kP (bN (tN (rG (lM I (lU (aD I I oM) (lA I (nL ?_)))))))
      refine ST.to (fun w hw=>?_) (g':=g) (s':=rowA encInt 3 (.slice (some ⟨b,0,none⟩) l.length (cap + 1)) (D ++ ((J0 ++ [z]) ++ [y']) ++ R2) :: s) ?_
      ·rw [show D ++ ((J0 ++ [z]) ++ [y']) ++ R2 = D ++ (J0 ++ [z]) ++ y' :: R2 by simp]; exact hw
      exact gA (D,J0 ++ [z],y',R2,n + 1) sB I I ⟨lN,lN,by rw [hu]; simp only [uniqGo,he']; simp,lN⟩ lN
    ·have hR : R' = []:=List.eq_nil_of_length_eq_zero oM
     subst hR
     simp only [List.length_nil] at hln
     refine xI (tX (tX (bX (tN (SC.sR ?_)))))
     refine SL.to (fun w hw=>At.shrink (i:=0) (D:=D) (J:=J0 ++ [z]) hw (by rw [List.append_nil]; rfl) rfl) ?_
     refine lM I (lM I (lU (SU.eq (v':=.slice (some ⟨b,D.length * 1,none⟩) (l.length - D.length) (cap + 1 - D.length)) (SU.sliceL uT27 zT3 I I oM oM) (by rw [Int.toNat_natCast,sl_from oM,Nat.zero_add])) ?_))
     refine lO (SO.clearA (D:=D) 0 sty27 (ones_mk (l:=[vi 0]) ⟨I,trivial⟩) I I I oM) ?_
     rintro _ _ _ ⟨rfl,rfl⟩
     refine SL.nT (SC.sR (lM I (lM I (lU (SU.eq (v':=.slice (some ⟨b,0,none⟩) D.length (cap + 1)) (SU.sliceH uT27 zT3 I I oM oM) (by rw [Int.toNat_natCast]; exact sl_to)) ?_))))
     refine lA I (SL.nT (rE (bR (tR (tR (bR (tR ?_)))))))
     exact ST.ret1 (.inl I) results88 I ⟨I,by rw [hu]; simp [uniqGo]⟩
   ·refine kP (bN (tN (rG (lM I (lU (aD I I oM) (lA I (nL ?_)))))))
    exact gA (k + 1) ⟨I,vi_eq oM,trivial⟩ I I ⟨oM,by
     have h3 : l = (A ++ [x]) ++ y :: R:=by rw [hsp]; simp
     have h4 : l.take (k + 1 + 1) = (A ++ [x]) ++ [y]:=by
      rw [h3,show k + 1 + 1 = (A ++ [x]).length + 1 by simp; omega]; exact take_at _ y R
     rw [h4,show (A ++ [x]) ++ [y] = A ++ x :: [y] by simp,uniq_append,huq]
     simp [uniqGo,heq]⟩ oM
  ·have hkk : k + 1 = l.length:=oM
   rw [hkk,tL (lR _)] at huq
   refine xI (tX (tX (bX (tN (SC.sR (lM I (lA I (SL.nT (rE ?_)))))))))
   exact ST.ret1 (.inl I) results88 I ⟨I,by rw [huq]⟩
theorem growNil (E : World) (g : PH) (s : Own) (n : Nat) (hn : n < 1099511627776) :
  Ctr Tryz.prog E 145 #[.slice none 0 0,vi n] g s (fun r g' s'=>g = g' ∧ s' = rowA encInt 3 r [] :: s):=by
 refine Ctr.of (args:=[.slice none 0 0,vi n]) func145 I ntmps145 (bE I) ?_
 refine SC.sR (lA I (SL.nT (sQ (SC.sR (lM I (lU (lS I I) (SL.nT ?_)))))))
 refine iP I (fun hneg=>?_) (fun hneg=>?_)
 ·exfalso
  omega
 ·refine kP (tN (sQ (SC.sR (lM I (lM I (lU (SU.cap uT27 I) (lM I (lU (eN uT27 I) (lU (sU I I oM) (lU (SU.eq (v':=vi n) (sU I I oM) (congrArg vi oM)) (lA I (SL.nT (SC.sR (lM I (lU (gR I I) (SL.nT ?_))))))))))))))))
  refine iP I (fun hpos=>?_) (fun hpos=>?_)
  ·refine rG (lM I (lM I (lU (SU.cap uT27 I) (lU (SU.eq (v':=.slice none 0 0) (SU.sliceH uT27 zT3 I I oM oM) I) (lM I (lW (SO.appendZ encInt sty27 uT3 I I oM oM oM) ?_))))))
   rintro _ _ _ ⟨b,cap,rfl,hcap,rfl,rfl⟩
   refine lM I (lU (eN uT27 I) (lU (SU.eq (v':=.slice (some ⟨b,0,none⟩) 0 (cap + 1)) (SU.sliceH uT27 zT3 I I oM oM) sl_to) (lA I (SL.nT (SC.sR (lM I (lA I (SL.nT (rE ?_)))))))))
   exact ST.ret1 (.inl I) results145 I ⟨I,I⟩
  ·refine kP (tN (SC.sR (lM I (lA I (SL.nT (rE (ST.nilRow 3 1 ?_)))))))
   exact ST.ret1 (.inl I) results145 I ⟨I,I⟩
def sumLen (ls : List (List Int)) : Nat:=(ls.map List.length).sum
theorem sumLen_take (ls : List (List Int)) (k : Nat) : sumLen (ls.take k) ≤ sumLen ls:=by
 have h:=congrArg (fun l=>(l.map List.length).sum) (List.take_append_drop k ls)
 simp only [List.map_append,List.sum_append] at h
 unfold sumLen
 omega
theorem sumLen_succ {ls : List (List Int)} {k : Nat} (h : k < ls.length) : sumLen (ls.take (k + 1)) = sumLen (ls.take k) + ls[k].length:=by
 unfold sumLen
 rw [tS h,List.map_append,List.sum_append]
 rfl
theorem sumLen_flatten (ls : List (List Int)) : ls.flatten.length = sumLen ls:=List.length_flatten
theorem concat_spec (E : World) (g : PH) (s : Own) (v : Value) (ls : List (List Int)) (hv : Lists g v ls) (hn : ls.length < 1099511627776) (hl : sumLen ls < 1099511627776) :
  Ctr Tryz.prog E 94 #[v] g s (fun r g' s'=>g = g' ∧ s' = rowA encInt 3 r ls.flatten :: s):=by
 obtain ⟨rs,hrs,hall⟩:=hv
 have hlen:=hall.length
 obtain ⟨p,c,rfl⟩:=SlA.form hrs
 refine Ctr.of (args:=[.slice p rs.length c]) func94 I ntmps94 (bE I) ?_
 refine SC.sR (lA I (SL.nT (SC.sR (lA I (SL.nT (sQ (SC.sR (lM I (lU (eN uT22 I) (lM I (SL.nT (bK ?_))))))))))))
 refine oP (ι:=Nat) (fun k=>[(0,.slice p rs.length c),(3,vi (sumLen (ls.take k))),(9,.slice p rs.length c),(10,vi rs.length),(11,vi k)]) (fun _=>g) (fun _=>s) (fun k=>k ≤ rs.length) (fun k=>rs.length - k) 0
  sB rfl rfl (Nat.zero_le _) ?_
 rintro k hk
 have hsl:=sumLen_take ls k
 refine SC.sR (lU (lS I I) (SL.nT (sQ ?_)))
 refine iP I (fun hlt=>?_) (fun hlt=>?_)
 ·have hkl : k < ls.length:=oM
  have hkr : k < rs.length:=oM
  have hR:=hall.get (gE hkl) (gE hkr)
  have hRl:=hR.len
  have hb1:=hrs.based oM
  have hs1:=sumLen_succ hkl
  have hs2:=sumLen_take ls (k + 1)
  refine kP (tN (sQ (bK (SC.sR (lU (iA uT22 zT27 I I hb1 oM sL) ?_)))))
  refine SL.q (eB iT27 I hrs.rd (gE hkr) I) dC ?_
  refine lA I (SL.nT (SC.sR (lM I (lM I (lU (eN uT27 I) (lU (aD I I oM) (lA I (SL.nT (SC.sR (lM I (lU (lS I I) (SL.nT ?_))))))))))))
  refine iP I (fun hneg=>?_) (fun hneg=>?_)
  ·exfalso
   omega
  ·refine kP (bN (tN (rG (lU (aD I I oM) (lM I (nL ?_))))))
   exact gA (k + 1) ⟨I,vi_eq oM,I,I,I,trivial⟩ I I oM oM
 ·have hkk : ls.take k = ls:=tL oM
  refine xI (tX (tX (bX (tN (SC.sR (lM I (lW (cL call145 I (growNil E g s (sumLen (ls.take k)) oM)) ?_)))))))
  rintro nv _ _ ⟨rfl,rfl⟩
  refine lA I (SL.nT (sQ (SC.sR (lM I (lU (eN uT22 I) (lM I (SL.nT (bK ?_))))))))
  refine oP (ι:=Value × Nat) (fun i=>[(0,.slice p rs.length c),(6,i.1),(25,.slice p rs.length c),(26,vi rs.length),(27,vi i.2)]) (fun _=>g) (fun i=>rowA encInt 3 i.1 (ls.take i.2).flatten :: s) (fun i=>i.2 ≤ rs.length) (fun i=>rs.length - i.2) (nv,0)
   sB rfl rfl (Nat.zero_le _) ?_
  rintro ⟨cv,m⟩ hm
  dsimp only at hm ⊢
  refine SC.sR (lU (lS I I) (SL.nT (sQ ?_)))
  refine iP I (fun hlt2=>?_) (fun hlt2=>?_)
  ·have hml : m < ls.length:=oM
   have hmr : m < rs.length:=oM
   have hR:=hall.get (gE hml) (gE hmr)
   have hb1:=hrs.based oM
   have hs1:=sumLen_succ hml
   have hs2:=sumLen_take ls (m + 1)
   have hs3:=sumLen_flatten (ls.take m)
   refine kP (tN (sQ (bK (SC.sR (lU (iA uT22 zT27 I I hb1 oM sL) ?_)))))
   refine SL.q (eB iT27 I hrs.rd (gE hmr) I) dC ?_
   refine lA I (SL.nT (rG (lM I (lM I (lW (aQ (e:=encInt) 0 sty27 I I I hR oM oM) ?_)))))
   rintro cv' _ _ ⟨rfl,rfl⟩
   refine lA I (nL (bN (tN (rG (lU (aD I I oM) (lM I (nL ?_)))))))
   refine ST.to (fun w hw=>?_) (g':=g) (s':=rowA encInt 3 cv' (ls.take (m + 1)).flatten :: s) ?_
   ·rw [tS hml,List.flatten_append,List.flatten_singleton]; exact hw
   exact gA (cv',m + 1) sB I I lN lN
  ·have hmm : ls.take m = ls:=tL oM
   rw [hmm]
   refine xI (tX (tX (bX (tN (SC.sR (lM I (lA I (SL.nT (rE ?_)))))))))
   exact ST.ret1 (.inl I) results94 I ⟨I,I⟩
def lbL (ls : List (List Int)) (t : List Int) : Nat:=(ls.filter fun x=>decide (compareC x t < 0)).length
theorem lb_gen {α : Type} {p : α → Bool} {l : List α} {i : Nat} (hi : i ≤ l.length) (h1 : ∀ k (h : k < l.length),k < i → p l[k] = true) (h2 : ∀ k (h : k < l.length),i ≤ k → p l[k] = false) : (l.filter p).length = i:=by
 rw [← List.take_append_drop i l,List.filter_append,List.length_append]
 have f1 : (l.take i).filter p = l.take i:=List.filter_eq_self.2 fun x hx=>by
  obtain ⟨k,hk,rfl⟩:=List.getElem_of_mem hx
  rw [List.length_take] at hk
  rw [List.getElem_take]
  exact h1 k oM oM
 have f2 : (l.drop i).filter p = []:=List.filter_eq_nil_iff.2 fun x hx=>by
  obtain ⟨k,hk,rfl⟩:=List.getElem_of_mem hx
  rw [List.length_drop] at hk
  rw [List.getElem_drop,h2 (i + k) oM oM]
  simp
 rw [f1,f2]
 simp
 omega
theorem binSearchL (E : World) (g : PH) (s : Own) (v u : Value) (ls : List (List Int)) (t : List Int) (hv : Lists g v ls) (hu : Ints g u t) (hl : ls.length < 1099511627776) (hll : ∀ x ∈ ls,x.length < 1099511627776)
  (hs : ∀ i j (hi : i < ls.length) (hj : j < ls.length),i < j → compareC ls[j] t < 0 → compareC ls[i] t < 0) :
  Ctr Tryz.prog E 95 #[v,u,.func (.func 91) #[] #[]] g s (fun r g' s'=>(∃ b,r = .tuple #[vi (lbL ls t),vb b]) ∧ g = g' ∧ s = s'):=by
 obtain ⟨rs,hrs,hall⟩:=hv
 have hlen:=hall.length
 obtain ⟨p,c,rfl⟩:=SlA.form hrs
 refine Ctr.of (args:=[.slice p rs.length c,u,.func (.func 91) #[] #[]]) func95 I ntmps95 (bE I) ?_
 refine SC.sR (lA I (lA I (SL.nT (SC.sR (lM I (lU (eN uT22 I) (lA I (SL.nT (SC.sR (lM I (lA I (lA I (SL.nT (sQ (bK ?_)))))))))))))))
 refine oP (ι:=Nat × Nat) (fun q=>[(0,.slice p rs.length c),(1,u),(2,.func (.func 91) #[] #[]),(8,vi rs.length),(9,vi q.1),(10,vi q.2)]) (fun _=>g) (fun _=>s)
  (fun q=>q.1 ≤ q.2 ∧ q.2 ≤ ls.length ∧ (∀ k (h : k < ls.length),k < q.1 → compareC ls[k] t < 0) ∧ ∀ k (h : k < ls.length),q.2 ≤ k → ¬ compareC ls[k] t < 0) (fun q=>q.2 - q.1) (0,ls.length)
  ⟨rfl,rfl,rfl,rfl,rfl,vi_eq oM,trivial⟩ rfl rfl ⟨Nat.zero_le _,lR _,fun k _ h=>absurd h oM,fun k h1 h2=>absurd h1 (by dsimp only at h2; omega)⟩ ?_
 rintro ⟨i,j⟩ ⟨hij,hj,hlo,hhi⟩
 dsimp only at hij hj hlo hhi ⊢
 refine sQ (SC.sR (lM I (lM I (lU (lS I I) (SL.nT ?_)))))
 refine iP I (fun hlt=>?_) (fun hlt=>?_)
 ·have hb1:=hrs.based oM
  have hmid : ((i : Int) + (j : Int)) / 2 = (((i + j) / 2 : Nat) : Int):=oM
  have hml : (i + j) / 2 < ls.length:=oM
  have hmr : (i + j) / 2 < rs.length:=oM
  have hmx : rs[((((i + j) / 2 : Nat) : Int)).toNat]? = some rs[(i + j) / 2]:=gE hmr
  have hR:=hall.get (gE hml) (gE hmr)
  have hxl:=hll _ (gM hml)
  refine kP (tN (bK (SC.sR (lM I (lM I (lU (aD I I oM) (lU (SU.convert uT3 uT139 I) (lU (SU.shr I I dC) (lU (SU.eq (SU.convert uT139 uT3 I) (congrArg vi ((half_int _ oM oM).trans hmid))) (lA I (SL.nT (SC.sR (lM I (lM I (lM I (lU (iA uT22 zT27 I I hb1 oM sL) (lK (eB iT27 I hrs.rd hmx I) (lM I (lW (SO.callV I I (CallV.mk (args:=[_,_]) (cap:=[]) call91 (compareSets E g _ _ _ ls[(i + j) / 2] t hR hu hxl))) ?_)))))))))))))))))))
  rintro _ _ _ ⟨rfl,rfl,rfl⟩
  refine lU (lS I I) (SL.nT ?_)
  refine iP I (fun hc=>?_) (fun hc=>?_)
  ·refine rG (lM I (lU (aD I I oM) (lA I (nL (bN ?_)))))
   refine gA ((i + j) / 2 + 1,j) sB I I ⟨lN,hj,fun k hk h=>?_,hhi⟩ lN
   dsimp only at h
   rcases Nat.eq_or_lt_of_le (show k ≤ (i + j) / 2 by omega) with rfl | h'
   ·exact hc
   ·exact hs k ((i + j) / 2) hk hml h' hc
  ·refine rG (lM I (lA I (nL (bN ?_))))
   refine gA (i,(i + j) / 2) sB I I ⟨lN,lN,hlo,fun k hk h=>?_⟩ lN
   dsimp only at h
   rcases Nat.eq_or_lt_of_le (show (i + j) / 2 ≤ k by omega) with h' | h'
   ·subst h'; exact hc
   ·exact fun hx=>hc (hs ((i + j) / 2) k hml hk h' hx)
 ·have hie : i = j:=oM
  subst hie
  have hlb : lbL ls t = i:=lb_gen hj (fun k h h'=>by simpa using hlo k h h') (fun k h h'=>by simpa using hhi k h h')
  have hx0:=fun h=>hrs.based h
  have hx : (i : Int) < (rs.length : Int) → ∃ r,rs[((i : Nat) : Int).toNat]? = some r ∧ ∃ x,ListR g x r ∧ x.length < 1099511627776:=fun h=>by
   have h2 : i < ls.length:=oM
   have h3 : i < rs.length:=oM
   exact ⟨rs[i],gE h3,ls[i],hall.get (gE h2) (gE h3),hll _ (gM h2)⟩
  by_cases hin : (i : Int) < (rs.length : Int)
  ·obtain ⟨r,hr,x,hxr,hxl⟩:=hx hin
   have hd : decide ((i : Int) < (rs.length : Int)) = true:=decide_eq_true hin
   refine xI (tX (tX (bX (tN (SC.sR (lM I (lM I (lM I (lU (SU.eq (lS I I) (congrArg vb hd)) (lM I (lY I I I (mV I) (lY I I I (mV I) (lY I I I (mV I) (lY I I I (iA uT22 zT27 I I (hx0 oM) oM sL) (SL.gq (gT I I I dC) (eB iT27 I hrs.rd hr I) dC (lY I I I (mV I) (SL.go (gT I I I dC) (SO.callV I I (CallV.mk (args:=[_,_]) (cap:=[]) call91 (compareSets E g _ _ _ x t hxr hu hxl))) dC ?_)))))))))))))))))
   rintro _ _ _ ⟨rfl,rfl,rfl⟩
   refine lY I I I (eQ I I) (lU (pT I I) (lA I (lA I (SL.nT (rE ?_)))))
   exact ST.ret2 (.inl I) results95 I I ⟨⟨_,by rw [hlb]⟩,I,I⟩
  ·have hd : decide ((i : Int) < (rs.length : Int)) = false:=decide_eq_false hin
   refine xI (tX (tX (bX (tN (SC.sR (lM I (lM I (lM I (lU (SU.eq (lS I I) (congrArg vb hd)) (lM I (lZ I I I (lZ I I I (lZ I I I (lZ I I I (lZ I I I (lZ I I I (lZ I I I (lZ I I I (lU (pF I I) (lA I (lA I (SL.nT (rE ?_)))))))))))))))))))))))
   exact ST.ret2 (.inl I) results95 I I ⟨⟨_,by rw [hlb]⟩,I,I⟩
theorem cmpI_cases (a b : Int) : (a < b ∧ cmpI a b = -1) ∨ (a = b ∧ cmpI a b = 0) ∨ (b < a ∧ cmpI a b = 1):=by
 unfold cmpI
 by_cases h : a < b
 ·exact .inl ⟨h,if_pos h⟩
 ·by_cases h2 : a > b
  ·exact .inr (.inr ⟨h2,by rw [if_neg h,if_pos h2]⟩)
  ·exact .inr (.inl ⟨oM,by rw [if_neg h,if_neg h2]⟩)
theorem cmpL_antisymm : ∀ a b : List Int,cmpL b a = - cmpL a b
 | [],[]=>rfl
 | [],_ :: _=>rfl
 | _ :: _,[]=>rfl
 | x :: a,y :: b=>by
  have ih:=cmpL_antisymm a b
  simp only [cmpL]
  rcases cmpI_cases x y with ⟨h,e⟩ | ⟨h,e⟩ | ⟨h,e⟩ <;> rcases cmpI_cases y x with ⟨h',e'⟩ | ⟨h',e'⟩ | ⟨h',e'⟩ <;> simp [e,e'] <;> omega
theorem cmpL_eq : ∀ a b : List Int,cmpL a b = 0 ↔ a = b
 | [],[]=>by simp [cmpL]
 | [],_ :: _=>by simp [cmpL]
 | _ :: _,[]=>by simp [cmpL]
 | x :: a,y :: b=>by
  have ih:=cmpL_eq a b
  simp only [cmpL]
  rcases cmpI_cases x y with ⟨h,e⟩ | ⟨h,e⟩ | ⟨h,e⟩
  ·simp [e]; omega
  ·subst h; simp [e,ih]
  ·simp [e]; omega
theorem cmpL_trans : ∀ a b c : List Int,cmpL a b < 0 → cmpL b c < 0 → cmpL a c < 0
 | [],[],_,h,_=>by simp [cmpL] at h
 | [],_ :: _,[],_,h=>by simp [cmpL] at h
 | [],_ :: _,_ :: _,_,_=>by simp [cmpL]
 | _ :: _,[],_,h,_=>by simp [cmpL] at h
 | _ :: _,_ :: _,[],_,h=>by simp [cmpL] at h
 | x :: a,y :: b,z :: c,h1,h2=>by
  have ih:=cmpL_trans a b c
  simp only [cmpL] at h1 h2 ⊢
  rcases cmpI_cases x y with ⟨h,e⟩ | ⟨h,e⟩ | ⟨h,e⟩ <;> rcases cmpI_cases y z with ⟨h',e'⟩ | ⟨h',e'⟩ | ⟨h',e'⟩ <;> rcases cmpI_cases x z with ⟨h'',e''⟩ | ⟨h'',e''⟩ | ⟨h'',e''⟩ <;> simp [e,e',e''] at h1 h2 ⊢ <;> first | omega | exact ih h1 h2
theorem compareC_antisymm (a b : List Int) : compareC b a = - compareC a b:=by
 have h1:=cmpL_antisymm a b
 unfold compareC
 rcases cmpI_cases a.length b.length with ⟨h,e⟩ | ⟨h,e⟩ | ⟨h,e⟩ <;> rcases cmpI_cases b.length a.length with ⟨h',e'⟩ | ⟨h',e'⟩ | ⟨h',e'⟩ <;> simp [e,e'] <;> omega
theorem compareC_eq (a b : List Int) : compareC a b = 0 ↔ a = b:=by
 have h1:=cmpL_eq a b
 unfold compareC
 rcases cmpI_cases a.length b.length with ⟨h,e⟩ | ⟨h,e⟩ | ⟨h,e⟩
 ·simp [e]; intro h2; rw [h2] at h; omega
 ·simp [e,h1]
 ·simp [e]; intro h2; rw [h2] at h; omega
theorem compareC_trans (a b c : List Int) (h1 : compareC a b < 0) (h2 : compareC b c < 0) : compareC a c < 0:=by
 have ih:=cmpL_trans a b c
 unfold compareC at *
 rcases cmpI_cases a.length b.length with ⟨h,e⟩ | ⟨h,e⟩ | ⟨h,e⟩ <;> rcases cmpI_cases b.length c.length with ⟨h',e'⟩ | ⟨h',e'⟩ | ⟨h',e'⟩ <;> rcases cmpI_cases a.length c.length with ⟨h'',e''⟩ | ⟨h'',e''⟩ | ⟨h'',e''⟩ <;> simp [e,e',e''] at h1 h2 ⊢ <;> first | omega | exact ih h1 h2
theorem compareC_self (a : List Int) : compareC a a = 0:=(compareC_eq a a).2 rfl
theorem compareC_cases (a b : List Int) : compareC a b < 0 ∨ a = b ∨ compareC b a < 0:=by
 have h1:=compareC_antisymm a b
 rcases Int.lt_trichotomy (compareC a b) 0 with h | h | h
 ·exact .inl h
 ·exact .inr (.inl ((compareC_eq a b).1 h))
 ·exact .inr (.inr oM)
theorem compareC_ntrans (a b c : List Int) (h1 : ¬ compareC a b < 0) (h2 : ¬ compareC b c < 0) : ¬ compareC a c < 0:=by
 intro h3
 rcases compareC_cases a b with h | h | h
 ·exact h1 h
 ·subst h; exact h2 h3
 ·exact h2 (compareC_trans b a c h h3)
def SrtL (l : List (List Int)) : Prop:=l.Pairwise fun a b=>¬ compareC b a < 0
def insL (x : List Int) : List (List Int) → List (List Int)
 | []=>[x]
 | y :: r=>if compareC y x < 0 then y :: insL x r else x :: y :: r
def sortL : List (List Int) → List (List Int)
 | []=>[]
 | x :: r=>insL x (sortL r)
theorem insL_perm (x : List Int) : ∀ l,(insL x l).Perm (x :: l)
 | []=>.refl _
 | y :: r=>by
  unfold insL
  split
  ·exact ((insL_perm x r).cons y).trans (.swap x y r)
  ·exact .refl _
theorem sortL_perm : ∀ l,(sortL l).Perm l
 | []=>.refl _
 | x :: r=>(insL_perm x (sortL r)).trans ((sortL_perm r).cons x)
theorem insL_srt (x : List Int) : ∀ {l},SrtL l → SrtL (insL x l)
 | [],_=>List.pairwise_singleton _ _
 | y :: r,h=>by
  obtain ⟨h1,h2⟩:=List.pairwise_cons.1 h
  unfold insL
  split
  ·rename_i hy
   refine List.pairwise_cons.2 ⟨fun z hz=>?_,insL_srt x h2⟩
   rcases List.mem_cons.1 ((insL_perm x r).subset hz) with rfl | hz
   ·intro h3; have:=compareC_trans y z y hy h3; rw [compareC_self] at this; omega
   ·exact h1 z hz
  ·rename_i hy
   refine List.pairwise_cons.2 ⟨fun z hz=>?_,h⟩
   rcases List.mem_cons.1 hz with rfl | hz
   ·exact hy
   ·exact compareC_ntrans z y x (h1 z hz) hy
theorem sortL_srt : ∀ l,SrtL (sortL l)
 | []=>List.Pairwise.nil
 | x :: r=>insL_srt x (sortL_srt r)
theorem srtL_unique : ∀ {l m : List (List Int)},SrtL l → SrtL m → l.Perm m → l = m
 | [],m,_,_,h=>(List.nil_perm.1 h).symm
 | x :: l,[],_,_,h=>by have:=h.length_eq; simp at this
 | x :: l,y :: m,hl,hm,h=>by
  obtain ⟨h1,h2⟩:=List.pairwise_cons.1 hl
  obtain ⟨h3,h4⟩:=List.pairwise_cons.1 hm
  have hxy : x = y:=by
   have hx : x ∈ y :: m:=h.subset (by simp)
   have hy : y ∈ x :: l:=h.symm.subset (by simp)
   rcases List.mem_cons.1 hx with e | hx
   ·exact e
   ·rcases List.mem_cons.1 hy with e | hy
    ·exact e.symm
    ·rcases compareC_cases x y with h5 | h5 | h5
     ·exact absurd h5 (h3 x hx)
     ·exact h5
     ·exact absurd h5 (h1 y hy)
  subst hxy
  rw [srtL_unique h2 h4 (h.cons_inv)]
open Go Go.Sy Go.Pl Go.Proofs Go.Shelf Go.Sort
def Tryz.sortF_ren : Ren :=
 {
  f:=fun x =>
   match x with
   | 6=>90
   | 15=>141
   | 14=>142
   | 28=>167
   | 29=>168
   | 20=>169
   | 21=>170
   | 22=>171
   | 23=>172
   | 24=>173
   | 25=>174
   | 26=>175
   | 27=>176
   | 46=>193
   | 47=>189
   | 48=>190
   | 49=>194
   | 50=>195
   | 57=>203
   | n=>n,
  t:=fun x =>
   match x with
   | 22=>22
   | 24=>27
   | 25=>114
   | 3=>3
   | 39=>139
   | 0=>0
   | 53=>176
   | 55=>158
   | 4=>4
   | 46=>170
   | 45=>169
   | 50=>95
   | 5=>5
   | 9=>9
   | 66=>197
   | 70=>201
   | 76=>209
   | 77=>210
   | n=>n,
  g:=fun x =>
   have n:=x;
   n }
theorem Tryz.sortF : SlLaysF.n6 Tryz.prog Tryz.sortF_ren :=
  {
  mixed:=Eq.refl true,
  f6 :=
   Exists.intro "slices.SortFunc[[][]int,[]int]"
    ⟨of_decide_eq_true (id (Eq.refl true)),
     Eq.trans func90
      (congrArg some
       (by kernel_rfl))⟩,
  f14 :=
   Exists.intro "slices.pdqsortCmpFunc[[]int]"
    ⟨of_decide_eq_true (id (Eq.refl true)),
     Eq.trans func142
      (congrArg some
       (by kernel_rfl))⟩,
  f15:=Eq.trans func141 (congrArg some (by kernel_rfl)),
  f20 :=
   Exists.intro "slices.insertionSortCmpFunc[[]int]"
    ⟨of_decide_eq_true (id (Eq.refl true)),
     Eq.trans func169
      (congrArg some
       (by kernel_rfl))⟩,
  f21 :=
   Exists.intro "slices.heapSortCmpFunc[[]int]"
    ⟨of_decide_eq_true (id (Eq.refl true)),
     Eq.trans func170
      (congrArg some
       (by kernel_rfl))⟩,
  f22 :=
   Exists.intro "slices.breakPatternsCmpFunc[[]int]"
    ⟨of_decide_eq_true (id (Eq.refl true)),
     Eq.trans func171
      (congrArg some
       (by kernel_rfl))⟩,
  f23 :=
   Exists.intro "slices.choosePivotCmpFunc[[]int]"
    ⟨of_decide_eq_true (id (Eq.refl true)),
     Eq.trans func172
      (congrArg some
       (by kernel_rfl))⟩,
  f24 :=
   Exists.intro "slices.reverseRangeCmpFunc[[]int]"
    ⟨of_decide_eq_true (id (Eq.refl true)),
     Eq.trans func173
      (congrArg some
       (by kernel_rfl))⟩,
  f25 :=
   Exists.intro "slices.partialInsertionSortCmpFunc[[]int]"
    ⟨of_decide_eq_true (id (Eq.refl true)),
     Eq.trans func174
      (congrArg some
       (by kernel_rfl))⟩,
  f26 :=
   Exists.intro "slices.partitionEqualCmpFunc[[]int]"
    ⟨of_decide_eq_true (id (Eq.refl true)),
     Eq.trans func175
      (congrArg some
       (by kernel_rfl))⟩,
  f27 :=
   Exists.intro "slices.partitionCmpFunc[[]int]"
    ⟨of_decide_eq_true (id (Eq.refl true)),
     Eq.trans func176
      (congrArg some
       (by kernel_rfl))⟩,
  f28:=Eq.trans func167 (congrArg some (by kernel_rfl)),
  f29:=Eq.trans func168 (congrArg some (by kernel_rfl)),
  f46 :=
   Exists.intro "slices.siftDownCmpFunc[[]int]"
    ⟨of_decide_eq_true (id (Eq.refl true)),
     Eq.trans func193
      (congrArg some
       (by kernel_rfl))⟩,
  f47:=Eq.trans func189 (congrArg some (by kernel_rfl)),
  f48:=Eq.trans func190 (congrArg some (by kernel_rfl)),
  f49 :=
   Exists.intro "slices.medianAdjacentCmpFunc[[]int]"
    ⟨of_decide_eq_true (id (Eq.refl true)),
     Eq.trans func194
      (congrArg some
       (by kernel_rfl))⟩,
  f50 :=
   Exists.intro "slices.medianCmpFunc[[]int]"
    ⟨of_decide_eq_true (id (Eq.refl true)),
     Eq.trans func195
      (congrArg some
       (by kernel_rfl))⟩,
  f57 :=
   Exists.intro "slices.order2CmpFunc[[]int]"
    ⟨of_decide_eq_true (id (Eq.refl true)),
     Eq.trans func203
      (congrArg some
       (by kernel_rfl))⟩,
  t0:=underlying0,a0:=isAgg0,z0:=sizeOf0,v0:=zeroValue0,t3:=uT3,
  a3:=iT3,z3:=zT3,v3:=zeroValue3,t4:=uT4,a4:=isAgg4,
  z4:=zT4,v4:=zeroValue4,t5:=uT5,a5:=isAgg5,z5:=sizeOf5,
  v5:=zeroValue5,t9:=uT9,a9:=isAgg9,z9:=zT9,v9:=zeroValue9,
  t22:=uT22,a22:=isAgg22,z22:=sizeOf22,v22:=zeroValue22,a24:=iT27,
  z24:=zT27,t25:=underlying114,a25:=isAgg114,z25:=sizeOf114,
  v25:=zeroValue114,t39:=uT139,a39:=isAgg139,z39:=sizeOf139,
  v39:=zeroValue139,t45:=underlying169,a45:=isAgg169,z45:=sizeOf169,
  v45:=zeroValue169,t46:=underlying170,a46:=isAgg170,z46:=sizeOf170,
  v46:=zeroValue170,t50:=underlying95,a50:=isAgg95,z50:=sizeOf95,
  v50:=zeroValue95,t53:=underlying176,a53:=isAgg176,z53:=sizeOf176,
  v53:=zeroValue176,t55:=uT158,a55:=iT158,z55:=zT158,
  v55:=zeroValue158,t66:=underlying197,a66:=isAgg197,z66:=sizeOf197,
  v66:=zeroValue197,t70:=underlying201,a70:=isAgg201,z70:=sizeOf201,
  v70:=zeroValue201,t76:=underlying209,a76:=isAgg209,z76:=sizeOf209,
  v76:=zeroValue209,t77:=underlying210,a77:=isAgg210,z77:=sizeOf210,
  v77:=zeroValue210 }
structure LV (g : PH) where
 sv : Sv
 l : List Int
 h : ListR g l sv
 len : l.length < 1099511627776
def LV.val {g : PH} (x : LV g) : Value:=.slice x.sv.p x.sv.n x.sv.c
def encLV (g : PH) : Enc (LV g) 1:=⟨fun x=>[x.val],fun _=>rfl,fun _ u hu=>by simp at hu; subst hu; rfl,by decide⟩
instance (g : PH) : Inhabited (LV g):=⟨⟨⟨none,0,0⟩,[],Sl.nil g 1,by decide⟩⟩
theorem flat_LV {g : PH} (l : List (LV g)) : l.flatMap (encLV g).enc = l.map LV.val:=by
 induction l with
 | nil=>rfl
 | cons a t ih=>simp only [List.flatMap_cons,List.map_cons,ih]; rfl
def allOf (W : World) : PH:=fun b=>W.heap[b]?
theorem at_all (W : World) : At W (allOf W) [] W:=⟨rfl,⟨rfl,Nat.le_refl _⟩,rfl,fun _ _ h=>h,by simp,by simp,List.Pairwise.nil⟩
theorem at_grown {W w' : World} (h : At W (allOf W) [] w') : ∃ q os',w' = grow (W.drewN q) os':=by
 refine ⟨w'.drawn - W.drawn,w'.heap.extract W.heap.size,?_⟩
 have hpre : ∀ k,k < W.heap.size → w'.heap[k]? = W.heap[k]?:=fun k hk=>by
  rw [h.known k W.heap[k] (by simp [allOf,hk]),Array.getElem?_eq_getElem hk]
 have hsz : W.heap.size ≤ w'.heap.size:=by
  rcases Nat.eq_zero_or_pos W.heap.size with h0 | h0
  ·omega
  ·have:=hpre (W.heap.size - 1) oM
   rw [Array.getElem?_eq_getElem (xs:=W.heap) oM] at this
   have:=(Array.getElem?_eq_some_iff.1 this).1
   omega
 have hheap : w'.heap = W.heap ++ w'.heap.extract W.heap.size:=by
  apply Array.ext_getElem?
  intro k
  rw [Array.getElem?_append]
  split
  ·exact hpre k (by assumption)
  ·rename_i hk
   rw [Array.getElem?_extract]
   by_cases hk2 : k < w'.heap.size
   ·rw [if_pos oM]; congr 1; omega
   ·rw [if_neg oM,Array.getElem?_eq_none oM]
 obtain ⟨hp,tp,dr,osx,ou⟩:=w'
 have h1:=h.os; have h2:=h.tape; have h3:=h.output
 simp only at h1 h2 h3 hheap
 simp only [grow,World.drewN]
 obtain ⟨h2a,h2b⟩:=h2
 subst h1; subst h2a; subst h3
 congr 1
 omega
theorem cmpLays {E : World} {g : PH} {s : Own} {l : List (LV g)} {w : World} {b off : Nat} (hw : At E g s w) (hb : g b = none) : CmpLays1 Tryz.prog 91 #[] (LV.val (g:=g)) (fun x y=>compareC x.l y.l) b off l.toArray.size w:=by
 intro m os dk hs x y
 have hle : Le g (allOf (sortWorld LV.val w b off m dk os)):=fun k o hk=>by
  have h1:=hw.known k o hk
  have hlt:=hw.lt hk
  have hne : b ≠ k:=fun e=>by rw [e] at hb; rw [hb] at hk; cases hk
  show (grow (putRow LV.val (Sort.ahead w m) b off dk) os).heap[k]? = some o
  rw [heap_grow_old _ _ (by simpa using hlt)]
  simp [putRow,mapBlock,Sort.ahead,Array.getElem?_modify,hne,h1]
 have h2:=compareSets (sortWorld LV.val w b off m dk os) (allOf _) [] x.val y.val x.l y.l (SlA.mono x.h hle) (SlA.mono y.h hle) x.len _ (at_all _)
 refine h2.mono ?_
 rintro e w' ⟨v',g',s',rfl,hat,rfl,rfl,rfl⟩
 exact ⟨I,at_grown hat⟩
theorem sortFuncAny (E : World) (g : PH) (s : Own) (v : Value) (l : List (LV g)) (h0 : 0 < l.length) (hl : l.length < 1099511627776) :
  Ctr Tryz.prog E 90 #[v,.func (.func 91) #[] #[]] g (rowA (encLV g) 27 v l :: s) (fun _ g' s'=>g = g' ∧ ∃ l' : List (LV g),l'.Perm l ∧ l'.map LV.l = sortL (l.map LV.l) ∧ s' = rowA (encLV g) 27 v l' :: s):=by
 intro w hw
 obtain ⟨h1,h2⟩:=row_is (i:=0) hw rfl
 rcases h2 with ⟨p,rfl,hn⟩ | ⟨b,cap,cur,rfl,hb,hle,hcm,hcs,ht⟩
 ·omega
 ·have hfr:=hw.fresh _ (by simp : rowA (encLV g) 27 (.slice (some ⟨b,0,none⟩) l.length (cap + 1)) l ∈ _) b rfl
  have hblt:=(Array.getElem?_eq_some_iff.1 hb).1
  have ht' : cur.toList.take l.length = l.map LV.val:=by rw [← flat_LV]; simpa using ht
  have hH : Holds LV.val w b 0 l.toArray:=by
   intro j hj
   have hj' : j < l.length:=by simpa using hj
   refine ⟨?_,by simp [World.frozen?,hb]⟩
   have h1 : (cur.toList.take l.length)[j]? = (l.map LV.val)[j]?:=by rw [ht']
   rw [List.getElem?_take_of_lt hj'] at h1
   simp only [World.cell?,hb,Nat.zero_add]
   simp only [Option.isSome_none,Bool.false_eq_true,if_false]
   rw [← Array.getElem?_toList,h1]
   simp [hj']
  have hswo : SWO (ltOf fun x y : LV g=>compareC x.l y.l):=⟨fun x=>by simp [ltOf,compareC_self],fun x y z h1 h2=>by simp [ltOf] at *; exact compareC_trans _ _ _ h1 h2,fun x y z h1 h2=>by
   simp only [ltOf,decide_eq_false_iff_not] at *; exact compareC_ntrans _ _ _ h1 h2⟩
  refine (Any.slices_SortFunc Tryz.sortF LV.val (fun _=>I) (fun x y : LV g=>compareC x.l y.l) hswo 91 #[] b 0 (cap + 1) l.toArray w call91 (cmpLays hw hfr.1) hH hblt (by simp; omega)).mono ?_
  rintro e w' ⟨rfl,d',n,os,hp,hsd,rfl⟩
  obtain ⟨d'⟩:=d'
  have hdl : d'.length = l.length:=by have:=hp.1; simpa using this
  have hperm : d'.Perm l:=by
   have h5:=hp.2.2
   simp only [List.size_toArray,List.extract_toArray] at h5
   simpa [List.extract_eq_take_drop,hdl,tL (Nat.le_of_eq hdl)] using h5
  have hsrt : SrtL (d'.map LV.l):=by
   rw [SrtL,List.pairwise_map,List.pairwise_iff_getElem]
   intro i j hi hj hij
   have h5:=hsd i j (Nat.zero_le _) hij (by simp; omega)
   simp only [ltOf,decide_eq_false_iff_not] at h5
   simpa [hi,hj] using h5
  have huni : d'.map LV.l = sortL (l.map LV.l):=srtL_unique hsrt (sortL_srt _) ((hperm.map _).trans (sortL_perm _).symm)
  refine ⟨_,g,rowA (encLV g) 27 (.slice (some ⟨b,0,none⟩) l.length (cap + 1)) d' :: s,I,?_,I,d',hperm,huni,I⟩
  have h5 : (sortWorld LV.val w b 0 n d'.toArray os).heap[b]? = some (.cells (putCells LV.val 0 d'.toArray cur) 27 (0,0)):=by
   show (grow (putRow LV.val (Sort.ahead w n) b 0 d'.toArray) os).heap[b]? = _
   rw [heap_grow_old _ _ (by simpa using hblt)]
   simp [putRow,mapBlock,Sort.ahead,Array.getElem?_modify,hb,onCells]
  have h6:=hw.turn (i:=0) (w':=sortWorld LV.val w b 0 n d'.toArray os) (e':=rowA (encLV g) 27 (.slice (some ⟨b,0,none⟩) l.length (cap + 1)) d') rfl rfl ⟨rfl,Nat.le_add_right _ _⟩ rfl (by simp [sortWorld,grow,putRow,mapBlock,Sort.ahead]) (fun k hk hne=>by
    have hne' : b ≠ k:=fun e=>hne (by rw [e]; rfl)
    show (grow (putRow LV.val (Sort.ahead w n) b 0 d'.toArray) os).heap[k]? = _
    rw [heap_grow_old _ _ (by simpa using hk)]
    simp [putRow,mapBlock,Sort.ahead,Array.getElem?_modify,hne']) (by
    have:=row_holds (w:=sortWorld LV.val w b 0 n d'.toArray os) (T:=27) (k:=1) (n:=d'.length) (b:=b) (cap:=cap) (xs:=d'.flatMap (encLV g).enc) (by rw [(encLV g).length]) h5 oM hcm (by simp [putCells]; simpa using hcs) (by
     rw [flat_LV,Nat.mul_one]
     apply List.ext_getElem?
     intro j
     by_cases hj : j < d'.length
     ·rw [List.getElem?_take_of_lt hj,Array.getElem?_toList]
      simp [putCells,hj,show j < cur.size by omega]
     ·rw [List.getElem?_take_eq_none oM,List.getElem?_eq_none (by simp; omega)])
    rw [show rowA (encLV g) 27 (.slice (some ⟨b,0,none⟩) l.length (cap + 1)) d' = row 27 1 (.slice (some ⟨b,0,none⟩) d'.length (cap + 1)) d'.length (d'.flatMap (encLV g).enc) by simp only [rowA,hdl]]
    exact this) (fun b' hb'=>by
    simp only [rowA,row,rblk,Option.some.injEq] at hb'
    subst hb'
    exact ⟨(Array.getElem?_eq_some_iff.1 h5).1,.inl I⟩)
  exact h6
def Tryz.keysA_ren : Ren :=
 {
  f:=fun x =>
   match x with
   | 7=>85
   | 10=>139
   | n=>n,
  t:=fun x =>
   match x with
   | 23=>84
   | 26=>3
   | 3=>4
   | 28=>108
   | 0=>0
   | 27=>107
   | 33=>140
   | 4=>4
   | n=>n,
  g:=fun x =>
   have n:=x;
   n }
theorem Tryz.keysA : SlLaysZI.n7 Tryz.prog Tryz.keysA_ren :=
  {
  mixed:=Eq.refl true,
  f7 :=
   Exists.intro "maps.Keys[map[int]bool,int,bool]"
    ⟨of_decide_eq_true (id (Eq.refl true)),
     Eq.trans func85
      (congrArg some
       (by kernel_rfl))⟩,
  f10 :=
   Exists.intro "maps.Keys[map[int]bool,int,bool]$1"
    ⟨of_decide_eq_true (id (Eq.refl true)),
     Eq.trans func139
      (congrArg some
       (by kernel_rfl))⟩,
  t0:=underlying0,a0:=isAgg0,z0:=sizeOf0,v0:=zeroValue0,t4:=uT4,
  a4:=isAgg4,z4:=zT4,v4:=zeroValue4,t23:=underlying84,a23:=isAgg84,
  z23:=sizeOf84,v23:=zeroValue84,t26:=uT3,a26:=iT3,z26:=zT3,
  v26:=zeroValue3,t27:=underlying107,a27:=isAgg107,z27:=sizeOf107,
  v27:=zeroValue107,t28:=underlying108,a28:=isAgg108,z28:=sizeOf108,
  v28:=zeroValue108,t33:=underlying140,a33:=isAgg140,z33:=sizeOf140,
  v33:=zeroValue140 }
def Tryz.sortedA_ren : Ren :=
 {
  f:=fun x =>
   match x with
   | 6=>84
   | 8=>138
   | 9=>87
   | 11=>158
   | 13=>141
   | 12=>140
   | 23=>167
   | 24=>168
   | 14=>159
   | 15=>160
   | 16=>161
   | 17=>162
   | 18=>163
   | 19=>164
   | 20=>125
   | 21=>165
   | 22=>166
   | 25=>188
   | 26=>189
   | 27=>190
   | 28=>191
   | 29=>192
   | 30=>150
   | 31=>202
   | n=>n,
  t:=fun x =>
   match x with
   | 26=>3
   | 28=>108
   | 24=>27
   | 0=>0
   | 3=>3
   | 37=>139
   | 48=>176
   | 50=>158
   | 4=>4
   | 40=>170
   | 39=>169
   | 45=>95
   | 5=>5
   | 9=>9
   | 51=>197
   | 55=>201
   | 57=>209
   | 58=>210
   | 33=>140
   | n=>n,
  g:=fun x =>
   have n:=x;
   n }
theorem Tryz.sortedA : SlLaysZI.n6 Tryz.prog Tryz.sortedA_ren :=
  {
  mixed:=Eq.refl true,
  f6 :=
   Exists.intro "slices.Sorted[int]"
    ⟨of_decide_eq_true (id (Eq.refl true)),
     Eq.trans func84
      (congrArg some
       (by kernel_rfl))⟩,
  f8 :=
   Exists.intro "slices.Collect[int]"
    ⟨of_decide_eq_true (id (Eq.refl true)),
     Eq.trans func138
      (congrArg some
       (by kernel_rfl))⟩,
  f11 :=
   Exists.intro "slices.AppendSeq[[]int,int]"
    ⟨of_decide_eq_true (id (Eq.refl true)),
     Eq.trans func158
      (congrArg some
       (by kernel_rfl))⟩,
  t0:=underlying0,a0:=isAgg0,z0:=sizeOf0,v0:=zeroValue0,t24:=uT27,
  a24:=iT27,z24:=zT27,v24:=zeroValue27,t26:=uT3,a26:=iT3,
  z26:=zT3,v26:=zeroValue3,t28:=underlying108,a28:=isAgg108,z28:=sizeOf108,
  v28:=zeroValue108,i26:=Eq.refl (some (some (Value.int IntKind.i64 0),1,8)) }
theorem Tryz.sortsA (m : Nat) : AnyZI.SortsIn Tryz.prog Tryz.sortedA_ren Fence.wide m :=
 ⟨fun blk off cap ss W hH hblk hsz=>callsIn_wide.2 (Any.slices_Sort_int lays189 blk off cap ss W hH hblk hsz),
  fun p cap W=>callsIn_wide.2 (Any.slices_Sort_int_none lays189 p cap W)⟩
theorem keys_spec (E : World) (g : PH) (s : Own) (m : Nat) :
  Ctr Tryz.prog E 85 #[.map (some m)] g s (fun r g' s'=>s = s' ∧ Le g g' ∧ ∃ b,r = .func (.func 139) #[] #[pp b 0] ∧ g' b = some (.cells #[.map (some m)] 84 (0,0))):=by
 refine Ctr.of (args:=[.map (some m)]) func85 I ntmps85 (bE I) ?_
 refine SC.sR (SL.bx (bO I) fun b1=>?_)
 refine lA I (SL.nT (SC.sR (lU (SU.mkFunc I) (lA I (SL.nT (rE (ST.freeze fun g1 h1 hb=>?_)))))))
 exact ST.ret1 (.inl I) results85 I ⟨I,h1,_,I,hb⟩
def inI64 (x : Int) : Prop:=-9223372036854775808 ≤ x ∧ x ≤ 9223372036854775807
theorem wf_i64 {x : Int} (h : inI64 x) : (Lit.int .i64 x).wf = true:=by
 unfold inI64 at h
 simp [Lit.wf,IntKind.min,IntKind.max,IntKind.bits,IntKind.signed]
 omega
theorem sorted_spec (E : World) (hE : E.drawn = 0) (g : PH) (s : Own) (b m : Nat) (l : List (Int × Value)) (hb : g b = some (.cells #[.map (some m)] 84 (0,0))) (hm : Mp g m l) (hl : l.length < 1099511627776) (hw : ∀ p ∈ l,inI64 p.1) :
  Ctr Tryz.prog E 84 #[.func (.func 139) #[] #[pp b 0]] g s (fun r g' s'=>s = s' ∧ Le g g' ∧ Ints g' r (sortI (l.map Prod.fst))):=by
 intro w hat
 obtain ⟨es,clk,hes,hmi,hst⟩:=hm
 have hesl : es.toList.length = l.length:=by have:=congrArg List.length hmi; simpa using this
 have hesz : es.size = l.length:=by simpa using hesl
 have hreads : ∀ x ∈ es.toList,∃ y,WideElems.rd (H:=Unit) Tryz.prog 3 (fun _=>some (.lit (.bool true),[])) x = some y ∧ ∃ p ∈ l,y.1 = .int .i64 p.1:=fun x hx=>by
  have h1 : entV x ∈ es.toList.map entV:=List.mem_map.2 ⟨x,hx,rfl⟩
  rw [hmi] at h1
  obtain ⟨p,hp,he⟩:=List.mem_map.1 h1
  have hk : x.key = vi p.1:=(congrArg Prod.fst he).symm
  have hkey : keyOf Tryz.prog 3 x.key = some (.int .i64 p.1):=by
   rw [hk]; exact Maps.keyOf_int_mk uT3 (wf_i64 (hw p hp))
  exact ⟨(.int .i64 p.1,.lit (.bool true)),by simp [WideElems.rd,hkey],p,hp,I⟩
 have hown : w.ownsMap Tryz.prog 3 (fun _=>some (.lit (.bool true),[])) m l.length (.map ((es.toList.map (WideElems.rg (H:=Unit) Tryz.prog 3 (fun _=>some (.lit (.bool true),[])))).foldr DataW.insert [])) :=
  ⟨es,clk,hat.known _ _ hes,⟨by rw [hesz]; unfold maxLen; omega,hst,fun x hx=>(hreads x hx).imp fun _ h=>h.1⟩,oM,rfl⟩
 have hkeys : (l.map Prod.fst).Perm (intKeys (.map ((es.toList.map (WideElems.rg (H:=Unit) Tryz.prog 3 (fun _=>some (.lit (.bool true),[])))).foldr DataW.insert []))):=by
  have h1 : (es.toList.map (WideElems.rg (H:=Unit) Tryz.prog 3 (fun _=>some (.lit (.bool true),[])))).map (fun p=>Go.intOf p.1) = l.map Prod.fst:=by
   have h2 : l.map Prod.fst = (es.toList.map entV).map (fun q=>(unV q).1):=by rw [hmi,List.map_map]; rfl
   rw [h2,List.map_map,List.map_map]
   refine List.map_congr_left fun x hx=>?_
   have h3 : entV x ∈ es.toList.map entV:=List.mem_map.2 ⟨x,hx,rfl⟩
   rw [hmi] at h3
   obtain ⟨p,hp,he⟩:=List.mem_map.1 h3
   have hk : x.key = vi p.1:=(congrArg Prod.fst he).symm
   have hkey : keyOf Tryz.prog 3 x.key = some (.int .i64 p.1):=by
    rw [hk]; exact Maps.keyOf_int_mk uT3 (wf_i64 (hw p hp))
   simp [WideElems.rg,WideElems.rd,hkey,hk ▸ hkey,Go.intOf,entV,unV,hk]
  rw [← h1]
  exact ((WideShapes.sorted_perm _).map _).symm
 have hsize : Maps.size (.map ((es.toList.map (WideElems.rg (H:=Unit) Tryz.prog 3 (fun _=>some (.lit (.bool true),[])))).foldr DataW.insert [])) = l.length:=by
  have:=hkeys.length_eq
  simpa [intKeys,Maps.size] using this.symm
 have hseq:=AnyZI.keys_gives (ρ:=Tryz.keysA_ren) { Tryz.keysA with } Fence.wide 2 trivial rfl oM b m l.length _ (R:=fun _=>some (.lit (.bool true),[])) w (hat.lt hb) (by simp [World.cell?,hat.known _ _ hb]) hown
 have cS:=AnyZI.sorted_in Tryz.sortedA Fence.wide 5 trivial trivial trivial trivial rfl oM (Tryz.sortsA _) (enters_of func87 (by kernel_rfl) rfl) 139 #[.pointer (some ⟨b,0,none⟩)] trivial (enters_of func139 (by kernel_rfl) rfl) _ _ (by rw [hsize]; unfold maxLen; omega) (by rw [hsize]; omega) w hseq
 refine ((callsIn_wide (n:=5)).1 cS).mono ?_
 rintro e w' ⟨v,ss,rfl,hss,hrow,hnil,hbel⟩
 have hsrt : ss.mergeSort (fun x y=>decide (x ≤ y)) = sortI (l.map Prod.fst):=mergeSort_of_perm_i (hss.trans hkeys.symm)
 rw [hsrt] at hrow
 have hat2 : At E g s w':=by
  refine ⟨hbel.os.trans hat.os,⟨hbel.tape.trans hat.tape.1,by rw [hE]; exact Nat.zero_le _⟩,hbel.output.trans hat.output,fun k o hk=>?_,fun x hx=>?_,fun x hx k hk=>⟨(hat.fresh x hx k hk).1,Nat.lt_of_lt_of_le (hat.fresh x hx k hk).2 hbel.size⟩,hat.apart⟩
  ·rw [hbel.block k (hat.lt hk)]; exact hat.known k o hk
  ·have h1:=hat.own x hx
   cases hbk : x.blk with
   | none=>simpa [hbk] using h1
   | some k =>
    simp only [hbk,Option.bind_some] at h1 ⊢
    rw [hbel.block k (hat.fresh x hx k hbk).2]
    exact h1
 rcases hrow.2 with ⟨rfl,h0⟩ | ⟨gb,cap,cur,rfl,hbase,hgb,r1,r2,r3,r4⟩
 ·have hss0 : ss = []:=List.eq_nil_of_length_eq_zero h0
  have hl0 : l.map Prod.fst = []:=by
   have:=(hss.trans hkeys.symm).length_eq
   rw [hss0] at this
   exact List.eq_nil_of_length_eq_zero (by simpa using this.symm)
  refine ⟨_,g,s,I,hat2,I,Le.refl g,?_⟩
  rw [hl0]
  have : sortI [] = []:=by simp [sortI]
  rw [this]
  exact Sl.nil g 1
 ·have hfresh : g gb = none:=by
   cases h : g gb with
   | none=>rfl
   | some o=>have:=hat.lt h; omega
  refine ⟨_,upd g gb (.cells cur 3 (0,0)),s,I,⟨hat2.os,hat2.tape,hat2.output,fun k o hk=>?_,hat2.own,fun x hx k hk=>⟨?_,(hat2.fresh x hx k hk).2⟩,hat2.apart⟩,I,le_upd hfresh,?_⟩
  ·unfold upd at hk
   split at hk
   ·rename_i e1; subst e1; injection hk with hk; subst hk; exact hgb
   ·exact hat2.known k o hk
  ·have h1:=hat.fresh x hx k hk
   have hne : k ≠ gb:=oM
   simp only [upd,hne,if_false]
   exact h1.1
  ·have hlen : (sortI (l.map Prod.fst)).length = ss.length:=by rw [sortI_length]; exact (hss.trans hkeys.symm).length_eq.symm
   refine ⟨some ⟨gb,0,none⟩,cap,by rw [hlen],⟨by rw [encInt.length],oM⟩,fun _=>⟨gb,0,cur,_,(0,0),I,upd_self _ _ _,fun j x hj=>?_⟩⟩
   rw [flat_ints] at hj
   have hj2 : (cur.toList.take (ss.length * 1))[j]? = some x:=by rw [r4]; exact hj
   rw [List.getElem?_take] at hj2
   split at hj2
   ·simpa using hj2
   ·cases hj2
theorem reachF_mem (tl : List Cl) : ∀ (n : Nat) (id : Int) (vis : List Int) (x : Int),x ∈ reachF tl n id vis → x ∈ vis ∨ ∃ c ∈ tl,c.id = x
 | 0,_,_,_,h=>.inl h
 | n + 1,id,vis,x,h=>by
  unfold reachF at h
  split at h
  ·exact .inl h
  ·rename_i c hc
   split at h
   ·exact .inl h
   ·have key : ∀ (l : List Side) (v : List Int),x ∈ l.foldl (fun v y=>reachF tl n y.cell v) v → x ∈ v ∨ ∃ c ∈ tl,c.id = x:=by
     intro l
     induction l with
     | nil=>intro v hv; exact .inl hv
     | cons y r ih =>
      intro v hv
      rcases ih _ hv with h1 | h1
      ·exact reachF_mem tl n y.cell v x h1
      ·exact .inr h1
    rcases key _ _ h with h1 | h1
    ·rcases List.mem_append.1 h1 with h2 | h2
     ·exact .inl h2
     ·simp at h2
      obtain ⟨h3,h4⟩:=findT_mem hc
      exact .inr ⟨c,h3,by rw [h4,h2]⟩
    ·exact .inr h1
theorem reachF_nodup (tl : List Cl) : ∀ (n : Nat) (id : Int) (vis : List Int),vis.Nodup → (reachF tl n id vis).Nodup
 | 0,_,_,h=>h
 | n + 1,id,vis,h=>by
  unfold reachF
  split
  ·exact h
  ·split
   ·exact h
   ·rename_i hc
    have key : ∀ (l : List Side) (v : List Int),v.Nodup → (l.foldl (fun v y=>reachF tl n y.cell v) v).Nodup:=by
     intro l
     induction l with
     | nil=>intro v hv; exact hv
     | cons y r ih=>intro v hv; exact ih _ (reachF_nodup tl n y.cell v hv)
    refine key _ _ (List.nodup_append.2 ⟨h,by simp,fun a ha b hb=>?_⟩)
    simp at hb hc
    rw [hb]
    exact fun e=>hc (e ▸ ha)
theorem closF_mem {tl : List Cl} {ids : List Int} {x : Int} (h : x ∈ closF tl ids) : ∃ c ∈ tl,c.id = x:=by
 have key : ∀ (l : List Int) (v : List Int),x ∈ l.foldl (fun v id=>reachF tl (tl.length + 1) id v) v → x ∈ v ∨ ∃ c ∈ tl,c.id = x:=by
  intro l
  induction l with
  | nil=>intro v hv; exact .inl hv
  | cons y r ih =>
   intro v hv
   rcases ih _ hv with h1 | h1
   ·exact reachF_mem tl _ y v x h1
   ·exact .inr h1
 exact (key _ _ h).resolve_left (by simp)
theorem closF_nodup (tl : List Cl) (ids : List Int) : (closF tl ids).Nodup:=by
 have key : ∀ (l : List Int) (v : List Int),v.Nodup → (l.foldl (fun v id=>reachF tl (tl.length + 1) id v) v).Nodup:=by
  intro l
  induction l with
  | nil=>intro v hv; exact hv
  | cons y r ih=>intro v hv; exact ih _ (reachF_nodup tl _ y v hv)
 exact key _ _ (by simp)
theorem nodup_le {α : Type} [DecidableEq α] : ∀ {l m : List α},l.Nodup → (∀ x ∈ l,x ∈ m) → l.length ≤ m.length
 | [],_,_,_=>Nat.zero_le _
 | x :: l,m,hn,hs=>by
  obtain ⟨h1,h2⟩:=List.nodup_cons.1 hn
  have hx : x ∈ m:=hs x (by simp)
  have h3:=nodup_le (m:=m.erase x) h2 (fun y hy=>by
   have hne : y ≠ x:=fun e=>h1 (e ▸ hy)
   exact (List.mem_erase_of_ne hne).2 (hs y (by simp [hy])))
  have h4:=List.length_erase_of_mem hx
  have h5:=List.length_pos_of_mem hx
  simp only [List.length_cons]
  omega
theorem closF_length (tl : List Cl) (ids : List Int) : (closF tl ids).length ≤ tl.length:=by
 have:=nodup_le (closF_nodup tl ids) (m:=tl.map Cl.id) (fun x hx=>by obtain ⟨c,hc,e⟩:=closF_mem hx; exact List.mem_map.2 ⟨c,hc,e⟩)
 simpa using this
theorem tabC_id {l : List Cl} {c : Cl} (h : c ∈ tabC l) : ∃ d ∈ l,d.id = c.id:=by
 have h1:=tabC_mem h
 unfold canonC at h1
 obtain ⟨d,hd,rfl⟩:=List.mem_map.1 h1
 exact ⟨d,(sortBy_mem l d).1 hd,I⟩
def closureC (l : List Cl) (ids : List Int) : List Int:=sortI (closF (tabC l) ids)
theorem closureTop (E : World) (hE : E.drawn = 0) (g : PH) (s : Own) (v iv : Value) (l : List Cl) (ids : List Int) (hv : Cells g v l) (hf : Fits l) (hi : Ints g iv ids) (hl : ids.length < 1099511627776) (hw : ∀ c ∈ l,inI64 c.id) :
  Ctr Tryz.prog E 30 #[.agg #[v],iv] g s (fun r g' s'=>s = s' ∧ Le g g' ∧ Ints g' r (closureC l ids)):=by
 have hft:=tabC_fits hf
 have hcl:=closF_length (tabC l) ids
 have hfl:=hft.1
 refine Ctr.of (args:=[.agg #[v],iv]) func30 I ntmps30 (bE I) ?_
 refine SC.sR (SL.bx (bO I) fun b2=>?_)
 refine lA I (SL.nT (SC.sR (lK (qV 0 iT31 zT31 I I I) (lW (cL kT56 I (of_spec E g _ v l hv hf)) ?_))))
 rintro tv g1 _ ⟨rfl,hle,ht⟩
 refine lM I (lW (cL call65 I (closure_spec E g1 _ _ _ (tabC l) ids ht hft (hi.mono hle) hl)) ?_)
 rintro _ g2 _ ⟨m,rfl,hle2,rfl⟩
 refine SL.freezeMap fun g3 hle3 hm=>?_
 refine lW (cL call85 I (keys_spec E g3 _ m)) ?_
 rintro _ g4 _ ⟨rfl,hle4,b,rfl,hb⟩
 refine lW (cL call84 rfl (sorted_spec E hE g4 _ b m (setP (closF (tabC l) ids)) hb (hm.mono hle4) (by simp only [setP,List.length_map]; omega) (fun p hp=>by obtain ⟨x,hx,rfl⟩:=List.mem_map.1 hp; obtain ⟨c,hc,rfl⟩:=closF_mem hx; obtain ⟨d,hd,e⟩:=tabC_id hc; rw [← e]; exact hw d hd))) ?_
 rintro r g5 _ ⟨rfl,hle5,hr⟩
 refine lA I (SL.nT (rE (dR (s':=s) (.cons _ (.refl _)) ?_)))
 exact ST.ret1 (.inl I) results30 I ⟨I,hle.trans (hle2.trans (hle3.trans (hle4.trans hle5))),by unfold closureC; simpa [setP,Function.comp_def] using hr⟩
theorem lv_of {g : PH} : ∀ {ls : List (List Int)} {rs : List Sv},All2 (ListR g) ls rs → (∀ x ∈ ls,x.length < 1099511627776) → ∃ L : List (LV g),L.map LV.l = ls ∧ L.map LV.sv = rs
 | [],[],_,_=>⟨[],rfl,rfl⟩
 | x :: ls,r :: rs,h,hl=>by
  obtain ⟨L,h1,h2⟩:=lv_of h.2 (fun y hy=>hl y (by simp [hy]))
  exact ⟨⟨r,x,h.1,hl x (by simp)⟩ :: L,by simp [h1],by simp [h2]⟩
 | [],_ :: _,h,_=>h.elim
 | _ :: _,[],h,_=>h.elim
theorem lv_all {g : PH} : ∀ (L : List (LV g)),All2 (ListR g) (L.map LV.l) (L.map LV.sv)
 | []=>trivial
 | x :: L=>⟨x.h,lv_all L⟩
theorem lv_flat {g : PH} : ∀ (L : List (LV g)),L.flatMap (encLV g).enc = (L.map LV.sv).flatMap encSv.enc
 | []=>rfl
 | x :: L=>by simp only [List.flatMap_cons,List.map_cons,lv_flat L]; rfl
theorem lv_row {g : PH} (T : TypeId) (v : Value) (L : List (LV g)) : rowA (encLV g) T v L = rowA encSv T v (L.map LV.sv):=by
 simp only [rowA,lv_flat,List.length_map]
def eqL (a b : List Int) : Bool:=decide (a = b)
theorem uniqGo_map {α β : Type} (f : α → β) (eq : α → α → Bool) (eq' : β → β → Bool) (h : ∀ a b,eq a b = eq' (f a) (f b)) : ∀ (x : α) (l : List α),(uniqGo eq x l).map f = uniqGo eq' (f x) (l.map f)
 | _,[]=>rfl
 | x,y :: r=>by
  simp only [uniqGo,List.map_cons,h]
  split
  ·exact uniqGo_map f eq eq' h y r
  ·rw [List.map_cons,uniqGo_map f eq eq' h y r]
theorem uniq_map {α β : Type} (f : α → β) (eq : α → α → Bool) (eq' : β → β → Bool) (h : ∀ a b,eq a b = eq' (f a) (f b)) (l : List α) : (uniq eq l).map f = uniq eq' (l.map f):=by
 cases l with
 | nil=>rfl
 | cons x r=>simp only [uniq,List.map_cons,uniqGo_map f eq eq' h]
theorem uniqGo_sub {α : Type} (eq : α → α → Bool) : ∀ (x : α) (l : List α),(uniqGo eq x l).Sublist l
 | _,[]=>.slnil
 | x,y :: r=>by
  simp only [uniqGo]
  split
  ·exact (uniqGo_sub eq y r).cons y
  ·exact (uniqGo_sub eq y r).cons_cons y
theorem uniq_sub {α : Type} (eq : α → α → Bool) (l : List α) : (uniq eq l).Sublist l:=by
 cases l with
 | nil=>exact .slnil
 | cons x r=>exact (uniqGo_sub eq x r).cons_cons x
def setC (s : List Int) : List Int:=uniq (fun a b : Int=>decide (a = b)) (sortI s)
def badSet : List Int → Bool
 | []=>true
 | a :: r=>decide (a < 0) || decide (((a :: r).length : Int) > 9)
def addSets (all : List (List Int)) (t : List Int) : List (List Int):=uniq eqL (sortL (all ++ subsetsC t))
def simpAll : List (List Int) → List (List Int) → Option (List (List Int))
 | all,[]=>some all
 | all,s :: r=>if badSet (setC s) then simpAll all r else if ((addSets all (setC s)).length : Int) > 4000 then none else simpAll (addSets all (setC s)) r
def sideAt (all : List (List Int)) (s : List Int) (k : Nat) : List Side:=if 0 < (s.eraseIdx k).length then [⟨lbL all (s.eraseIdx k) + 1,signC k⟩] else []
def simpSides (all : List (List Int)) (s : List Int) (j : Nat) : List Side:=(List.range j).flatMap (sideAt all s)
def simpCell (all : List (List Int)) (p : List Int × Nat) : Cl:=⟨p.2 + 1,(p.1.length : Int) - 1,simpSides all p.1 p.1.length⟩
def simpCells (all : List (List Int)) : List Cl:=all.zipIdx.map (simpCell all)
def simpC (l : List (List Int)) : List Cl:=match simpAll [] l with
 | none=>[]
 | some all=>canonC (simpCells all)
theorem subsetsC_length (t : List Int) (h : t.length ≤ 9) : (subsetsC t).length ≤ 511:=by
 have:=pow_le t.length h
 simp [subsetsC]
 omega
theorem subsetsC_short {t : List Int} (h : t.length ≤ 9) : ∀ x ∈ subsetsC t,x.length ≤ 9:=fun x hx=>by
 obtain ⟨i,_,rfl⟩:=List.mem_map.1 hx
 exact Nat.le_trans (pickB_length _ _) h
theorem subsetsC_pos {t : List Int} (h : t ≠ []) : 0 < (subsetsC t).length:=by
 have h1 : 0 < t.length:=List.length_pos_iff.2 h
 have h2 : 2 ^ 1 ≤ 2 ^ t.length:=Nat.pow_le_pow_right dC h1
 simp [subsetsC]
 omega
theorem addSets_mem {all : List (List Int)} {t x : List Int} (h : x ∈ addSets all t) : x ∈ all ∨ x ∈ subsetsC t:=by
 have h1:=(uniq_sub eqL _).subset h
 have h2:=(sortL_perm _).subset h1
 exact List.mem_append.1 h2
theorem addSets_srt (all : List (List Int)) (t : List Int) : SrtL (addSets all t):=(sortL_srt _).sublist (uniq_sub eqL _)
theorem srt_mono {all : List (List Int)} (h : SrtL all) (t : List Int) : ∀ i j (hi : i < all.length) (hj : j < all.length),i < j → compareC all[j] t < 0 → compareC all[i] t < 0:=fun i j hi hj hij hlt=>by
 have h1:=List.pairwise_iff_getElem.1 h i j hi hj hij
 rcases compareC_cases all[i] all[j] with h2 | h2 | h2
 ·exact compareC_trans _ _ _ h2 hlt
 ·rw [h2]; exact hlt
 ·exact absurd h2 h1
theorem simpSides_succ (all : List (List Int)) (s : List Int) (j : Nat) : simpSides all s (j + 1) = simpSides all s j ++ sideAt all s j:=by
 simp [simpSides,List.range_succ]
theorem simpSides_length (all : List (List Int)) (s : List Int) (j : Nat) : (simpSides all s j).length ≤ j:=by
 induction j with
 | zero=>simp [simpSides]
 | succ j ih =>
  rw [simpSides_succ,List.length_append]
  have : (sideAt all s j).length ≤ 1:=by unfold sideAt; split <;> simp
  omega
theorem simpCells_length (all : List (List Int)) : (simpCells all).length = all.length:=by simp [simpCells]
theorem simpCells_get {all : List (List Int)} {k : Nat} (h : k < all.length) : (simpCells all)[k]? = some (simpCell all (all[k],k)):=by
 simp [simpCells,h]
theorem simpCells_fits {all : List (List Int)} (h : all.length ≤ 4000) (hs : ∀ x ∈ all,x.length ≤ 9) : Fits (simpCells all):=by
 refine ⟨by rw [simpCells_length]; omega,fun c hc=>?_⟩
 obtain ⟨p,hp,rfl⟩:=List.mem_map.1 hc
 have h1 : p.1 ∈ all:=by
  have:=List.mem_map_of_mem (f:=Prod.fst) hp
  simpa using this
 have h2:=hs _ h1
 have h3:=simpSides_length all p.1 p.1.length
 show (simpSides all p.1 p.1.length).length < _
 omega
theorem lbL_le (ls : List (List Int)) (t : List Int) : lbL ls t ≤ ls.length:=List.length_filter_le _ _
def svOf (v : Value) : Sv:=match v with
 | .slice p n c=>⟨p,n,c⟩
 | _=>⟨none,0,0⟩
theorem simplicial_spec (E : World) (g : PH) (s : Own) (v : Value) (ls : List (List Int)) (hv : Lists g v ls) (hn : ls.length < 1099511627776) (hl : ∀ x ∈ ls,x.length < 17592186044416) :
  Ctr Tryz.prog E 31 #[v] g s (fun r g' s'=>s = s' ∧ Le g g' ∧ ∃ u,r = .agg #[u] ∧ Cells g' u (simpC ls)):=by
 obtain ⟨rs0,hrs0,hall0⟩:=hv
 have hlen0:=hall0.length
 obtain ⟨p,c,rfl⟩:=SlA.form hrs0
 refine Ctr.of (args:=[.slice p rs0.length c]) func31 I ntmps31 (bE I) ?_
 refine SC.sR (SL.bx (aL zeroValue31) fun b2=>?_)
 refine SL.nT (SC.sR (lA I (SL.nT (sQ (SC.sR (lM I (lU (eN uT22 I) (lM I (SL.nT (bK (SC.nilRow 27 1 ?_)))))))))))
 refine oP (ι:=PH × Value × List Sv × List (List Int) × Nat) (fun i=>[(0,.slice p rs0.length c),(2,pp b2 0),(3,i.2.1),(14,.slice p rs0.length c),(15,vi rs0.length),(16,vi i.2.2.2.2)]) (fun i=>i.1)
  (fun i=>rowA encSv 27 i.2.1 i.2.2.1 :: pt b2 (.cells #[.slice none 0 0] 31 (0,0)) :: s)
  (fun i=>Le g i.1 ∧ i.2.2.2.2 ≤ rs0.length ∧ All2 (ListR i.1) i.2.2.2.1 i.2.2.1 ∧ (i.2.2.2.1.length ≤ 4000 ∧ ∀ x ∈ i.2.2.2.1,x.length ≤ 9) ∧ SrtL i.2.2.2.1 ∧ simpAll [] ls = simpAll i.2.2.2.1 (ls.drop i.2.2.2.2)) (fun i=>rs0.length - i.2.2.2.2)
  (g,.slice none 0 0,[],[],0) sB rfl rfl ⟨Le.refl g,Nat.zero_le _,trivial,⟨Nat.zero_le _,by simp⟩,List.Pairwise.nil,rfl⟩ ?_
 rintro ⟨g1,av,rs,all,k⟩ ⟨hle,hk,hall,⟨hal,has⟩,hsrt,hsa⟩
 dsimp only at hle hk hall hal has hsrt hsa ⊢
 have hrl:=hall.length
 refine SC.sR (lU (lS I I) (SL.nT (sQ ?_)))
 refine iP I (fun hlt=>?_) (fun hlt=>?_)
 ·have hkl : k < ls.length:=oM
  have hkr : k < rs0.length:=oM
  have hR:=(hall0.get (gE hkl) (gE hkr)).mono hle
  have hxl:=hl _ (gM hkl)
  have hb1:=hrs0.based oM
  have hdrop : ls.drop k = ls[k] :: ls.drop (k + 1):=List.drop_eq_getElem_cons hkl
  rw [hdrop] at hsa
  generalize hx : ls[k] = x at *
  generalize hr : rs0[k] = r at *
  have hgr : rs0[((k : Nat) : Int).toNat]? = some r:=by rw [← hr]; exact gE hkr
  have hsl:=sortI_length x
  have hul:=uniq_length (fun a b : Int=>decide (a = b)) (sortI x)
  refine kP (tN (sQ (bK (SC.sR (lU (iA uT22 zT27 I I hb1 oM sL) (lK (eB iT27 I (hrs0.mono hle).rd hgr I) (lA I (SL.nT (SC.sR (lM I (lW (cL call86 I (cloneI E g1 _ _ x hR hxl)) ?_)))))))))))
  rintro v21 _ _ ⟨rfl,rfl⟩
  refine lA I (SL.nT (SC.sR (lM I (lW (cL call87 I (sortInts_spec E g1 _ v21 x 0 I hxl)) ?_))))
  rintro _ _ _ ⟨rfl,rfl⟩
  refine SL.nT (SC.sR (lM I (lW (cL call88 I (compactI E g1 _ v21 (sortI x) oM)) ?_)))
  rintro v25 _ _ ⟨rfl,rfl⟩
  refine lA I (SL.nT (sQ (fS fun g2 hle2 hs2=>?_)))
  have hset : Ints g2 v25 (setC x):=hs2
  have hsetl : (setC x).length < 17592186044416:=by unfold setC; omega
  obtain ⟨q2,d2,rfl⟩:=SlA.form hset
  have hcase : setC x = [] ∨ ∃ a t,setC x = a :: t:=by cases setC x with
   | nil=>exact .inl rfl
   | cons a t=>exact .inr ⟨a,t,rfl⟩
  have hall2:=hall.mono fun _ _=>ListR.mono hle2
  clear hs2
  generalize hT : setC x = T at *
  rcases hcase with hT0 | ⟨a,t,hTa⟩
  ·subst hT0
   have hbad : badSet (setC x) = true:=by rw [hT]; rfl
   refine SC.sR (lM I (lU (eN uT27 I) (lU (SU.eq (v':=vb true) (eQ I I) (congrArg vb (decide_eq_true (by simp)))) ?_)))
   refine lM I (lZ I I I (lZ I I I (lZ I I I (lZ I I I (lU (pT I I) (lM I (lZ I I I (lZ I I I (lZ I I I (lU (pT I I) (SL.nT (cT I (xI (tX (bX (tN (rG (lU (aD I I oM) (lM I (nL ?_))))))))))))))))))))
   refine gA (g2,av,rs,all,k + 1) sB I I ⟨hle.trans hle2,lN,hall2,⟨hal,has⟩,hsrt,?_⟩ lN
   rw [hsa,simpAll,if_pos hbad]
  ·have hTl : T.length = t.length + 1:=by rw [hTa]; rfl
   have hbT:=SlA.based hset oM
   have hga : T[((0 : Nat) : Int).toNat]? = some a:=by rw [hTa]; rfl
   have hbe : badSet (setC x) = (decide (a < 0) || decide ((T.length : Int) > 9)):=by rw [hT,hTa]; rfl
   have hbe1 : a < 0 → (decide (a < 0) || decide ((T.length : Int) > 9)) = true:=fun h=>by simp [h]
   have hbe2 : ¬ a < 0 → (decide (a < 0) || decide ((T.length : Int) > 9)) = decide ((T.length : Int) > 9):=fun h=>by simp [h]
   refine SC.sub (f':=[(0,.slice p rs0.length c),(2,pp b2 0),(3,av),(5,.slice q2 T.length d2),(14,.slice p rs0.length c),(15,vi rs0.length),(16,vi k)]) sB ?_
   refine SC.cutB 39 ((decide (a < 0) || decide ((T.length : Int) > 9))) ?_ ?_
   ·refine rG (lM I (lU (eN uT27 I) (lU (SU.eq (v':=vb false) (eQ I I) (congrArg vb (decide_eq_false oM))) (lM I (lY I I I (mV I) (lY I I I (iA uT27 zT3 I I hbT dC sL) (SL.gq (gT I I I dC) (eB iT3 I (SlA.rd hset) hga I) dC (lY I I I (lS I I) (lU (pF I I) (lM I ?_))))))))))
    refine sP ?_ ?_
    ·intro h35
     refine lZ I I I (lZ I I I (lZ I I I (lU (pT I I) (nL ?_))))
     exact ST.mid1 (by (rw [hbe1 h35]; rfl)) mI
    ·intro h35
     refine lY I I I (mV I) (lY I I I (eN uT27 I) (lY I I I (gR I I) (lU (pF I I) (nL ?_))))
     exact ST.mid1 (by (rw [hbe2 h35]; rfl)) mI
   refine iQ I (fun hbad=>?_) (fun hbad=>?_)
   ·refine xI (tX (bX (tN (rG (lU (aD I I oM) (lM I (nL ?_)))))))
    refine gA (g2,av,rs,all,k + 1) sB I I ⟨hle.trans hle2,lN,hall2,⟨hal,has⟩,hsrt,?_⟩ lN
    rw [hsa,simpAll,if_pos (hbe.trans hbad)]
   ·have hb9 : T.length ≤ 9:=by simp at hbad; omega
    have hsub1:=subsetsC_length T hb9
    have hsub2:=subsetsC_short hb9
    have hsub3:=subsetsC_pos (t:=T) (by rw [hTa]; simp)
    have hnb : ¬ badSet (setC x) = true:=by rw [hbe,hbad]; simp
    refine kP (tN (SC.sR (lM I (lM I (lW (cL call89 I (subsets_spec E g2 _ _ T hset hb9)) ?_)))))
    rintro v42 g3 _ ⟨rfl,hle3,hsub⟩
    obtain ⟨rs2,hrs2,hall3⟩:=hsub
    have hrl2:=hall3.length
    refine lW (aQ (e:=encSv) 0 sty22 I I I hrs2 oM oM) ?_
    rintro v43 _ _ ⟨rfl,rfl⟩
    have hall4:=(hall2.mono fun _ _=>ListR.mono hle3).append hall3
    obtain ⟨L,hL1,hL2⟩:=lv_of hall4 (fun y hy=>(List.mem_append.1 hy).elim (fun h=>Nat.lt_of_le_of_lt (has y h) dC) (fun h=>Nat.lt_of_le_of_lt (hsub2 y h) dC))
    have hLl : L.length = all.length + (subsetsC T).length:=(by have:=congrArg List.length hL1; simpa using this)
    rw [← hL2,← lv_row]
    refine lA I (SL.nT (SC.sR (lM I (lW (cL call90 I (sortFuncAny E g3 _ _ L oM oM)) ?_))))
    rintro _ _ _ ⟨rfl,L2,hp2,hs2,rfl⟩
    have hL2l:=hp2.length_eq
    have hcall : ∀ (x y : LV g3) s',CallV Tryz.prog E (.func (.func 93) #[] #[]) [x.val,y.val] g3 s' (fun r g' s''=>r = vb (decide (x.l = y.l)) ∧ g3 = g' ∧ s' = s''):=fun x y s'=>CallV.mk (args:=[x.val,y.val]) (cap:=[]) call93 (equalInts E g3 s' _ _ x.l y.l x.h y.h x.len)
    refine SL.nT (SC.sR (lM I (lW (cL call92 I (compactL (encLV g3) LV.val (fun _=>I) (fun _=>I) E g3 _ _ 93 (fun x y=>decide (x.l = y.l)) L2 oM hcall)) ?_)))
    rintro v47 _ _ ⟨rfl,rfl⟩
    refine SL.facts fun ⟨w0,hw0⟩=>?_
    obtain ⟨q,d,rfl⟩:=rowA_form (i:=0) hw0 rfl
    clear hw0 w0
    rw [lv_row]
    have hnew : (uniq (fun x y : LV g3=>decide (x.l = y.l)) L2).map LV.l = addSets all T:=(by rw [uniq_map LV.l (fun x y : LV g3=>decide (x.l = y.l)) eqL (fun _ _=>rfl),hs2,hL1]; rfl)
    have hnl : (uniq (fun x y : LV g3=>decide (x.l = y.l)) L2).length = (addSets all T).length:=(by rw [← hnew,List.length_map])
    have hall5:=lv_all (uniq (fun x y : LV g3=>decide (x.l = y.l)) L2)
    rw [hnew] at hall5
    generalize (uniq (fun x y : LV g3=>decide (x.l = y.l)) L2).length = n47 at *
    generalize (uniq (fun x y : LV g3=>decide (x.l = y.l)) L2).map LV.sv = rs5 at *
    refine lA I (SL.nT (SC.sR (lM I (lU (eN uT22 I) (lU (gR I I) (SL.nT ?_))))))
    refine iP I (fun hmany=>?_) (fun hmany=>?_)
    ·have hnone : simpAll [] ls = none:=by rw [hsa,simpAll,if_neg hnb,hT,if_pos oM]
     refine SC.sR (lU (SU.build I (buildE31)) (SL.O2 (sK 1 zT31 I I I I I sB) ?_))
     refine SL.nT (rE (bR (tR (tR (bR (tR ?_))))))
     exact ST.retCD 1 s (.inl I) results31 I iT31 zT31 I I (.cons _ (.cons _ (.refl _))) ⟨I,hle.trans (hle2.trans hle3),_,I,by simp only [simpC,hnone]; exact ⟨[],Sl.nil _ _,trivial⟩⟩
    ·refine kP (bN (tN (rG (lU (aD I I oM) (lM I (nL ?_))))))
     refine gA (g3,.slice q n47 d,rs5,addSets all T,k + 1) sB I I ⟨hle.trans (hle2.trans hle3),lN,hall5,⟨lN,fun y hy=>?_⟩,addSets_srt all T,?_⟩ lN
     ·rcases addSets_mem hy with h | h
      ·exact has y h
      ·exact hsub2 y h
     ·rw [hsa,simpAll,if_neg hnb,hT,if_neg oM]
 ·have hk0 : k = rs0.length:=oM
  have hsome : simpAll [] ls = some all:=by rw [hsa,hk0,← hlen0,List.drop_length]; rfl
  have hfit:=simpCells_fits hal has
  refine xI (tX (tX (bX (tN (sQ (fS fun g2 hle2 hs2=>?_))))))
  have hav : SlA encSv g2 av rs:=hs2
  obtain ⟨q,d,rfl⟩:=SlA.form hav
  have hall2:=hall.mono fun _ _=>ListR.mono hle2
  refine rG (SL.bx (aL zeroValue31) fun b6=>?_)
  refine SL.nT (sQ (SC.sR (lM I (lU (eN uT22 I) (lM I (SL.nT (bK (SC.nilRow 40 3 ?_))))))))
  refine oP (ι:=PH × Value × List Rc × Nat) (fun i=>[(2,pp b2 0),(3,.slice q rs.length d),(6,pp b6 0),(53,.slice q rs.length d),(54,vi rs.length),(55,vi i.2.2.2)]) (fun i=>i.1)
   (fun i=>rowA encCell 40 i.2.1 i.2.2.1 :: pt b6 (.cells #[i.2.1] 31 (0,0)) :: pt b2 (.cells #[.slice none 0 0] 31 (0,0)) :: s)
   (fun i=>Le g2 i.1 ∧ i.2.2.2 ≤ rs.length ∧ All2 (CellR i.1) ((simpCells all).take i.2.2.2) i.2.2.1) (fun i=>rs.length - i.2.2.2)
   (g2,.slice none 0 0,[],0) sB rfl rfl ⟨Le.refl g2,Nat.zero_le _,trivial⟩ ?_
  rintro ⟨g3,ov,rcs,n⟩ ⟨hle3,hn3,hrcs⟩
  dsimp only at hle3 hn3 hrcs ⊢
  have hrcl:=hrcs.length
  rw [List.length_take,simpCells_length] at hrcl
  refine SC.sR (lU (lS I I) (SL.nT (sQ ?_)))
  refine iP I (fun hlt2=>?_) (fun hlt2=>?_)
  ·have hnl : n < all.length:=oM
   have hnr : n < rs.length:=oM
   have hb1:=hav.based oM
   have hR:=(hall2.get (gE hnl) (gE hnr)).mono hle3
   have hRl:=hR.len
   have hx9:=has _ (gM hnl)
   have hget:=simpCells_get hnl
   generalize hx : all[n] = x at *
   generalize hr : rs[n] = r at *
   obtain ⟨rp,rn,rc⟩:=r
   dsimp only at hRl
   subst hRl
   have hxs : Ints g3 (.slice rp x.length rc) x:=hR
   have hgr : rs[((n : Nat) : Int).toNat]? = some ⟨rp,x.length,rc⟩:=by rw [← hr]; exact gE hnr
   refine kP (tN (sQ (bK (SC.sR (lM I (lU (iA uT22 zT27 I I hb1 oM sL) (lK (eB (u:=.slice rp x.length rc) iT27 I (hav.mono hle3).rd hgr I) (lA I (lA I (SL.nT (SC.sR (lM I (lU (aD I I oM) (lM I (lU (eN uT27 I) (lU (sU I I oM) (lU (SU.build I (buildC40 _ _)) (SL.bx (aL zeroValue40) fun b9=>?_))))))))))))))))))
   refine SL.O2 (sK 0 zT40 I I I I I sB) ?_
   refine SL.nT (sQ (sQ (SC.nilRow 42 2 (rG (lM I (lU (eN uT27 I) (lM I (SL.nT (bK ?_)))))))))
   refine oP (ι:=PH × Value × Nat) (fun i=>[(2,pp b2 0),(3,.slice q rs.length d),(6,pp b6 0),(53,.slice q rs.length d),(54,vi rs.length),(55,vi n),(8,.slice rp x.length rc),(9,pp b9 0),(66,.slice rp x.length rc),(67,vi x.length),(68,vi i.2.2)]) (fun i=>i.1)
    (fun i=>rowA encSide 42 i.2.1 (simpSides all x i.2.2) :: pt b9 (.cells #[vi ((n : Int) + 1),vi ((x.length : Int) - 1),i.2.1] 40 (0,0)) :: rowA encCell 40 ov rcs :: pt b6 (.cells #[ov] 31 (0,0)) :: pt b2 (.cells #[.slice none 0 0] 31 (0,0)) :: s)
    (fun i=>Le g3 i.1 ∧ i.2.2 ≤ x.length) (fun i=>x.length - i.2.2)
    (g3,.slice none 0 0,0) sB rfl rfl ⟨Le.refl g3,Nat.zero_le _⟩ ?_
   rintro ⟨g4,sv,j⟩ ⟨hle4,hj⟩
   dsimp only at hle4 hj ⊢
   have hssl:=simpSides_length all x j
   have hsucc:=simpSides_succ all x j
   refine SC.sR (lU (lS I I) (SL.nT (sQ ?_)))
   refine iP I (fun hlt3=>?_) (fun hlt3=>?_)
   ·have hjl : j < x.length:=oM
    have hxs4 : Ints g4 (.slice rp x.length rc) x:=hxs.mono hle4
    have hcap:=(SlA.cap hxs4).2
    have hc1:=SlA.cut hxs4 (l:=0) (m:=j) oM oM
    have hc2:=SlA.cut hxs4 (l:=j + 1) (m:=x.length) oM oM
    have he1 : (x.drop 0).take (j - 0) = x.take j:=by simp
    have he2 : (x.drop (j + 1)).take (x.length - (j + 1)) = x.drop (j + 1):=tL (by rw [List.length_drop]; omega)
    rw [he1] at hc1
    rw [he2] at hc2
    have her : [x.take j,x.drop (j + 1)].flatten = x.eraseIdx j:=by rw [List.eraseIdx_eq_take_drop_succ]; simp
    have hel : (x.eraseIdx j).length = x.length - 1:=by rw [List.length_eraseIdx]; simp [hjl]
    have hsum : sumLen [x.take j,x.drop (j + 1)] < 1099511627776:=by simp [sumLen]; omega
    refine kP (tN (sQ (bK (SC.sR (lM I (lA I (SL.nT (sQ ?_))))))))
    refine dW [] [(0,2),(1,2),(2,2),(3,2),(4,2),(5,2),(6,2),(7,0),(8,0),(9,2)] Tryz.mixed (by kernel_rfl) ?_
    refine pU I (mV I) (pU I (mV I) (pU I (SU.sliceH uT27 zT3 I I oM oM) (pU I (mV I) (pU I (mV I) (pU I (aD I I oM) (pU I (SU.eq (v':=sliced rp (j + 1) x.length rc 1) (SU.sliceL uT27 zT3 I I oM oM) (by rw [show ((j : Int) + 1).toNat = j + 1 by omega])) ?_))))))
    refine SP.o rfl (bS sty22 rfl rfl rfl (szs_mk sB) dC) dC (.inr (by rintro _ _ _ ⟨b78,rfl,rfl,rfl⟩; exact ⟨by exact Le.refl _,(by exact .cons _ (.refl _))⟩)) ?_
    rintro _ _ _ ⟨b78,rfl,rfl,rfl⟩
    refine SP.freeze fun g5 hle5 hb78=>?_
    have hlit : Lists g5 (.slice (some ⟨b78,0,none⟩) 2 2) [x.take j,x.drop (j + 1)]:=⟨[svOf (sliced rp 0 j rc 1),svOf (sliced rp (j + 1) x.length rc 1)],SlA.lit hb78 rfl rfl,⟨hc1.mono hle5,hc2.mono hle5,trivial⟩⟩
    refine SP.o rfl (cL call94 rfl (concat_spec E g5 _ _ _ hlit (by simp) hsum)) dC (.inr (by rintro v79 _ _ ⟨rfl,rfl⟩; exact ⟨by assumption,(by exact .cons _ (.refl _))⟩)) ?_
    rintro v79 _ _ ⟨rfl,rfl⟩
    refine pU I (aS I) (pN (tN (sQ (fS fun g6 hle6 hs6=>?_))))
    have hrest : Ints g6 v79 (x.eraseIdx j):=(by rw [← her]; exact hs6)
    obtain ⟨q6,d6,rfl⟩:=SlA.form hrest
    clear hs6
    refine rG (lM I (lU (eN uT27 I) (lU (gR I I) (SL.nT ?_))))
    refine iP I (fun hpos=>?_) (fun hpos=>?_)
    ·have hside : sideAt all x j = [⟨lbL all (x.eraseIdx j) + 1,signC j⟩]:=by unfold sideAt; rw [if_pos oM]
     have hlb:=lbL_le all (x.eraseIdx j)
     rw [hside] at hsucc
     have hlist : Lists g6 (.slice q rs.length d) all:=⟨rs,hav.mono (hle3.trans (hle4.trans (hle5.trans hle6))),hall2.mono fun _ _=>ListR.mono (hle3.trans (hle4.trans (hle5.trans hle6)))⟩
     refine SC.sR (lM I (lM I (lW (cL call95 I (binSearchL E g6 _ _ _ all (x.eraseIdx j) hlist hrest oM (fun y hy=>by have:=has y hy; omega) (srt_mono hsrt _))) ?_)))
     rintro _ _ _ ⟨⟨fb,rfl⟩,rfl,rfl⟩
     refine lM I (lU (xT I I) (lU (xT I I) (lA I (lA I (SL.nT ?_)))))
     refine dW [8,9,10] [(0,2),(1,1),(2,2),(3,2),(4,2),(5,0),(6,2),(7,0),(8,0),(9,0),(10,0)] Tryz.mixed (by kernel_rfl) ?_
     refine pU rfl (fA uT40 rfl zT38 rfl) (pK rfl (qL iT38 rfl (cO 1 rfl rfl)) (pU rfl (mV rfl) (pU rfl (aD rfl rfl oM) (pU rfl (mV rfl) (SP.o rfl (cL call96 rfl (sign_spec E g6 _ j)) dC (.inr (by rintro _ _ _ ⟨rfl,rfl,rfl⟩; exact ⟨by exact Le.refl _,(by exact .refl _)⟩)) ?_)))))
     rintro _ _ _ ⟨rfl,rfl,rfl⟩
     refine pU rfl (SU.build rfl (buildS42 _ _)) (SP.o rfl (bS sty38 rfl rfl rfl (szs_mk sB) dC) dC (.inr (by rintro _ _ _ ⟨b96,rfl,rfl,rfl⟩; exact ⟨by exact Le.refl _,(by exact .cons _ (.refl _))⟩)) ?_)
     rintro _ _ _ ⟨b96,rfl,rfl,rfl⟩
     refine SP.o I (aP (e:=encSide) 0 ⟨lbL all (x.eraseIdx j) + 1,signC j⟩ sty38 I I I I I oM oM) dC (.inl dC) ?_
     rintro v97 _ _ ⟨rfl,rfl⟩
     rw [← hsucc]
     refine SP.facts fun ⟨w0,hw0⟩=>?_
     obtain ⟨q97,d97,rfl⟩:=rowA_form (i:=0) hw0 rfl
     clear hw0 w0
     refine oU rfl (fA uT40 rfl zT38 rfl) dC (.inl dC) (SP.on rfl (SO.store1 1 zT38 rfl rfl rfl rfl (bE rfl) (by rfl)) (.inl dC) ?_)
     rintro _ _ _ ⟨rfl,rfl⟩
     refine pN (bN (tN (rG (lU (aD I I oM) (lM I (nL ?_))))))
     exact gA (g6,_,j + 1) sB I I ⟨hle4.trans (hle5.trans hle6),lN⟩ lN
    ·have hside : sideAt all x j = []:=by unfold sideAt; rw [if_neg oM]
     rw [hside,List.append_nil] at hsucc
     refine kP (bN (tN (rG (lU (aD I I oM) (lM I (nL ?_))))))
     refine ST.to (fun w hw=>?_) (g':=g6) (s':=rowA encSide 42 sv (simpSides all x (j + 1)) :: pt b9 (.cells #[vi ((n : Int) + 1),vi ((x.length : Int) - 1),sv] 40 (0,0)) :: rowA encCell 40 ov rcs :: pt b6 (.cells #[ov] 31 (0,0)) :: pt b2 (.cells #[.slice none 0 0] 31 (0,0)) :: s) ?_
     ·rw [hsucc]; exact hw
     exact gA (g6,sv,j + 1) sB I I ⟨hle4.trans (hle5.trans hle6),lN⟩ lN
   ·have hjj : j = x.length:=oM
    subst hjj
    refine xI (tX (tX (bX (tN (rG (fR fun g5 hle5 hs5=>?_))))))
    have hsd : SlA encSide g5 sv (simpSides all x x.length):=hs5
    obtain ⟨q5,d5,rfl⟩:=SlA.form hsd
    obtain ⟨nc,hnc⟩ : ∃ nc : Rc,nc = ⟨(n : Int) + 1,(x.length : Int) - 1,⟨q5,(simpSides all x x.length).length,d5⟩⟩:=⟨_,rfl⟩
    refine lU (fA uT31 I zT29 I) (lK (qL iT29 I (cO 2 I I)) (lK (qV 0 iT40 zT40 I I I) (lW (bS sty29 I I I (szs_mk sB) dC) ?_)))
    rintro _ _ _ ⟨b103,rfl,rfl,rfl⟩
    refine lW (aP (e:=encCell) 1 nc sty29 rfl rfl rfl rfl (by rw [hnc]; rfl) oM oM) ?_
    rintro v104 _ _ ⟨rfl,rfl⟩
    refine SL.facts fun ⟨w0,hw0⟩=>?_
    obtain ⟨q104,d104,rfl⟩:=rowA_form (i:=1) hw0 rfl
    clear hw0 w0
    refine lU (fA uT31 I zT29 I) (SL.O2 (sK 2 zT29 I I I I I sB) ?_)
    refine nL (bN (tN (rG (lU (aD I I oM) (lM I (nL (dR (s':=rowA encCell 40 (.slice q104 (rcs ++ [nc]).length d104) (rcs ++ [nc]) :: pt b6 (.cells #[.slice q104 (rcs ++ [nc]).length d104] 31 (0,0)) :: pt b2 (.cells #[.slice none 0 0] 31 (0,0)) :: s) (.cons _ (.refl _)) ?_)))))))
    refine gA (g5,_,rcs ++ [nc],n + 1) sB I I ⟨hle3.trans (hle4.trans hle5),lN,?_⟩ lN
    dsimp only
    rw [take_succ_of hget]
    exact (hrcs.mono fun _ _=>CellR.mono (hle4.trans hle5)).append ⟨(by rw [hnc]; exact ⟨I,I,hsd⟩),trivial⟩
  ·have hnn : n = rs.length:=oM
   have htk : (simpCells all).take n = simpCells all:=tL (by rw [simpCells_length]; omega)
   rw [htk] at hrcs
   refine xI (tX (tX (bX (tN (sQ (fS fun g4 hle4 hs4=>?_))))))
   have hov : Cells g4 ov (simpCells all):=⟨rcs,hs4,hrcs.mono fun _ _=>CellR.mono hle4⟩
   refine rG (lK (qV 0 iT31 zT31 I I I) (lW (cL call16 I (canon_spec E g4 _ ov (simpCells all) hov hfit)) ?_))
   rintro _ g5 _ ⟨rfl,hle5,u,rfl,hu⟩
   obtain ⟨q9,d9,rfl⟩:=hu.form
   refine SL.O2 (sK 1 zT31 I I I I I sB) ?_
   refine SL.nT (rE ?_)
   exact ST.retCD 1 s (.inl I) results31 I iT31 zT31 I I (.cons _ (.cons _ (.refl _))) ⟨I,hle.trans (hle2.trans (hle3.trans (hle4.trans hle5))),_,I,by simp only [simpC,hsome]; exact hu⟩
def CellO (c : Cl) (r : Rc) : Prop:=r.id = c.id ∧ r.dim = c.dim ∧ r.sv.n = c.sides.length
def ownC (c : Cl) (r : Rc) : Ent:=rowA encSide 42 (.slice r.sv.p r.sv.n r.sv.c) c.sides
def ownS : List Cl → List Rc → Own
 | c :: l,r :: rs=>ownC c r :: ownS l rs
 | _,_=>[]
theorem ownS_append : ∀ {l : List Cl} {rs : List Rc} (c : Cl) (r : Rc),l.length = rs.length → ownS (l ++ [c]) (rs ++ [r]) = ownS l rs ++ [ownC c r]
 | [],[],_,_,_=>rfl
 | x :: l,y :: rs,c,r,h=>by
  simp only [List.cons_append,ownS]
  rw [ownS_append c r (by simpa using h)]
 | [],_ :: _,_,_,h=>by simp at h
 | _ :: _,[],_,_,h=>by simp at h
theorem freezeO {E : World} {s : Own} {w : World} : ∀ {l : List Cl} {rs : List Rc} {g : PH},All2 CellO l rs → At E g (ownS l rs ++ s) w → ∃ g',Le g g' ∧ At E g' s w ∧ All2 (CellR g') l rs
 | [],[],g,_,h=>⟨g,Le.refl g,h,trivial⟩
 | c :: l,r :: rs,g,h1,h=>by
  obtain ⟨g1,hl1,ha1,hs1⟩:=At.freezeRow h
  obtain ⟨g2,hl2,ha2,hs2⟩:=freezeO h1.2 ha1
  exact ⟨g2,hl1.trans hl2,ha2,⟨h1.1.1,h1.1.2.1,SlA.mono hs1 hl2⟩,hs2⟩
 | [],_ :: _,_,h1,_=>h1.elim
 | _ :: _,[],_,h1,_=>h1.elim
theorem freezeCells {E : World} {s : Own} {w : World} {l : List Cl} {rs : List Rc} {g : PH} {u : Value} (h1 : All2 CellO l rs) (h : At E g (rowA encCell 40 u rs :: (ownS l rs ++ s)) w) : ∃ g',Le g g' ∧ At E g' s w ∧ Cells g' u l:=by
 obtain ⟨g1,hl1,ha1,hs1⟩:=At.freezeRow h
 obtain ⟨g2,hl2,ha2,hs2⟩:=freezeO h1 ha1
 exact ⟨g2,hl1.trans hl2,ha2,rs,SlA.mono hs1 hl2,hs2⟩
theorem SC.freezeCells {P : Program} {N : Nat} {E : World} {Q : Exit → Act → World → Prop} {f : Fr} {g : PH} {s : Own} {o : Code} {l : List Cl} {rs : List Rc} {u : Value} (h1 : All2 CellO l rs) (h : ∀ g',Le g g' → Cells g' u l → SC P N E o Q f g' s) : SC P N E o Q f g (rowA encCell 40 u rs :: (ownS l rs ++ s)):=fun a w ha hw=>by
 obtain ⟨g',h2,h3,h4⟩:=Go.Proofs.YtkdibcicncjpdaaGreatDoor.freezeCells h1 hw
 exact h g' h2 h4 a w ha h3
theorem copy_own (E : World) (g : PH) (s : Own) (v : Value) (l : List Cl) (hv : Cells g v l) (hf : Fits l) :
  Ctr Tryz.prog E 28 #[.agg #[v]] g s (fun r g' s'=>g = g' ∧ ∃ u rs,r = .agg #[u] ∧ All2 CellO l rs ∧ s' = rowA encCell 40 u rs :: (ownS l rs ++ s)):=by
 obtain ⟨rs,hrs,hall⟩:=hv
 have hlen:=hall.length
 have hfl:=hf.1
 obtain ⟨p,c,rfl⟩:=hrs.form
 refine Ctr.of (args:=[.agg #[.slice p rs.length c]]) func28 I ntmps28 (bE I) ?_
 refine SC.sR (SL.bx (bO I) fun b1=>?_)
 refine SL.bx (aL zeroValue31) fun b2=>?_
 refine SL.nT (SC.sR (SL.bx (aL zeroValue31) fun b3=>?_))
 refine SL.nT (sQ (SC.sR (lA I (SL.nT (bK (SC.nilRow 40 3 ?_))))))
 refine oP (ι:=Nat × Value × List Rc) (fun i=>[(1,pp b1 0),(2,pp b2 0),(3,pp b3 0),(4,vi i.1)]) (fun _=>g)
  (fun i=>rowA encCell 40 i.2.1 i.2.2 :: pt b3 (.cells #[i.2.1] 31 (0,0)) :: pt b2 (.cells #[.slice none 0 0] 31 (0,0)) :: pt b1 (.cells #[.slice p rs.length c] 31 (0,0)) :: (ownS (l.take i.1) i.2.2 ++ s))
  (fun i=>i.1 ≤ rs.length ∧ All2 CellO (l.take i.1) i.2.2) (fun i=>rs.length - i.1) (0,.slice none 0 0,[])
  sB rfl rfl ⟨Nat.zero_le _,by simp [All2]⟩ ?_
 rintro ⟨k,ov,acc⟩ ⟨hk,hacc⟩
 dsimp only at hk hacc ⊢
 have hal:=hacc.length
 refine sQ (SC.sR (lM I (lU (fA uT31 I zT29 I) (lK (qL iT29 I (cO 3 I I)) (lU (eN uT29 I) (lU (lS I I) (SL.nT ?_)))))))
 refine iP I (fun hlt=>?_) (fun hlt=>?_)
 ·have hkr : k < rs.length:=oM
  have hkl : k < l.length:=oM
  have hb1:=hrs.based oM
  have hcr:=hall.get (gE hkl) (gE hkr)
  have hgx : rs[((k : Nat) : Int).toNat]? = some rs[k]:=gE hkr
  have htk : l.take (k + 1) = l.take k ++ [l[k]]:=tS hkl
  have hxl:=hf.2 _ (gM hkl)
  have hal2 : (l.take k).length ≤ k:=by simp; omega
  generalize rs[k] = x at *
  generalize l[k] = cx at *
  obtain ⟨xi,xd,xp,xn,xc⟩:=x
  have hxsl : SlA encSide g (.slice xp xn xc) cx.sides:=hcr.2.2
  have hxn : xn = cx.sides.length:=Sl.slen hxsl
  subst hxn
  refine kP (tN (sQ (bK (SC.sR (lU (fA uT31 I zT29 I) (lK (qL iT29 I (cO 3 I I)) (lM I (lU (iA uT29 zT40 I I hb1 oM (show (k : Int) < ((rs.length : Nat) : Int) by omega)) ?_))))))))
  refine lK (eA iT40 zT40 I hrs.rd hgx) (SL.bx (aL zeroValue40) fun b5=>?_)
  refine SL.O2 (sK 0 zT40 I I I I I sB) ?_
  refine SL.nT (SC.sR (lW (bS sty38 I I I (szs_mk trivial) dC) ?_))
  rintro _ _ _ ⟨b18,rfl,rfl,rfl⟩
  refine SL.emptyRow 42 2 (some ⟨b18,0,none⟩) (lU (fA uT40 I zT38 I) (lK (qL iT38 I (cO 2 I I)) (lW (SO.appendE (m:=cx.sides.length) 0 cx.sides.length (cx.sides.flatMap encSide.enc) sty38 I I I I I (Sl.rd hxsl) (encSide.length cx.sides) (encSide.ones cx.sides) oM (by simp) oM oM) ?_)))
  rintro r21 _ _ ⟨rfl,rfl⟩
  refine SL.facts fun ⟨w0,hw0⟩=>?_
  obtain ⟨q2,d2,rfl⟩:=rowA_form (e:=encSide) (l:=cx.sides) (i:=0) hw0 rfl
  clear hw0 w0
  obtain ⟨nc,hnc⟩ : ∃ nc : Rc,nc = ⟨xi,xd,q2,cx.sides.length,d2⟩:=⟨_,rfl⟩
  refine lU (fA uT40 rfl zT38 rfl) (SL.O2 (SO.store1 2 zT38 rfl rfl rfl rfl (bE rfl) (by rfl)) ?_)
  refine SL.nT (rG (lU (fA uT31 I zT29 I) (lK (qL iT29 I (cO 4 I I)) (lK (qV 2 iT40 zT40 I I I) (lW (bS sty29 I I I (szs_mk sB) dC) ?_)))))
  rintro _ _ _ ⟨b26,rfl,rfl,rfl⟩
  refine lW (aP (e:=encCell) 3 nc sty29 rfl rfl rfl rfl (by rw [hnc]; rfl) lN lN) ?_
  rintro ov' _ _ ⟨rfl,rfl⟩
  refine SL.facts fun ⟨w0,hw0⟩=>?_
  obtain ⟨q',d',rfl⟩:=rowA_form (e:=encCell) (l:=acc ++ [nc]) (i:=3) hw0 rfl
  clear hw0 w0
  refine lU (fA uT31 I zT29 I) (SL.O2 (sK 4 zT29 I I I I I sB) ?_)
  refine nL (bN (tN (rG (lM I (lU (aD I I oM) (lA I (nL ?_)))))))
  refine ST.to (fun w hw=>?_) (g':=g) (s':=rowA encCell 40 (.slice q' (acc ++ [nc]).length d') (acc ++ [nc]) :: pt b3 (.cells #[.slice q' (acc ++ [nc]).length d'] 31 (0,0)) :: pt b2 (.cells #[.slice none 0 0] 31 (0,0)) :: pt b1 (.cells #[.slice p rs.length c] 31 (0,0)) :: (ownS (l.take (k + 1)) (acc ++ [nc]) ++ s)) ?_
  ·rw [htk,ownS_append cx nc hal]
   have h1:=(hw.sublist (s':=ownC cx nc :: (rowA encCell 40 (.slice q' (acc ++ [nc]).length d') (acc ++ [nc]) :: pt b3 (.cells #[.slice q' (acc ++ [nc]).length d'] 31 (0,0)) :: pt b2 (.cells #[.slice none 0 0] 31 (0,0)) :: pt b1 (.cells #[.slice p rs.length c] 31 (0,0)) :: ownS (l.take k) acc) ++ s) (by rw [hnc]; exact .cons_cons _ (.cons _ (.cons _ (.refl _)))))
   have h2:=h1.perm List.perm_middle.symm
   simpa using h2
  exact gA (k + 1,_,acc ++ [nc]) sB I I ⟨lN,by
   dsimp only
   rw [htk]
   exact hacc.append ⟨(by rw [hnc]; exact ⟨hcr.1,hcr.2.1,I⟩),trivial⟩⟩ lN
 ·have hkk : l.take k = l:=tL oM
  rw [hkk] at hacc ⊢
  refine xI (tX (tX (bX (tN (sQ ?_)))))
  refine SC.facts fun ⟨w0,hw0⟩=>?_
  obtain ⟨q2,d2,rfl⟩:=rowA_form (i:=0) hw0 rfl
  clear hw0 w0
  refine rG (lK (qV 1 iT31 zT31 I I I) (SL.O2 (sK 2 zT31 I I I I I sB) ?_))
  refine SL.nT (rE ?_)
  exact ST.retCD 2 _ (.inl I) results28 I iT31 zT31 I I (.cons_cons _ (.cons _ (.cons _ (.cons _ (.refl _))))) ⟨I,_,acc,I,hacc,I⟩
theorem sideEql (x y : Side) (w : World) : (binOp .eql 42 (.agg (encSide.enc x).toArray) (.agg (encSide.enc y).toArray)).run Tryz.prog w = .ok (.bool (decide (x = y))) w:=by
 have hu : Tryz.prog.underlying 42 = some (.struct (Tryz.prog.fieldsOf 42)):=by kernel_rfl
 rw [run_eql_struct,run_equalIn_agg w 9999 42 _ _ hu stoodInHeld42]
 have hfs : ∃ f1 f2,(Tryz.prog.fieldsOf 42).toList = [f1,f2] ∧ f1.name ≠ "_" ∧ f2.name ≠ "_" ∧ f1.type = 3 ∧ f2.type = 3 ∧ f1.offset = 0 ∧ f2.offset = 1:=⟨_,_,rfl,by decide,by decide,rfl,rfl,rfl,rfl⟩
 obtain ⟨f1,f2,e,n1,n2,t1,t2,o1,o2⟩:=hfs
 obtain ⟨a,b⟩:=x
 obtain ⟨c,d⟩:=y
 rw [e]
 have h1:=run_equalIn_int (P:=Tryz.prog) w 9998 3 .i64 .i64 a c uT3
 have h2:=run_equalIn_int (P:=Tryz.prog) w 9998 3 .i64 .i64 b d uT3
 simp only [Op.eqFields,n1,n2,t1,t2,o1,o2,encSide,part,ne_eq,not_false_eq_true,if_true,Sem.run_bind,iT3,Result.andThen_ok]
 simp [h1,h2]
 by_cases hac : a = c <;> by_cases hbd : b = d <;> simp [hac,hbd]
theorem SU.eqlSide {N : Nat} {f : Fr} {dst : Option Tmp} {ty : TypeId} {pos : String} {af : Array Edge} {gd : Option (Nat × Bool)} {x y : Operand} (a b : Side) {U : TypeId} (hx : ev f x = some (.agg (encSide.enc a).toArray)) (hy : ev f y = some (.agg (encSide.enc b).toArray)) :
  SU Tryz.prog N ⟨dst,.binOp .eql 42 x y U,ty,pos,af,gd⟩ f (.bool (decide (a = b))):=fun ac w ha=>by
 have hg:=run_eqGuard_agg (P:=Tryz.prog) w .eql 42 x y (encSide.enc a).toArray (encSide.enc b).toArray eqGuardType42
 simp only [execOp,ha.ev hx,ha.ev hy,Sem.run_bind,hg,Result.andThen_ok,sideEql]
 rfl
def triL : List Cl:=[⟨1,0,[]⟩,⟨2,0,[]⟩,⟨3,0,[]⟩,⟨4,1,[⟨1,-1⟩,⟨2,1⟩]⟩,⟨5,1,[⟨1,-1⟩,⟨3,1⟩]⟩,⟨6,1,[⟨2,-1⟩,⟨3,1⟩]⟩,⟨7,2,[⟨4,1⟩,⟨5,-1⟩,⟨6,1⟩]⟩]
def lessL : List Cl:=[⟨1,0,[]⟩,⟨2,0,[]⟩,⟨3,0,[]⟩,⟨4,1,[⟨1,-1⟩,⟨2,1⟩]⟩,⟨6,1,[⟨2,-1⟩,⟨3,1⟩]⟩,⟨7,2,[⟨4,1⟩,⟨5,-1⟩,⟨6,1⟩]⟩]
def turnL : List Cl:=[⟨1,0,[]⟩,⟨2,0,[]⟩,⟨3,0,[]⟩,⟨4,1,[⟨1,-1⟩,⟨2,1⟩]⟩,⟨5,1,[⟨1,-1⟩,⟨3,1⟩]⟩,⟨6,1,[⟨2,-1⟩,⟨3,1⟩]⟩,⟨7,2,[⟨4,1⟩,⟨5,1⟩,⟨6,1⟩]⟩]
def edgeL : List Cl:=[⟨1,0,[]⟩,⟨2,0,[]⟩,⟨3,1,[⟨1,-1⟩,⟨2,1⟩]⟩]
theorem sortI_id {l : List Int} (h : l.Pairwise (· ≤ ·)) : sortI l = l:=by
 unfold sortI
 exact List.mergeSort_of_pairwise (h.imp fun h=>by simpa using h)
theorem setC_012 : setC [0,1,2] = [0,1,2]:=by
 unfold setC
 rw [sortI_id dC]
 rfl
theorem setC_01 : setC [0,1] = [0,1]:=by
 unfold setC
 rw [sortI_id dC]
 rfl
theorem simp_tri : simpC [[0,1,2]] = triL:=by
 simp only [simpC,simpAll,setC_012]
 rfl
theorem simp_edge : simpC [[0,1]] = edgeL:=by
 simp only [simpC,simpAll,setC_01]
 rfl
theorem tri_find7 : findC triL 7 = some ⟨7,2,[⟨4,1⟩,⟨5,-1⟩,⟨6,1⟩]⟩:=by kernel_rfl
theorem tri_find4 : findC triL 4 = some ⟨4,1,[⟨1,-1⟩,⟨2,1⟩]⟩:=by kernel_rfl
theorem tri_check : checkC triL = (0,0):=by kernel_rfl
theorem less_check : checkC lessL = (7,22):=by kernel_rfl
theorem turn_check : checkC turnL = (7,24):=by kernel_rfl
theorem tri_tops : topsC triL = [7]:=by kernel_rfl
theorem tri_above : aboveC triL 2 = [4,6]:=by kernel_rfl
theorem tri_closF : closF (tabC triL) [4] = [4,1,2]:=by kernel_rfl
theorem sortI_412 : sortI [4,1,2] = [1,2,4]:=by
 have h1 : (sortI [4,1,2]).Perm [1,2,4]:=(sortI_perm _).trans dC
 have h2 : sortI [1,2,4] = [1,2,4]:=sortI_id dC
 rw [← h2]
 exact mergeSort_of_perm_i dC
theorem tri_closure : closureC triL [4] = [1,2,4]:=by
 unfold closureC
 rw [tri_closF,sortI_412]
theorem tri_euler : eulC triL = 1:=by kernel_rfl
def squareL : List Cl:=prodC edgeL edgeL
theorem square_len : squareL.length = 9:=by kernel_rfl
theorem square_find : findC squareL 9 = some ⟨9,2,[⟨3,-1⟩,⟨6,1⟩,⟨7,1⟩,⟨8,-1⟩]⟩:=by kernel_rfl
theorem fits_dec {l : List Cl} (h : (l.all fun c=>decide (c.sides.length < 100)) = true) (h2 : l.length < 100) : Fits l:=by
 rw [List.all_eq_true] at h
 exact ⟨oM,fun c hc=>by have:=h c hc; simp at this; omega⟩
theorem tri_fits : Fits triL:=fits_dec dC dC
theorem less_fits : Fits lessL:=fits_dec dC dC
theorem turn_fits : Fits turnL:=fits_dec dC dC
theorem edge_fits : Fits edgeL:=fits_dec dC dC
theorem square_fits : Fits squareL:=fits_dec (by kernel_rfl) (by rw [square_len]; decide)
theorem triangle_spec (E : World) (g : PH) (s : Own) : Ctr Tryz.prog E 26 #[] g s (fun r g' s'=>s = s' ∧ Le g g' ∧ ∃ u,r = .agg #[u] ∧ Cells g' u triL):=by
 refine Ctr.of (args:=[]) func26 I ntmps26 (bE I) ?_
 refine SC.sR (SL.bx (aL zeroValue31) fun b0=>?_)
 refine SL.nT (SC.sR (lW (bS sty27 I I I (szs_mk sB) dC) ?_))
 rintro _ _ _ ⟨b1,rfl,rfl,rfl⟩
 refine SL.freeze fun g1 hle1 hb1=>?_
 refine lW (bS sty22 I I I (szs_mk ⟨I,trivial⟩) dC) ?_
 rintro _ _ _ ⟨b2,rfl,rfl,rfl⟩
 refine SL.freeze fun g2 hle2 hb2=>?_
 have hlit : Lists g2 (.slice (some ⟨b2,0,none⟩) 1 1) [[0,1,2]]:=⟨[svOf (.slice (some ⟨b1,0,none⟩) 3 3)],SlA.lit hb2 rfl rfl,⟨SlA.lit (hle2 _ _ hb1) rfl rfl,trivial⟩⟩
 refine lW (cL call31 I (simplicial_spec E g2 _ _ _ hlit dC dC)) ?_
 rintro _ g3 _ ⟨rfl,hle3,u,rfl,hu⟩
 rw [simp_tri] at hu
 obtain ⟨q,d,rfl⟩:=hu.form
 refine SL.O2 (sK 0 zT31 I I I I I sB) ?_
 refine SL.nT (rE ?_)
 exact ST.retCD 0 s (.inl I) results26 I iT31 zT31 I I (.cons _ (.refl _)) ⟨I,hle1.trans (hle2.trans hle3),_,I,hu⟩
end Go.Proofs.YtkdibcicncjpdaaGreatDoor
