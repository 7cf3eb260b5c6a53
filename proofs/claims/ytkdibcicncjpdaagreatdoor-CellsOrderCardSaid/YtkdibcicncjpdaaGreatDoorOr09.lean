/- Set3 Prr SyQ Mad1 Mad2 Mad3 Mad4 -/
import Derived.Test.YtkdibcicncjpdaaGreatDoorOr08
import Derived.Test.YtkdibcicncjpdaaGreatDoorOr03
import Derived.Test.YtkdibcicncjpdaaGreatDoorOr07
set_option linter.unusedSimpArgs false
set_option linter.unusedVariables false
namespace Go.Proofs.YtkdibcicncjpdaaGreatDoor
open _root_.Go.Proofs.Tryz _root_.Go.Proofs.YtkdibcicncjpdaaGreatDoor.Tryz
open Go Go.Sy Go.Pl Go.Proofs
set_option maxRecDepth 100000
abbrev StrictL (l : List (List Int)) : Prop:=l.Pairwise fun a b=>compareC a b < 0
theorem compareC_asymm {a b : List Int} (h : compareC a b < 0) : ¬ compareC b a < 0:=by have:=compareC_antisymm a b; omega
theorem StrictL.srt {l : List (List Int)} (h : StrictL l) : SrtL l:=h.imp fun h=>compareC_asymm h
theorem strictL_unique : ∀ {l m : List (List Int)},StrictL l → StrictL m → (∀ x,x ∈ l ↔ x ∈ m) → l = m
 | [],[],_,_,_=>rfl
 | [],y :: m,_,_,h=>by have:=(h y).2 (by simp); simp at this
 | x :: l,[],_,_,h=>by have:=(h x).1 (by simp); simp at this
 | x :: l,y :: m,hl,hm,h=>by
  obtain ⟨h1,h2⟩:=List.pairwise_cons.1 hl
  obtain ⟨h3,h4⟩:=List.pairwise_cons.1 hm
  have hxy : x = y:=by
   rcases List.mem_cons.1 ((h x).1 (by simp)) with e | hx
   ·exact e
   ·rcases List.mem_cons.1 ((h y).2 (by simp)) with e | hy
    ·exact e.symm
    ·exact absurd (h1 y hy) (compareC_asymm (h3 x hx))
  subst hxy
  have hself : ¬ compareC x x < 0:=by rw [compareC_self]; decide
  rw [strictL_unique h2 h4 fun z=>?_]
  constructor
  ·intro hz
   rcases List.mem_cons.1 ((h z).1 (by simp [hz])) with e | hz'
   ·subst e; exact absurd (h1 z hz) hself
   ·exact hz'
  ·intro hz
   rcases List.mem_cons.1 ((h z).2 (by simp [hz])) with e | hz'
   ·subst e; exact absurd (h3 z hz) hself
   ·exact hz'
theorem uniqGo_strictL : ∀ {x : List Int} {l : List (List Int)},SrtL (x :: l) → StrictL (uniqGo eqL x l) ∧ (∀ y ∈ uniqGo eqL x l,compareC x y < 0) ∧ ∀ y,y ∈ l → y = x ∨ y ∈ uniqGo eqL x l
 | x,[],_=>⟨List.Pairwise.nil,by simp [uniqGo],by simp⟩
 | x,y :: r,h=>by
  obtain ⟨h1,h2⟩:=List.pairwise_cons.1 h
  obtain ⟨i1,i2,i3⟩:=uniqGo_strictL h2
  have hxy:=h1 y (by simp)
  unfold uniqGo
  by_cases e : y = x
  ·subst e
   simp only [eqL,decide_true,if_true]
   refine ⟨i1,i2,fun z hz=>?_⟩
   rcases List.mem_cons.1 hz with rfl | hz
   ·exact .inl I
   ·exact i3 z hz
  ·have hlt : compareC x y < 0:=by
    rcases compareC_cases x y with h | h | h
    ·exact h
    ·exact absurd h.symm e
    ·exact absurd h hxy
   simp only [eqL,e,decide_false]
   refine ⟨List.pairwise_cons.2 ⟨i2,i1⟩,fun z hz=>?_,fun z hz=>?_⟩
   ·rcases List.mem_cons.1 hz with rfl | hz
    ·exact hlt
    ·exact compareC_trans _ _ _ hlt (i2 z hz)
   ·rcases List.mem_cons.1 hz with rfl | hz
    ·exact .inr (by simp)
    ·rcases i3 z hz with rfl | h
     ·exact .inr (by simp)
     ·refine .inr ?_
      simp
      exact .inr h
theorem addSets_strict (all : List (List Int)) (t : List Int) : StrictL (addSets all t):=by
 have hs:=sortL_srt (all ++ subsetsC t)
 unfold addSets
 cases h : sortL (all ++ subsetsC t) with
 | nil=>exact List.Pairwise.nil
 | cons x r =>
  rw [h] at hs
  obtain ⟨h1,h2,_⟩:=uniqGo_strictL hs
  exact List.pairwise_cons.2 ⟨h2,h1⟩
theorem addSets_iff (all : List (List Int)) (t x : List Int) : x ∈ addSets all t ↔ x ∈ all ∨ x ∈ subsetsC t:=by
 refine ⟨addSets_mem,fun h=>?_⟩
 have hs:=sortL_srt (all ++ subsetsC t)
 have hm : x ∈ sortL (all ++ subsetsC t):=(sortL_perm _).symm.subset (List.mem_append.2 h)
 unfold addSets
 cases hc : sortL (all ++ subsetsC t) with
 | nil=>rw [hc] at hm; simp at hm
 | cons y r =>
  rw [hc] at hs hm
  rcases List.mem_cons.1 hm with rfl | hm
  ·simp [uniq]
  ·rcases (uniqGo_strictL hs).2.2 x hm with rfl | h
   ·simp [uniq]
   ·simp [uniq,h]
theorem lbL_split : ∀ {l : List (List Int)} (t : List Int),SrtL l → (∀ y ∈ l.take (lbL l t),compareC y t < 0) ∧ ∀ y ∈ l.drop (lbL l t),¬ compareC y t < 0
 | [],t,_=>⟨by simp,by simp⟩
 | a :: r,t,hs=>by
  obtain ⟨h1,h2⟩:=List.pairwise_cons.1 hs
  obtain ⟨i1,i2⟩:=lbL_split t h2
  by_cases ha : compareC a t < 0
  ·have hl : lbL (a :: r) t = lbL r t + 1:=by simp [lbL,ha]
   rw [hl,List.take_succ_cons,List.drop_succ_cons]
   refine ⟨fun y hy=>?_,i2⟩
   rcases List.mem_cons.1 hy with rfl | hy
   ·exact ha
   ·exact i1 y hy
  ·have hall : ∀ y ∈ a :: r,¬ compareC y t < 0:=fun y hy=>by
    rcases List.mem_cons.1 hy with rfl | hy
    ·exact ha
    ·exact compareC_ntrans y a t (h1 y hy) ha
   have hz : lbL (a :: r) t = 0:=by
    unfold lbL
    rw [List.length_eq_zero_iff,List.filter_eq_nil_iff]
    intro y hy
    simpa using hall y hy
   rw [hz]
   exact ⟨by simp,by simpa using hall⟩
theorem insL_strict {l : List (List Int)} {t : List Int} (hs : StrictL l) (hn : l.contains t = false) : StrictL (l.take (lbL l t) ++ t :: l.drop (lbL l t)):=by
 obtain ⟨h1,h2⟩:=lbL_split t hs.srt
 have hs' : StrictL (l.take (lbL l t) ++ l.drop (lbL l t)):=by rw [List.take_append_drop]; exact hs
 have h3:=List.pairwise_append.1 hs'
 refine List.pairwise_append.2 ⟨h3.1,List.pairwise_cons.2 ⟨fun y hy=>?_,h3.2.1⟩,fun y hy z hz=>?_⟩
 ·rcases compareC_cases t y with h | h | h
  ·exact h
  ·have : l.contains t = true:=by rw [h]; simpa using List.mem_of_mem_drop hy
   rw [hn] at this; cases this
  ·exact absurd h (h2 y hy)
 ·rcases List.mem_cons.1 hz with rfl | hz
  ·exact h1 y hy
  ·exact h3.2.2 y hy z hz
theorem simp_srt (all : List (List Int)) : Srt Cl.id (simpCells all):=by
 unfold Srt
 rw [List.pairwise_iff_getElem]
 intro i j hi hj hij
 simp [simpCells,simpCell]
 omega
theorem canon_simp (all : List (List Int)) : canonC (simpCells all) = (simpCells all).map normC:=by
 unfold canonC
 rw [← eq_sortBy (simp_srt all) (Stab.refl _)]
theorem tmod_two (k : Nat) : ((k : Nat) : Int).tmod 2 = ((k : Nat) : Int) % 2:=Int.tmod_eq_emod_of_nonneg oM
theorem refSimplicial_spec (E : World) (g : PH) (s : Own) (v : Value) (ls : List (List Int)) (hv : Lists g v ls) (hn : ls.length < 1099511627776) (hl : ∀ x ∈ ls,x.length < 17592186044416) :
  Ctr Tryz.prog E 35 #[v] g s (fun r g' s'=>s = s' ∧ Le g g' ∧ ∃ u,r = .agg #[u] ∧ Cells g' u (simpC ls)):=by
 obtain ⟨rs0,hrs0,hall0⟩:=hv
 have hlen0:=hall0.length
 obtain ⟨p,c,rfl⟩:=SlA.form hrs0
 refine Ctr.of (args:=[.slice p rs0.length c]) func35 I ntmps35 (bE I) ?_
 refine SC.sR (SL.bx (aL zeroValue31) fun b2=>?_)
 refine SL.nT (SC.sR (lA I (SL.nT (sQ (SC.sR (lA I (SL.nT (bK ?_))))))))
 refine oP (ι:=PH × Value × List (List Int) × Nat) (fun i=>[(0,.slice p rs0.length c),(2,pp b2 0),(3,i.2.1),(4,vi i.2.2.2)]) (fun i=>i.1)
  (fun _=>pt b2 (.cells #[.slice none 0 0] 31 (0,0)) :: s)
  (fun i=>Le g i.1 ∧ i.2.2.2 ≤ rs0.length ∧ Lists i.1 i.2.1 i.2.2.1 ∧ (i.2.2.1.length ≤ 4000 ∧ ∀ x ∈ i.2.2.1,x.length ≤ 9) ∧ StrictL i.2.2.1 ∧ simpAll [] ls = simpAll i.2.2.1 (ls.drop i.2.2.2)) (fun i=>rs0.length - i.2.2.2)
  (g,.slice none 0 0,[],0) sB rfl rfl ⟨Le.refl g,Nat.zero_le _,⟨[],Sl.nil g _,trivial⟩,⟨Nat.zero_le _,by simp⟩,List.Pairwise.nil,rfl⟩ ?_
 rintro ⟨g1,av,all,i⟩ ⟨hle,hi,hav,⟨hal,has⟩,hstr,hsa⟩
 dsimp only at hle hi hav hal has hstr hsa ⊢
 refine sQ (SC.sR (lM I (lM I (lU (eN uT22 I) (lU (lS I I) (SL.nT ?_))))))
 refine iP I (fun hlt=>?_) (fun hlt=>?_)
 ·have hkl : i < ls.length:=oM
  have hkr : i < rs0.length:=oM
  have hR:=(hall0.get (gE hkl) (gE hkr)).mono hle
  have hxl:=hl _ (gM hkl)
  have hb1:=hrs0.based oM
  have hdrop : ls.drop i = ls[i] :: ls.drop (i + 1):=List.drop_eq_getElem_cons hkl
  rw [hdrop] at hsa
  generalize hx : ls[i] = x at *
  generalize hr : rs0[i] = r at *
  have hgr : rs0[((i : Nat) : Int).toNat]? = some r:=by rw [← hr]; exact gE hkr
  refine kP (tN (sQ (bK (SC.sR (lM I (lM I (lU (iA uT22 zT27 I I hb1 oM sL) (lK (eB iT27 I (hrs0.mono hle).rd hgr I) (lW (cL call99 I (set_spec E g1 _ _ x hR hxl)) ?_)))))))))
  rintro v31 g2 _ ⟨rfl,hle2,hset⟩
  have hav2:=hav.mono hle2
  rcases hset with ⟨hok,u,rfl,hu⟩ | ⟨hok,rfl⟩
  ·obtain ⟨hs9,hsb⟩:=okS_good hok
   obtain ⟨q,d,rfl⟩:=SlA.form hu
   have hpow:=pow_le (setC x).length hs9
   refine lM I (lU (xT I I) (lU (xT I I) (lA I (lA I (SL.nT ?_)))))
   refine SC.cut (ι:=PH × Value × List (List Int)) (fun j=>[(0,.slice p rs0.length c),(2,pp b2 0),(3,j.2.1),(4,vi i)]) (fun j=>j.1) (fun _=>pt b2 (.cells #[.slice none 0 0] 31 (0,0)) :: s)
    (fun j=>Le g j.1 ∧ Lists j.1 j.2.1 j.2.2 ∧ StrictL j.2.2 ∧ (∀ y,y ∈ j.2.2 ↔ y ∈ all ∨ y ∈ subsetsC (setC x)) ∧ j.2.2.length ≤ 4600) ?_ ?_
   ·refine SC.sR (lA I (SL.nT (bK ?_)))
    refine oP (ι:=PH × Value × List (List Int) × Nat) (fun j=>[(0,.slice p rs0.length c),(2,pp b2 0),(3,j.2.1),(4,vi i),(5,.slice q (setC x).length d),(6,vb true),(7,vi (j.2.2.2 + 1 : Nat))]) (fun j=>j.1) (fun _=>pt b2 (.cells #[.slice none 0 0] 31 (0,0)) :: s)
     (fun j=>Le g2 j.1 ∧ j.2.2.2 + 1 ≤ 2 ^ (setC x).length ∧ Lists j.1 j.2.1 j.2.2.1 ∧ StrictL j.2.2.1 ∧ (∀ y,y ∈ j.2.2.1 ↔ y ∈ all ∨ y ∈ (List.range j.2.2.2).map fun m=>pickB (m + 1) (setC x)) ∧ j.2.2.1.length ≤ 4000 + j.2.2.2) (fun j=>2 ^ (setC x).length - j.2.2.2)
     (g2,av,all,0) sB rfl rfl ⟨Le.refl g2,Nat.one_le_two_pow,hav2,hstr,by simp,lN⟩ ?_
    rintro ⟨g3,bv,al,b⟩ ⟨hle3,hb,hbv,hbs,hbm,hbl⟩
    dsimp only at hle3 hb hbv hbs hbm hbl ⊢
    have hals : ∀ y ∈ al,y.length ≤ 9:=fun y hy=>by
     rcases (hbm y).1 hy with h | h
     ·exact has y h
     ·obtain ⟨m,_,rfl⟩:=List.mem_map.1 h
      exact Nat.le_trans (pickB_length _ _) hs9
    refine sQ (SC.sR (lM I (lM I (lY I I I (mV I) (lY I I I (mV I) (lY I I I (eN uT27 I) (lY I I I (SU.eq (v':=vi ((2 ^ (setC x).length : Nat) : Int)) (SU.shl I I oM) (congrArg vi (shl_one (setC x).length oM))) (lY I I I (lS I I) (lU (pT I I) (SL.nT ?_))))))))))
    refine iP I (fun hlt2=>?_) (fun hlt2=>?_)
    ·have hbl2 : b + 1 < 2 ^ (setC x).length:=oM
     refine kP (tN (sQ (bK (SC.sR (lA I (SL.nT (sQ (sQ (SC.nilRow 3 1 (rG (lA I (SL.nT (bK ?_)))))))))))))
     refine oP (ι:=Value × Nat) (fun k=>[(0,.slice p rs0.length c),(2,pp b2 0),(3,bv),(4,vi i),(5,.slice q (setC x).length d),(6,vb true),(7,vi (b + 1 : Nat)),(8,k.1),(9,vi k.2)]) (fun _=>g3)
      (fun k=>rowA encInt 3 k.1 (pickB (b + 1) ((setC x).take k.2)) :: pt b2 (.cells #[.slice none 0 0] 31 (0,0)) :: s) (fun k=>k.2 ≤ (setC x).length) (fun k=>(setC x).length - k.2) (.slice none 0 0,0)
      sB rfl rfl (Nat.zero_le _) ?_
     rintro ⟨cv,k⟩ hk
     dsimp only at hk ⊢
     have hpl:=pickB_length (b + 1) ((setC x).take k)
     rw [List.length_take] at hpl
     refine sQ (SC.sR (lM I (lM I (lU (eN uT27 I) (lU (lS I I) (SL.nT ?_))))))
     refine iP I (fun hlt3=>?_) (fun hlt3=>?_)
     ·have hkl : k < (setC x).length:=oM
      have hbu:=SlA.based (hu.mono hle3) oM
      have hsucc:=pickB_succ (bits:=b + 1) hkl
      refine kP (tN (sQ (bK (SC.sR (lM I (lM I (lU (SU.shr I I oM) (lU (SU.eq (v':=vi (((b + 1) / 2 ^ k % 2 : Nat) : Int)) (SU.and I I) (congrArg vi ((and_one _).trans (shr_bit (b + 1) k oM)))) (lU (eQ I I) (SL.nT ?_))))))))))
      refine iP I (fun hbit=>?_) (fun hbit=>?_)
      ·refine rG (lM I (lM I (lM I (lU (iA uT27 zT3 I I hbu oM sL) ?_))))
       refine SL.q (eB iT3 I (SlA.rd (hu.mono hle3)) (gE hkl) I) dC ?_
       refine lW (bS sty27 I I I (szs_mk sB) dC) ?_
       rintro _ _ _ ⟨b60,rfl,rfl,rfl⟩
       refine lW (aP (e:=encInt) 0 (setC x)[k] sty27 I I I I I oM oM) ?_
       rintro cv' _ _ ⟨rfl,rfl⟩
       refine lA I (nL (bN (tN (rG (lM I (lU (aD I I oM) (lA I (nL ?_))))))))
       refine ST.to (fun w hw=>?_) (g':=g3) (s':=rowA encInt 3 cv' (pickB (b + 1) ((setC x).take (k + 1))) :: pt b2 (.cells #[.slice none 0 0] 31 (0,0)) :: s) ?_
       ·rw [hsucc,if_pos oM]; exact hw
       exact gA (cv',k + 1) sB I I lN lN
      ·refine kP (bN (tN (rG (lM I (lU (aD I I oM) (lA I (nL ?_)))))))
       refine ST.to (fun w hw=>?_) (g':=g3) (s':=rowA encInt 3 cv (pickB (b + 1) ((setC x).take (k + 1))) :: pt b2 (.cells #[.slice none 0 0] 31 (0,0)) :: s) ?_
       ·rw [hsucc,if_neg oM]; exact hw
       exact gA (cv,k + 1) sB I I lN lN
     ·have hkk : (setC x).take k = setC x:=tL oM
      have htl:=pickB_length (b + 1) (setC x)
      have hmem2 : ∀ nw : List (List Int),(∀ y,y ∈ nw ↔ y = pickB (b + 1) (setC x) ∨ y ∈ al) → ∀ y,y ∈ nw ↔ y ∈ all ∨ y ∈ (List.range (b + 1)).map fun m=>pickB (m + 1) (setC x):=fun nw h y=>by
       rw [h,hbm,List.range_succ,List.map_append,List.mem_append]
       simp
       constructor
       ·rintro (h | h | h)
        ·exact .inr (.inr h)
        ·exact .inl h
        ·exact .inr (.inl h)
       ·rintro (h | h | h)
        ·exact .inr (.inl h)
        ·exact .inr (.inr h)
        ·exact .inl h
      generalize hpk : pickB (b + 1) (setC x) = t at *
      refine xI (tX (tX (bX (tN (sQ (fS fun g4 hle4 hs4=>?_))))))
      rw [hkk,hpk] at hs4
      have ht : Ints g4 cv t:=hs4
      have hbv4:=hbv.mono hle4
      refine rG (lM I (lM I (lW (cL call100 I (place_spec E g4 _ _ _ al t hbv4 ht oM (fun y hy=>by have:=hals y hy; omega) oM hbs.srt)) ?_)))
      rintro _ _ _ ⟨rfl,rfl,rfl⟩
      refine lM I (lU (xT I I) (lU (xT I I) (lA I (lA I (SL.nT (SC.sR (lM I (lU (SU.not I) (SL.nT ?_)))))))))
      refine iQ I (fun hthere=>?_) (fun hthere=>?_)
      ·have hth : al.contains t = false:=by simpa using hthere
       have hlb:=lbL_le al t
       obtain ⟨ra,hra,halr⟩:=hbv4
       have hral:=halr.length
       obtain ⟨qa,da,rfl⟩:=SlA.form hra
       have hcapa:=(SlA.cap hra).2
       obtain ⟨qt,dt,rfl⟩:=SlA.form ht
       have hca:=SlA.cut hra (l:=lbL al t) (m:=ra.length) oM (lR _)
       have hcb:=SlA.cut hra (l:=0) (m:=lbL al t) (Nat.zero_le _) oM
       rw [tL (by rw [List.length_drop]; exact lR _)] at hca
       rw [List.drop_zero,Nat.sub_zero] at hcb
       refine SC.sR (lM I (lW (bS sty22 I I I (szs_mk ⟨I,trivial⟩) dC) ?_))
       rintro _ _ _ ⟨b71,rfl,rfl,rfl⟩
       refine SL.to (fun w hw=>At.litRow (e:=encSv) (l:=[⟨qt,t.length,dt⟩]) (n:=0) hw I I dC) ?_
       refine lM rfl (lM rfl (lU (SU.sliceL uT22 zT27 rfl rfl oM oM) (lW (aQ (e:=encSv) 0 sty22 rfl rfl rfl hca (by rw [List.length_drop]; (first | with_reducible rfl | ((try dsimp only); (try simp only [List.length_append,List.length_cons,List.length_nil,List.length_singleton,List.length_take,List.length_drop]) <;> omega))) (by rw [List.length_drop]; (first | with_reducible rfl | ((try dsimp only); (try simp only [List.length_append,List.length_cons,List.length_nil,List.length_singleton,List.length_take,List.length_drop]) <;> omega)))) ?_)))
       rintro v75 _ _ ⟨rfl,rfl⟩
       refine lA I (SL.nT (fS fun g5 hle5 hs5=>?_))
       have hrest : SlA encSv g5 v75 ([⟨qt,t.length,dt⟩] ++ ra.drop (lbL al t)):=hs5
       refine rG (lW (bS sty22 I I I (szs_mk trivial) dC) ?_)
       rintro _ _ _ ⟨b76,rfl,rfl,rfl⟩
       refine SL.emptyRow 27 1 (some ⟨b76,0,none⟩) (lM rfl (lM rfl (lU (SU.sliceH uT22 zT27 rfl rfl oM oM) (lW (aQ (e:=encSv) (l:=[]) 0 sty22 rfl rfl rfl (hcb.mono hle5) (by rw [List.length_take]; (first | with_reducible rfl | ((try dsimp only); (try simp only [List.length_append,List.length_cons,List.length_nil,List.length_singleton,List.length_take,List.length_drop]) <;> omega))) (by rw [List.length_take]; (first | with_reducible rfl | ((try dsimp only); (try simp only [List.length_append,List.length_cons,List.length_nil,List.length_singleton,List.length_take,List.length_drop]) <;> omega)))) ?_))))
       rintro v80 _ _ ⟨rfl,rfl⟩
       refine lM I (lW (aQ (e:=encSv) 0 sty22 I I I hrest lN lN) ?_)
       rintro v82 _ _ ⟨rfl,rfl⟩
       refine lA I (nL (bN (tN (rG (lM I (lU (aD I I oM) (lA I (nL (fT fun g6 hle6 hs6=>?_)))))))))
       refine dR (s':=pt b2 (.cells #[.slice none 0 0] 31 (0,0)) :: s) (.cons _ (.refl _)) ?_
       have hres : Lists g6 v82 (al.take (lbL al t) ++ t :: al.drop (lbL al t)):=by
        refine ⟨ra.take (lbL al t) ++ ⟨qt,t.length,dt⟩ :: ra.drop (lbL al t),?_,?_⟩
        ·have h : SlA encSv g6 v82 ([] ++ ra.take (lbL al t) ++ ([⟨qt,t.length,dt⟩] ++ ra.drop (lbL al t))):=hs6
         simpa using h
        ·exact ((All2.take _ halr).mono fun _ _=>ListR.mono (hle5.trans hle6)).append ⟨ht.mono (hle5.trans hle6),(All2.drop _ halr).mono fun _ _=>ListR.mono (hle5.trans hle6)⟩
       exact gA (g6,v82,al.take (lbL al t) ++ t :: al.drop (lbL al t),b + 1) ⟨I,I,I,I,I,I,vi_eq (by simp),trivial⟩ I I ⟨hle3.trans (hle4.trans (hle5.trans hle6)),hbl2,hres,insL_strict hbs hth,hmem2 _ (fun y=>mem_ins),lN⟩ lN
      ·have hth : t ∈ al:=by simpa using hthere
       refine kP (bN (tN (rG (lM I (lU (aD I I oM) (lA I (nL ?_)))))))
       exact gA (g4,bv,al,b + 1) ⟨I,I,I,I,I,I,vi_eq (by simp),trivial⟩ I I ⟨hle3.trans hle4,hbl2,hbv4,hbs,hmem2 _ (fun y=>⟨.inr,fun h=>h.elim (fun e=>by rw [e]; exact hth) id⟩),lN⟩ lN
    ·have hbb : b = 2 ^ (setC x).length - 1:=oM
     refine xI (tX (tX (bX ?_)))
     exact ST.mid (g3,bv,al) sB I I ⟨hle.trans (hle2.trans hle3),hbv,hbs,fun y=>by dsimp only; rw [hbm]; unfold subsetsC; rw [hbb],lN⟩
   ·rintro ⟨g3,bv,al⟩ ⟨hle3,hbv,hbs,hbm,hbl⟩
    dsimp only at hle3 hbv hbs hbm hbl ⊢
    have hals : ∀ y ∈ al,y.length ≤ 9:=fun y hy=>by
     rcases (hbm y).1 hy with h | h
     ·exact has y h
     ·exact subsetsC_short hs9 y h
    have key : ((al.length : Int) > 4000 → simpAll [] ls = none) ∧ (¬ (al.length : Int) > 4000 → simpAll [] ls = simpAll al (ls.drop (i + 1))):=by
     by_cases hb : badSet (setC x) = true
     ·have he:=hsb hb
      have hal2 : al = all:=strictL_unique hbs hstr fun y=>by rw [hbm,he]; simp [subsetsC]
      refine ⟨fun h=>by rw [hal2] at h; omega,fun _=>by rw [hsa,simpAll,if_pos hb,hal2]⟩
     ·have hal2 : al = addSets all (setC x):=strictL_unique hbs (addSets_strict _ _) fun y=>by rw [hbm,addSets_iff]
      refine ⟨fun h=>by rw [hsa,simpAll,if_neg hb,if_pos (by rw [← hal2]; exact h)],fun h=>by rw [hsa,simpAll,if_neg hb,if_neg (by rw [← hal2]; exact h),← hal2]⟩
    obtain ⟨ra,hra,halr⟩:=hbv
    have hbv : Lists g3 bv al:=⟨ra,hra,halr⟩
    have hral:=halr.length
    obtain ⟨qa,da,rfl⟩:=SlA.form hra
    refine SC.sR (lM I (lU (eN uT22 I) (lU (gR I I) (SL.nT ?_))))
    refine iP I (fun hmany=>?_) (fun hmany=>?_)
    ·refine SC.sR (lU (SU.build I (buildE31)) (SL.O2 (sK 0 zT31 I I I I I sB) ?_))
     refine SL.nT (rE (bR (tR (tR (bR (tR ?_))))))
     exact ST.retCD 0 s (.inl I) results35 I iT31 zT31 I I (.cons _ (.refl _)) ⟨I,hle3,_,I,by simp only [simpC,key.1 oM]; exact ⟨[],Sl.nil _ _,trivial⟩⟩
    ·refine kP (bN (tN (rG (lM I (lU (aD I I oM) (lA I (nL ?_)))))))
     exact gA (g3,_,al,i + 1) sB I I ⟨hle3,lN,hbv,⟨lN,hals⟩,hbs,key.2 oM⟩ lN
  ·have hb:=okS_bad hok
   obtain ⟨ra,hra,halr⟩:=hav2
   have hav2 : Lists g2 av all:=⟨ra,hra,halr⟩
   have hral:=halr.length
   obtain ⟨qa,da,rfl⟩:=SlA.form hra
   refine lM I (lU (xT I I) (lU (xT I I) (lA I (lA I (SL.nT (sQ (SC.sR (lA I (SL.nT (bK ?_))))))))))
   refine oP (ι:=Unit) (fun _=>[(0,.slice p rs0.length c),(2,pp b2 0),(3,.slice qa ra.length da),(4,vi i),(5,.slice none 0 0),(6,vb false),(7,vi 1)]) (fun _=>g2) (fun _=>pt b2 (.cells #[.slice none 0 0] 31 (0,0)) :: s) (fun _=>True) (fun _=>0) () sB I I trivial ?_
   rintro ⟨⟩ -
   refine sQ (SC.sR (lM I (lM I (lZ I I I (lZ I I I (lZ I I I (lZ I I I (lZ I I I (lU (pF I I) (SL.nT (cF I (xI (tX (tX (bX (tN (SC.sR (lM I (lU (eN uT22 I) (lU (gR I I) (SL.nT ?_)))))))))))))))))))))
   refine iP I (fun hmany=>?_) (fun hmany=>?_)
   ·exfalso
    omega
   ·refine kP (bN (tN (rG (lM I (lU (aD I I oM) (lA I (nL ?_)))))))
    exact gA (g2,_,all,i + 1) sB I I ⟨hle.trans hle2,lN,hav2,⟨hal,has⟩,hstr,by dsimp only; rw [hsa,simpAll,if_pos hb]⟩ lN
 ·have hk0 : i = rs0.length:=oM
  have hsome : simpAll [] ls = some all:=by rw [hsa,hk0,← hlen0,List.drop_length]; rfl
  obtain ⟨rs,hrs,hall⟩:=hav
  have hav : Lists g1 av all:=⟨rs,hrs,hall⟩
  have hrl:=hall.length
  obtain ⟨q,d,rfl⟩:=SlA.form hrs
  refine xI (tX (tX (bX (tN (SC.sR (SL.bx (aL zeroValue31) fun b13=>?_))))))
  refine SL.nT (sQ (SC.sR (lA I (SL.nT (bK (SC.nilRow 40 3 ?_))))))
  refine oP (ι:=PH × Value × List Rc × Nat) (fun i=>[(2,pp b2 0),(3,.slice q rs.length d),(13,pp b13 0),(14,vi i.2.2.2)]) (fun i=>i.1)
   (fun i=>rowA encCell 40 i.2.1 i.2.2.1 :: pt b13 (.cells #[i.2.1] 31 (0,0)) :: pt b2 (.cells #[.slice none 0 0] 31 (0,0)) :: s)
   (fun i=>Le g1 i.1 ∧ i.2.2.2 ≤ rs.length ∧ All2 (CellR i.1) (((simpCells all).take i.2.2.2).map normC) i.2.2.1) (fun i=>rs.length - i.2.2.2)
   (g1,.slice none 0 0,[],0) sB rfl rfl ⟨Le.refl g1,Nat.zero_le _,trivial⟩ ?_
  rintro ⟨g3,ov,rcs,n⟩ ⟨hle3,hn3,hrcs⟩
  dsimp only at hle3 hn3 hrcs ⊢
  have hrcl:=hrcs.length
  rw [List.length_map,List.length_take,simpCells_length] at hrcl
  refine sQ (SC.sR (lM I (lM I (lU (eN uT22 I) (lU (lS I I) (SL.nT ?_))))))
  refine iP I (fun hlt2=>?_) (fun hlt2=>?_)
  ·have hnl : n < all.length:=oM
   have hnr : n < rs.length:=oM
   have hb1:=hrs.based oM
   have hR:=(hall.get (gE hnl) (gE hnr)).mono hle3
   have hRl:=hR.len
   have hx9:=has _ (gM hnl)
   have hget:=simpCells_get hnl
   generalize hx : all[n] = x at *
   generalize hr : rs[n] = r at *
   obtain ⟨rp,rn,rc⟩:=r
   dsimp only at hRl
   subst hRl
   have hxs : Ints g3 (.slice rp x.length rc) x:=hR
   have hgr : rs[((n : Nat) : Int).toNat]? = some ⟨rp,x.length,rc⟩:=by rw [← hr]; exact gE hnr
   refine kP (tN (sQ (bK (SC.sR (lM I (lU (aD I I oM) (lM I (lM I (lU (iA uT22 zT27 I I hb1 oM sL) (lK (eB (u:=.slice rp x.length rc) iT27 I (hrs.mono hle3).rd hgr I) (lU (eN uT27 I) (lU (sU I I oM) (lU (SU.build I (buildC40 _ _)) (SL.bx (aL zeroValue40) fun b15=>?_))))))))))))))
   refine SL.O2 (sK 0 zT40 I I I I I sB) ?_
   refine SL.nT ?_
   refine SC.cut (ι:=PH × Value) (fun i=>[(2,pp b2 0),(3,.slice q rs.length d),(13,pp b13 0),(14,vi n),(15,pp b15 0)]) (fun i=>i.1)
    (fun i=>rowA encSide 42 i.2 (simpSides all x x.length) :: pt b15 (.cells #[vi ((n : Int) + 1),vi ((x.length : Int) - 1),i.2] 40 (0,0)) :: rowA encCell 40 ov rcs :: pt b13 (.cells #[ov] 31 (0,0)) :: pt b2 (.cells #[.slice none 0 0] 31 (0,0)) :: s)
    (fun i=>Le g3 i.1) ?_ ?_
   ·refine sQ (SC.nilRow 42 2 (rG (lA I (SL.nT (bK ?_)))))
    refine oP (ι:=PH × Value × Nat) (fun i=>[(2,pp b2 0),(3,.slice q rs.length d),(13,pp b13 0),(14,vi n),(15,pp b15 0),(16,vi i.2.2)]) (fun i=>i.1)
     (fun i=>rowA encSide 42 i.2.1 (simpSides all x i.2.2) :: pt b15 (.cells #[vi ((n : Int) + 1),vi ((x.length : Int) - 1),i.2.1] 40 (0,0)) :: rowA encCell 40 ov rcs :: pt b13 (.cells #[ov] 31 (0,0)) :: pt b2 (.cells #[.slice none 0 0] 31 (0,0)) :: s)
     (fun i=>Le g3 i.1 ∧ i.2.2 ≤ x.length) (fun i=>x.length - i.2.2)
     (g3,.slice none 0 0,0) sB rfl rfl ⟨Le.refl g3,Nat.zero_le _⟩ ?_
    rintro ⟨g4,sv,j⟩ ⟨hle4,hj⟩
    dsimp only at hle4 hj ⊢
    have hssl:=simpSides_length all x j
    have hsucc:=simpSides_succ all x j
    have hxs4 : Ints g4 (.slice rp x.length rc) x:=hxs.mono hle4
    by_cases hjl : j < x.length
    ·have hjd : ((j : Nat) : Int) < ((x.length : Nat) : Int):=oM
     by_cases hdim : ((x.length : Int) - 1) > 0
     ·have hel : (x.eraseIdx j).length = x.length - 1:=by rw [List.length_eraseIdx]; simp [hjl]
      have hside : sideAt all x j = [⟨lbL all (x.eraseIdx j) + 1,signC j⟩]:=by unfold sideAt; rw [if_pos oM]
      have hlb:=lbL_le all (x.eraseIdx j)
      rw [hside] at hsucc
      have hcap:=(SlA.cap hxs4).2
      have hc1:=SlA.cut hxs4 (l:=0) (m:=j) oM oM
      have hc2:=SlA.cut hxs4 (l:=j + 1) (m:=x.length) oM oM
      have he1 : (x.drop 0).take (j - 0) = x.take j:=by simp
      have he2 : (x.drop (j + 1)).take (x.length - (j + 1)) = x.drop (j + 1):=tL (by rw [List.length_drop]; omega)
      rw [he1] at hc1
      rw [he2] at hc2
      have her : [] ++ x.take j ++ x.drop (j + 1) = x.eraseIdx j:=by rw [List.eraseIdx_eq_take_drop_succ]; simp
      have hcl1 : ([] ++ x.take j).length = j:=by simp; omega
      refine sQ (SC.sR (lM I (lM I (lM I (lU (iA uT22 zT27 I I hb1 oM sL) (lK (eB (u:=.slice rp x.length rc) iT27 I (hrs.mono (hle3.trans hle4)).rd hgr I) (lU (eN uT27 I) (lU (SU.eq (v':=vb true) (lS I I) (congrArg vb (decide_eq_true hjd))) (lM I (lY I I I (fA uT40 I zT3 I) (SL.gq (gT I I I dC) (qL (v:=vi ((x.length : Int) - 1)) iT3 I (cO 1 I I)) dC (lY I I I (SU.eq (v':=vb true) (gR I I) (congrArg vb (decide_eq_true hdim))) (lU (pT I I) (SL.nT (cT I (kP (tN (sQ (bK (sQ ?_))))))))))))))))))))
      refine dW [15] [(1,2),(2,2),(3,2),(4,1),(5,2),(6,2),(8,2),(9,2),(10,2),(11,1),(12,2),(13,2),(14,2),(0,0),(7,0),(15,0),(16,2)] Tryz.mixed (by kernel_rfl) ?_
      refine pU I (mV I) (pU I (mV I) (pU I (iA uT22 zT27 I I hb1 oM sL) (pK I (eB (u:=.slice rp x.length rc) iT27 I (hrs.mono (hle3.trans hle4)).rd hgr I) (pU I (mV I) (pU I (SU.sliceH uT27 zT3 I I oM oM) (pU I (mV I) (pU I (mV I) (pU I (iA uT22 zT27 I I hb1 oM sL) (pK I (eB (u:=.slice rp x.length rc) iT27 I (hrs.mono (hle3.trans hle4)).rd hgr I) (pU I (mV I) (pU I (aD I I oM) (pU I (SU.eq (v':=sliced rp (j + 1) x.length rc 1) (SU.sliceL uT27 zT3 I I oM oM) (by rw [show ((j : Int) + 1).toNat = j + 1 by omega])) ?_))))))))))))
      refine SP.o rfl (bS sty27 rfl rfl rfl (szs_mk trivial) dC) dC (.inr (by rintro _ _ _ ⟨b116,rfl,rfl,rfl⟩; exact ⟨by exact Le.refl _,(by exact .cons _ (.refl _))⟩)) ?_
      rintro _ _ _ ⟨b116,rfl,rfl,rfl⟩
      refine SP.to (fun w hw=>hw.emptyRow 3 1 (some ⟨b116,0,none⟩)) ?_
      refine SP.o rfl (aQ (e:=encInt) (l:=[]) 0 sty27 rfl rfl rfl hc1 (by rw [List.length_take]; (first | with_reducible rfl | ((try dsimp only); (try simp only [List.length_append,List.length_cons,List.length_nil,List.length_singleton,List.length_take,List.length_drop]) <;> omega))) (by rw [List.length_take]; (first | with_reducible rfl | ((try dsimp only); (try simp only [List.length_append,List.length_cons,List.length_nil,List.length_singleton,List.length_take,List.length_drop]) <;> omega)))) dC (.inr (by rintro v123 _ _ ⟨rfl,rfl⟩; exact ⟨by exact Le.refl _,(by exact .cons _ (.cons _ (.refl _)))⟩)) ?_
      rintro v123 _ _ ⟨rfl,rfl⟩
      refine SP.o I (aQ (e:=encInt) 0 sty27 I I I hc2 (by rw [List.length_drop,hcl1]; omega) (by rw [List.length_drop,hcl1]; omega)) dC (.inl dC) ?_
      rintro v131 _ _ ⟨rfl,rfl⟩
      refine pU I (aS I) (pN (tN (sQ (fS fun g6 hle6 hs6=>?_))))
      have hrest : Ints g6 v131 (x.eraseIdx j):=(by rw [← her]; exact hs6)
      refine SC.drop (s':=rowA encSide 42 sv (simpSides all x j) :: pt b15 (.cells #[vi ((n : Int) + 1),vi ((x.length : Int) - 1),sv] 40 (0,0)) :: rowA encCell 40 ov rcs :: pt b13 (.cells #[ov] 31 (0,0)) :: pt b2 (.cells #[.slice none 0 0] 31 (0,0)) :: s) (.cons _ (.refl _)) (rG (lM I (lM I (lW (cL call100 I (place_spec E g6 _ _ _ all (x.eraseIdx j) (hav.mono (hle3.trans (hle4.trans hle6))) hrest oM (fun y hy=>by have:=has y hy; omega) oM hstr.srt)) ?_))))
      rintro _ _ _ ⟨rfl,rfl,rfl⟩
      refine lM I (lU (xT I I) (lU (xT I I) (lA I (lA I (SL.nT (rG (lU (fA uT40 I zT38 I) (lK (qL (v:=sv) iT38 I (cO 1 I I)) (lM I (lU (aD I I oM) (lM I (lU (SU.eq (v':=vi ((j : Int) % 2)) (SU.rem I I dC) (congrArg vi (tmod_two j))) (lU (SU.mul I I oM) (lU (SU.eq (v':=vi (signC j)) (sU I I oM) I) (lU (SU.build I (buildS42 _ _)) (lW (bS sty38 I I I (szs_mk sB) dC) ?_))))))))))))))))
      rintro _ _ _ ⟨b147,rfl,rfl,rfl⟩
      refine lW (aP (e:=encSide) 0 ⟨lbL all (x.eraseIdx j) + 1,signC j⟩ sty38 I I I I I oM oM) ?_
      rintro v148 _ _ ⟨rfl,rfl⟩
      rw [← hsucc]
      refine SL.facts fun ⟨w0,hw0⟩=>?_
      obtain ⟨q148,d148,rfl⟩:=rowA_form (i:=0) hw0 rfl
      clear hw0 w0
      refine lU (fA uT40 rfl zT38 rfl) (SL.O2 (SO.store1 1 zT38 rfl rfl rfl rfl (bE rfl) (by rfl)) ?_)
      refine nL (bN (tN (rG (lM I (lU (aD I I oM) (lA I (nL ?_)))))))
      exact gA (g6,_,j + 1) sB I I ⟨hle4.trans hle6,lN⟩ lN
     ·have hx1 : x.length = 1:=oM
      have hj0 : j = 0:=oM
      have hempty : simpSides all x x.length = simpSides all x j:=by
       rw [hx1,hj0]
       have h0:=simpSides_succ all x 0
       have hs0 : sideAt all x 0 = []:=by
        unfold sideAt
        rw [if_neg]
        rw [List.length_eraseIdx]
        simp [hx1]
       rw [h0,hs0,List.append_nil]
      rw [← hempty]
      refine sQ (SC.sR (lM I (lM I (lM I (lU (iA uT22 zT27 I I hb1 oM sL) (lK (eB (u:=.slice rp x.length rc) iT27 I (hrs.mono (hle3.trans hle4)).rd hgr I) (lU (eN uT27 I) (lU (SU.eq (v':=vb true) (lS I I) (congrArg vb (decide_eq_true hjd))) (lM I (lY I I I (fA uT40 I zT3 I) (SL.gq (gT I I I dC) (qL (v:=vi ((x.length : Int) - 1)) iT3 I (cO 1 I I)) dC (lY I I I (SU.eq (v':=vb false) (gR I I) (congrArg vb (decide_eq_false hdim))) (lU (pT I I) (SL.nT (cF I (xI (tX (tX (bX ?_)))))))))))))))))))
      exact ST.mid (g4,sv) sB I I hle4
    ·have hjd : ¬ ((j : Nat) : Int) < ((x.length : Nat) : Int):=oM
     have hjj : j = x.length:=oM
     subst hjj
     refine sQ (SC.sR (lM I (lM I (lM I (lU (iA uT22 zT27 I I hb1 oM sL) (lK (eB (u:=.slice rp x.length rc) iT27 I (hrs.mono (hle3.trans hle4)).rd hgr I) (lU (eN uT27 I) (lU (SU.eq (v':=vb false) (lS I I) (congrArg vb (decide_eq_false hjd))) (lM I (lZ I I I (lZ I I I (lZ I I I (lU (pF I I) (SL.nT (cF I (xI (tX (tX (bX ?_)))))))))))))))))))
     exact ST.mid (g4,sv) sB I I hle4
   ·rintro ⟨g4,sv⟩ hle4
    dsimp only at hle4 ⊢
    have hssl:=simpSides_length all x x.length
    refine SC.sR (fR fun g5 hle5 hs5=>?_)
    have hsd : SlA encSide g5 sv (simpSides all x x.length):=hs5
    refine lU (fA uT40 I zT38 I) (lK (qL (v:=sv) iT38 I (cO 0 I I)) (lW (cL call101 I (sides_spec E g5 _ _ (simpSides all x x.length) hsd oM)) ?_))
    rintro v152 g6 _ ⟨rfl,hle6,hs6⟩
    obtain ⟨q6,d6,rfl⟩:=SlA.form hs6
    obtain ⟨nc,hnc⟩ : ∃ nc : Rc,nc = ⟨(n : Int) + 1,(x.length : Int) - 1,⟨q6,(sortBy Side.cell (simpSides all x x.length)).length,d6⟩⟩:=⟨_,rfl⟩
    refine lU (fA uT40 rfl zT38 rfl) (SL.O2 (SO.store1 0 zT38 rfl rfl rfl rfl (bE rfl) (by rfl)) ?_)
    refine SL.nT (rG (lU (fA uT31 I zT29 I) (lK (qL iT29 I (cO 2 I I)) (lK (qV 0 iT40 zT40 I I I) (lW (bS sty29 I I I (szs_mk sB) dC) ?_)))))
    rintro _ _ _ ⟨b157,rfl,rfl,rfl⟩
    refine lW (aP (e:=encCell) 1 nc sty29 rfl rfl rfl rfl (by rw [hnc]; rfl) oM oM) ?_
    rintro v158 _ _ ⟨rfl,rfl⟩
    refine SL.facts fun ⟨w0,hw0⟩=>?_
    obtain ⟨q158,d158,rfl⟩:=rowA_form (i:=1) hw0 rfl
    clear hw0 w0
    refine lU (fA uT31 I zT29 I) (SL.O2 (sK 2 zT29 I I I I I sB) ?_)
    refine nL (bN (tN (rG (lM I (lU (aD I I oM) (lA I (nL (dR (s':=rowA encCell 40 (.slice q158 (rcs ++ [nc]).length d158) (rcs ++ [nc]) :: pt b13 (.cells #[.slice q158 (rcs ++ [nc]).length d158] 31 (0,0)) :: pt b2 (.cells #[.slice none 0 0] 31 (0,0)) :: s) (.cons _ (.refl _)) ?_))))))))
    refine gA (g6,_,rcs ++ [nc],n + 1) sB I I ⟨hle3.trans (hle4.trans (hle5.trans hle6)),lN,?_⟩ lN
    dsimp only
    rw [take_succ_of hget,List.map_append]
    exact (hrcs.mono fun _ _=>CellR.mono (hle4.trans (hle5.trans hle6))).append ⟨(by rw [hnc]; exact ⟨I,I,hs6⟩),trivial⟩
  ·have hnn : n = rs.length:=oM
   have htk : (simpCells all).take n = simpCells all:=tL (by rw [simpCells_length]; omega)
   rw [htk] at hrcs
   refine xI (tX (tX (bX (tN (sQ (fS fun g4 hle4 hs4=>?_))))))
   have hov : Cells g4 ov (simpC ls):=(by simp only [simpC,hsome,canon_simp]; exact ⟨rcs,hs4,hrcs.mono fun _ _=>CellR.mono hle4⟩)
   obtain ⟨q9,d9,rfl⟩:=hov.form
   refine rG (lK (qV 0 iT31 zT31 I I I) (SL.O2 (sK 1 zT31 I I I I I sB) ?_))
   refine SL.nT (rE ?_)
   exact ST.retCD 1 s (.inl I) results35 I iT31 zT31 I I (.cons _ (.cons _ (.refl _))) ⟨I,hle.trans (hle3.trans hle4),_,I,hov⟩
set_option maxHeartbeats 2000000
theorem refRight_facts {l : List Cl} (h : (refCheckC l).2 = 0) : l.length ≤ 4000 ∧ (canonC l).Pairwise (fun a b=>a.id < b.id) ∧ tabC l = canonC l ∧ ∀ x ∈ canonC l,formC (tabC l) x = 0:=by
 unfold refCheckC at h
 split at h
 ·exact absurd h dC
 ·rename_i hl
  cases hc : chk1 (tabC l) (canonC l) 0 with
  | some p=>rw [hc] at h; exact absurd h (chk1_ne hc)
  | none =>
   have hst:=(chk1_strict hc).2
   exact ⟨oM,hst,tabC_strict hst,chk1_none hc⟩
theorem lbI_self : ∀ {l : List Int} {k : Nat} (h : k < l.length),l.Pairwise (· < ·) → lbI l l[k] = k:=by
 intro l
 induction l with
 | nil=>intro k h; simp at h
 | cons a r ih =>
  intro k h hs
  obtain ⟨h1,h2⟩:=List.pairwise_cons.1 hs
  cases k with
  | zero =>
   unfold lbI
   rw [List.length_eq_zero_iff,List.filter_eq_nil_iff]
   intro y hy
   rcases List.mem_cons.1 hy with rfl | hy
   ·simp
   ·have:=h1 y hy; simp; omega
  | succ k =>
   have hk : k < r.length:=by simpa using h
   have hlt:=h1 r[k] (gM hk)
   have:=ih hk h2
   unfold lbI at this ⊢
   simp [hlt,this]
theorem at_found {tl : List Cl} (hs : (tl.map Cl.id).Pairwise (· ≤ ·)) {id : Int} (h : (findT tl id).isSome = true) : atC tl id = lbI (tl.map Cl.id) id:=by
 obtain ⟨c,hc⟩:=Option.isSome_iff_exists.1 h
 have hm : (tl.map Cl.id).contains id = true:=by
  obtain ⟨h1,h2⟩:=findT_mem hc
  simp
  exact ⟨c,h1,h2⟩
 unfold atC
 rw [if_pos hm]
def refProdBad (a b : List Cl) : Bool:=!decide ((refCheckC a).2 = 0) || !decide ((refCheckC b).2 = 0) || decide (((tabC a).length : Int) * (tabC b).length > 4000)
def refProdC (a b : List Cl) : List Cl:=if refProdBad a b then [] else if (refCheckC (prodAll a b)).2 = 0 then canonC (prodAll a b) else []
theorem flatMap_take_succ {α β : Type} {l : List α} {i : Nat} (h : i < l.length) (f : α → List β) : (l.take (i + 1)).flatMap f = (l.take i).flatMap f ++ f l[i]:=by
 rw [tS h,List.flatMap_append]
 simp
theorem refProduct_spec (E : World) (g : PH) (s : Own) (v u : Value) (a b : List Cl) (hv : Cells g v a) (hu : Cells g u b) (ha : Fits a) (hb : Fits b) :
  Ctr Tryz.prog E 38 #[.agg #[v],.agg #[u]] g s (fun r g' s'=>s = s' ∧ Le g g' ∧ ∃ x,r = .agg #[x] ∧ Cells g' x (refProdC a b)):=by
 obtain ⟨vp0,vc0,hvf⟩:=hv.form
 obtain ⟨up0,uc0,huf⟩:=hu.form
 have hbadA : ¬ (refCheckC a).2 = 0 → refProdBad a b = true:=fun h=>by simp [refProdBad,h]
 have hbadB : (refCheckC a).2 = 0 → ¬ (refCheckC b).2 = 0 → refProdBad a b = true:=fun h h2=>by simp [refProdBad,h2]
 have hbadC : (refCheckC a).2 = 0 → (refCheckC b).2 = 0 → refProdBad a b = decide (((tabC a).length : Int) * (tabC b).length > 4000):=fun h h2=>by simp [refProdBad,h,h2]
 have hta:=tabC_length a
 have htb:=tabC_length b
 have hmul : (refCheckC a).2 = 0 → (refCheckC b).2 = 0 → ((tabC a).length : Int) * (tabC b).length ≤ 16000000 ∧ 0 ≤ ((tabC a).length : Int) * (tabC b).length:=fun h h2=>mul_le_4000 (Nat.le_trans hta (refRight_facts h).1) (Nat.le_trans htb (refRight_facts h2).1)
 refine Ctr.of (args:=[.agg #[v],.agg #[u]]) func38 I ntmps38 (bE I) ?_
 refine SC.sR (SL.bx (bO I) fun b2=>?_)
 refine SL.bx (bO I) fun b3=>?_
 refine SL.bx (aL zeroValue31) fun b4=>?_
 refine SL.nT (SC.sR (lK (qV 2 iT31 zT31 I I I) (lW (cL call11 I (refRight_spec E g _ _ a hv ha)) ?_)))
 rintro _ g1 _ ⟨rfl,rfl,hle1⟩
 refine lA I (SL.nT (SC.sR (lK (qV 1 iT31 zT31 I I I) (lW (cL call11 I (refRight_spec E g1 _ _ b (hu.mono hle1) hb)) ?_))))
 rintro _ g2 _ ⟨rfl,rfl,hle2⟩
 refine lA I (SL.nT (SC.sR (lK (qV 2 iT31 zT31 I I I) (lW (cL call102 I (refCells_spec E g2 _ _ a (hv.mono (hle1.trans hle2)) ha)) ?_))))
 rintro v24 g3 _ ⟨rfl,hle3,hA⟩
 refine lA I (SL.nT (SC.sR (lK (qV 1 iT31 zT31 I I I) (lW (cL call102 I (refCells_spec E g3 _ _ b (hu.mono (hle1.trans (hle2.trans hle3))) hb)) ?_))))
 rintro v26 g4 _ ⟨rfl,hle4,hB⟩
 obtain ⟨ra,hra0,halla0⟩:=hA
 have hra:=hra0.mono hle4
 have halla:=halla0.mono fun _ _=>CellR.mono hle4
 obtain ⟨rb,hrb,hallb⟩:=hB
 have eal:=halla.length
 have ebl:=hallb.length
 obtain ⟨pa,ca,rfl⟩:=hra.form
 obtain ⟨pb,cb,rfl⟩:=hrb.form
 refine lA I (SL.nT (sQ ?_))
 refine SC.cutB 40 ((refProdBad a b)) ?_ ?_
 ·refine rG (lM I (lU (SU.notP I) (lM I ?_)))
  refine sP ?_ ?_
  ·intro h29
   refine lZ I I I (lZ I I I (lU (pT I I) (lM I (lZ I I I (lZ I I I (lZ I I I (lZ I I I (lZ I I I (lZ I I I (lU (pT I I) (nL ?_)))))))))))
   exact ST.mid1 (by (rw [hbadA h29]; rfl)) mI
  ·intro h29
   refine lY I I I (mV I) (lY I I I (SU.notP I) (lU (pF I I) (lM I ?_)))
   refine sP ?_ ?_
   ·intro h33
    refine lZ I I I (lZ I I I (lZ I I I (lZ I I I (lZ I I I (lZ I I I (lU (pT I I) (nL ?_)))))))
    exact ST.mid1 (by (rw [hbadB (Decidable.of_not_not h29) h33]; rfl)) mI
   ·intro h33
    refine lY I I I (mV I) (lY I I I (eN uT29 I) (lY I I I (mV I) (lY I I I (eN uT29 I) (lY I I I (SU.mul I I (by have:=hmul (Decidable.of_not_not h29) (Decidable.of_not_not h33); rw [eal,ebl] at this; omega)) ?_))))
    refine lY I I I (gR I I) (lU (pF I I) (nL ?_))
    exact ST.mid1 (by (rw [hbadC (Decidable.of_not_not h29) (Decidable.of_not_not h33),eal,ebl]; rfl)) mI
 refine iQ I (fun hbad=>?_) (fun hbad=>?_)
 ·refine SC.sR (lU (SU.build I (buildE31)) (SL.O2 (sK 0 zT31 I I I I I sB) ?_))
  refine SL.nT (rE (tR ?_))
  exact ST.retCD 0 s (.inl I) results38 I iT31 zT31 I I (.cons _ (.cons _ (.cons _ (.refl _)))) ⟨I,hle1.trans (hle2.trans (hle3.trans hle4)),_,I,by unfold refProdC; rw [if_pos hbad]; exact ⟨[],Sl.nil _ _,trivial⟩⟩
 ·have hra0 : (refCheckC a).2 = 0:=Decidable.of_not_not fun h=>by rw [hbadA h] at hbad; cases hbad
  have hrb0 : (refCheckC b).2 = 0:=Decidable.of_not_not fun h=>by rw [hbadB hra0 h] at hbad; cases hbad
  have hsz : ((tabC a).length : Int) * (tabC b).length ≤ 4000:=by rw [hbadC hra0 hrb0] at hbad; simp at hbad; omega
  obtain ⟨hal,hastr,hat,haf⟩:=refRight_facts hra0
  obtain ⟨hbl,hbstr,hbt,hbf⟩:=refRight_facts hrb0
  rw [← hat] at hastr haf
  rw [← hbt] at hbstr hbf
  have hats:=tabC_sorted a
  have hbts:=tabC_sorted b
  have hai : ((tabC a).map Cl.id).Pairwise (· < ·):=List.pairwise_map.2 hastr
  have hbi : ((tabC b).map Cl.id).Pairwise (· < ·):=List.pairwise_map.2 hbstr
  have hall4 : tabC a = canonC a → tabC b = canonC b → prodAll a b = (tabC a).flatMap fun x=>(tabC b).map (prodCell (tabC a) (tabC b) x):=fun h h2=>by unfold prodAll; rw [← h,← h2]
  have hprod:=hall4 hat hbt
  have hCa : Cells g4 (.slice pa ra.length ca) (tabC a):=⟨ra,hra,halla⟩
  have hCb : Cells g4 (.slice pb rb.length cb) (tabC b):=⟨rb,hrb,hallb⟩
  refine kP (tN (SC.sR (lM I (lU (eN uT29 I) (lA I (SL.nT (SC.sR (SL.bx (aL zeroValue31) fun b10=>?_))))))))
  refine SL.nT (sQ (SC.sR (lA I (SL.nT (bK (SC.nilRow 40 3 ?_))))))
  refine oP (ι:=PH × Value × List Rc × Nat) (fun i=>[(2,pp b2 0),(3,pp b3 0),(4,pp b4 0),(7,.slice pa ra.length ca),(8,.slice pb rb.length cb),(9,vi rb.length),(10,pp b10 0),(11,vi i.2.2.2)]) (fun i=>i.1) (fun i=>rowA encCell 40 i.2.1 i.2.2.1 :: pt b10 (.cells #[i.2.1] 31 (0,0)) :: pt b4 (.cells #[.slice none 0 0] 31 (0,0)) :: pt b3 (.cells #[u] 31 (0,0)) :: pt b2 (.cells #[v] 31 (0,0)) :: s)
   (fun i=>Le g4 i.1 ∧ i.2.2.2 ≤ ra.length ∧ All2 (CellR i.1) (((tabC a).take i.2.2.2).flatMap fun x=>(tabC b).map (prodCell (tabC a) (tabC b) x)) i.2.2.1) (fun i=>ra.length - i.2.2.2)
   (g4,.slice none 0 0,[],0) sB rfl rfl ⟨Le.refl g4,Nat.zero_le _,trivial⟩ ?_
  rintro ⟨g5,ov,rcs,i⟩ ⟨hle5,hi,hrcs⟩
  dsimp only at hle5 hi hrcs ⊢
  refine sQ (SC.sR (lM I (lM I (lU (eN uT29 I) (lU (lS I I) (SL.nT ?_))))))
  refine iP I (fun hlt=>?_) (fun hlt=>?_)
  ·have hil : i < (tabC a).length:=oM
   have hir : i < ra.length:=oM
   have hb1:=hra.based oM
   have hxr:=halla.get (gE hil) (gE hir)
   have hgx0 : ra[((i : Nat) : Int).toNat]? = some ra[i]:=gE hir
   have hxm:=gM hil
   have hxi : lbI ((tabC a).map Cl.id) (tabC a)[i].id = i:=by
    have:=lbI_self (l:=(tabC a).map Cl.id) (k:=i) (by simpa using hil) hai
    simpa using this
   have hsucc:=flatMap_take_succ hil fun x=>(tabC b).map (prodCell (tabC a) (tabC b) x)
   generalize hxe : (tabC a)[i] = x at *
   obtain ⟨xp,xcap,hrx,hxs⟩:=cellR_form hxr
   rw [hrx] at hgx0
   have hgx:=hgx0
   have hxf:=haf x hxm
   have hxd:=form_dim hxf
   have hxo:=form_ok hxf
   have hxfd:=form_found hxf
   refine kP (tN (sQ (bK (SC.sR (lA I (SL.nT (bK ?_)))))))
   refine oP (ι:=PH × Value × List Rc × Nat) (fun k=>[(2,pp b2 0),(3,pp b3 0),(4,pp b4 0),(7,.slice pa ra.length ca),(8,.slice pb rb.length cb),(9,vi rb.length),(10,pp b10 0),(11,vi i),(12,vi k.2.2.2)]) (fun k=>k.1) (fun k=>rowA encCell 40 k.2.1 k.2.2.1 :: pt b10 (.cells #[k.2.1] 31 (0,0)) :: pt b4 (.cells #[.slice none 0 0] 31 (0,0)) :: pt b3 (.cells #[u] 31 (0,0)) :: pt b2 (.cells #[v] 31 (0,0)) :: s)
    (fun k=>Le g5 k.1 ∧ k.2.2.2 ≤ rb.length ∧ All2 (CellR k.1) ((((tabC a).take i).flatMap fun x=>(tabC b).map (prodCell (tabC a) (tabC b) x)) ++ ((tabC b).take k.2.2.2).map (prodCell (tabC a) (tabC b) x)) k.2.2.1) (fun k=>rb.length - k.2.2.2)
    (g5,ov,rcs,0) sB rfl rfl ⟨Le.refl g5,Nat.zero_le _,by simpa using hrcs⟩ ?_
   rintro ⟨g6,ov2,rcs2,k⟩ ⟨hle6,hk,hrcs2⟩
   dsimp only at hle6 hk hrcs2 ⊢
   refine sQ (SC.sR (lM I (lM I (lU (lS I I) (SL.nT ?_)))))
   refine iP I (fun hlt2=>?_) (fun hlt2=>?_)
   ·have hkl : k < (tabC b).length:=oM
    have hkr : k < rb.length:=oM
    have hb2:=hrb.based oM
    have hyr:=hallb.get (gE hkl) (gE hkr)
    have hgy0 : rb[((k : Nat) : Int).toNat]? = some rb[k]:=gE hkr
    have hym:=gM hkl
    have hyi : lbI ((tabC b).map Cl.id) (tabC b)[k].id = k:=by
     have:=lbI_self (l:=(tabC b).map Cl.id) (k:=k) (by simpa using hkl) hbi
     simpa using this
    have htk : ((tabC b).take (k + 1)).map (prodCell (tabC a) (tabC b) x) = ((tabC b).take k).map (prodCell (tabC a) (tabC b) x) ++ [prodCell (tabC a) (tabC b) x (tabC b)[k]]:=by rw [tS hkl,List.map_append]; rfl
    generalize hye : (tabC b)[k] = y at *
    obtain ⟨yp,ycap,hry,hys⟩:=cellR_form hyr
    rw [hry] at hgy0
    have hgy:=hgy0
    have hyf:=hbf y hym
    have hyd:=form_dim hyf
    have hyo:=form_ok hyf
    have hyfd:=form_found hyf
    have hlenr:=hrcs2.length
    have hbnd : (i : Int) * rb.length ≤ 4000:=by
     have h1 : (i : Int) * rb.length ≤ (ra.length : Int) * rb.length:=Int.mul_le_mul_of_nonneg_right oM oM
     rw [eal,ebl] at hsz
     omega
    have hbnd0 : 0 ≤ (i : Int) * rb.length:=Int.mul_nonneg oM oM
    have hrcl : rcs2.length ≤ 4000:=by
     have h1 : rcs2.length = i * rb.length + k:=by
      rw [← hlenr,List.length_append,List.length_map,List.length_take,flatMap_len,List.length_take,← ebl]
      rw [Nat.min_eq_left oM,Nat.min_eq_left oM]
     have h2 : i * rb.length + k ≤ ra.length * rb.length:=by
      have h3 : (i + 1) * rb.length ≤ ra.length * rb.length:=Nat.mul_le_mul_right _ oM
      rw [Nat.succ_mul] at h3
      omega
     have h4 : ((ra.length * rb.length : Nat) : Int) ≤ 4000:=by rw [eal,ebl] at hsz; rw [Int.natCast_mul]; exact hsz
     omega
    have hid : prodId (tabC a) (tabC b) x.id y.id = (i : Int) * rb.length + k + 1:=by unfold prodId; rw [hxi,hyi,ebl]
    have hra6:=hra.mono (hle5.trans hle6)
    have hrb6:=hrb.mono (hle5.trans hle6)
    have hxs6:=hxs.mono (hle5.trans hle6)
    have hys6:=hys.mono (hle5.trans hle6)
    refine kP (tN (sQ (bK (sQ ?_))))
    refine dW [] [(0,2),(1,2),(2,2),(3,2),(4,2),(5,2),(6,2),(7,2),(8,2),(9,2),(10,1),(11,2),(12,2),(13,2),(14,2),(15,1),(16,2),(17,2),(18,0),(19,0)] Tryz.mixed (by kernel_rfl) ?_
    refine pU rfl (mV rfl) (pU rfl (mV rfl) (pU rfl (SU.mul rfl rfl oM) (pU rfl (mV rfl) (pU rfl (aD rfl rfl oM) (pU rfl (aD rfl rfl oM) (pU rfl (mV rfl) (pU rfl (mV rfl) (pU rfl (iA uT29 zT40 rfl rfl hb1 oM sL) (pU rfl (fC uT40 rfl zT3 rfl hb1) (pK rfl (pA (e:=encCell) (o:=1) (u:=vi x.dim) iT3 rfl hra6.rd hgx rfl) (pU rfl (mV rfl) (pU rfl (mV rfl) (pU rfl (iA uT29 zT40 rfl rfl hb2 oM sL) (pU rfl (fC uT40 rfl zT3 rfl hb2) (pK rfl (pA (e:=encCell) (o:=1) (u:=vi y.dim) iT3 rfl hrb6.rd hgy rfl) (pU rfl (aD rfl rfl oM) (pU rfl (SU.build rfl (buildC40 _ _)) (SP.o rfl (aL zeroValue40) dC (.inr (by rintro _ _ _ ⟨b13,rfl,rfl,rfl⟩; exact ⟨by exact Le.refl _,(by exact .cons _ (.refl _))⟩)) ?_))))))))))))))))))
    rintro _ _ _ ⟨b13,rfl,rfl,rfl⟩
    refine SP.on rfl (sK 0 zT40 rfl rfl rfl rfl rfl sB) (.inr (by rintro _ _ _ ⟨rfl,rfl⟩; exact ⟨by exact Le.refl _,(by exact .cons _ (.refl _))⟩)) ?_
    rintro _ _ _ ⟨rfl,rfl⟩
    refine pN (tN (sQ (SC.sR (lA I (SL.nT (bK ?_))))))
    refine SC.to (fun w hw=>?_) (g':=g6) (s':=pt b13 (.cells #[vi (prodId (tabC a) (tabC b) x.id y.id),vi (x.dim + y.dim),.slice none 0 0] 40 (0,0)) :: rowA encCell 40 ov2 rcs2 :: pt b10 (.cells #[ov2] 31 (0,0)) :: pt b4 (.cells #[.slice none 0 0] 31 (0,0)) :: pt b3 (.cells #[u] 31 (0,0)) :: pt b2 (.cells #[v] 31 (0,0)) :: s) ?_
    ·rw [hid]; exact hw
    refine SC.nilRow 42 2 ?_
    refine oP (ι:=Value × Nat) (fun j=>[(2,pp b2 0),(3,pp b3 0),(4,pp b4 0),(7,.slice pa ra.length ca),(8,.slice pb rb.length cb),(9,vi rb.length),(10,pp b10 0),(11,vi i),(12,vi k),(13,pp b13 0),(14,vi j.2)]) (fun _=>g6)
     (fun j=>rowA encSide 42 j.1 ((x.sides.take j.2).map fun q=>(⟨prodId (tabC a) (tabC b) q.cell y.id,q.sign⟩ : Side)) :: pt b13 (.cells #[vi (prodId (tabC a) (tabC b) x.id y.id),vi (x.dim + y.dim),j.1] 40 (0,0)) :: rowA encCell 40 ov2 rcs2 :: pt b10 (.cells #[ov2] 31 (0,0)) :: pt b4 (.cells #[.slice none 0 0] 31 (0,0)) :: pt b3 (.cells #[u] 31 (0,0)) :: pt b2 (.cells #[v] 31 (0,0)) :: s)
     (fun j=>j.2 ≤ x.sides.length) (fun j=>x.sides.length - j.2) (.slice none 0 0,0) sB rfl rfl (Nat.zero_le _) ?_
    rintro ⟨sv,j⟩ hj
    dsimp only at hj ⊢
    refine sQ (SC.sR (lM I (lM I (lM I (lU (iA uT29 zT40 I I hb1 oM sL) (lU (fC uT40 I zT38 I hb1) (lK (pA (e:=encCell) (o:=2) (u:=.slice xp x.sides.length xcap) iT38 I hra6.rd hgx I) (lU (eN uT38 I) (lU (lS I I) (SL.nT ?_))))))))))
    refine iP I (fun hlt3=>?_) (fun hlt3=>?_)
    ·have hjl : j < x.sides.length:=oM
     have hb3:=hxs6.based oM
     have hjx : x.sides[((j : Nat) : Int).toNat]? = some x.sides[j]:=gE hjl
     have htj : (x.sides.take (j + 1)).map (fun q=>(⟨prodId (tabC a) (tabC b) q.cell y.id,q.sign⟩ : Side)) = (x.sides.take j).map (fun q=>(⟨prodId (tabC a) (tabC b) q.cell y.id,q.sign⟩ : Side)) ++ [⟨prodId (tabC a) (tabC b) x.sides[j].cell y.id,x.sides[j].sign⟩]:=by rw [tS hjl,List.map_append]; rfl
     have hqf:=hxfd _ (gM hjl)
     generalize x.sides[j] = z at *
     have hatz:=at_found hats hqf
     have hlbz:=lbI_le ((tabC a).map Cl.id) z.cell
     rw [List.length_map] at hlbz
     have hidz : prodId (tabC a) (tabC b) z.cell y.id = ((lbI ((tabC a).map Cl.id) z.cell : Nat) : Int) * rb.length + k + 1:=by unfold prodId; rw [hyi,ebl]
     have hbz : ((lbI ((tabC a).map Cl.id) z.cell : Nat) : Int) * rb.length ≤ 4000:=by
      have h1 : ((lbI ((tabC a).map Cl.id) z.cell : Nat) : Int) * rb.length ≤ (ra.length : Int) * rb.length:=Int.mul_le_mul_of_nonneg_right oM oM
      rw [eal,ebl] at hsz
      omega
     have hbz0 : 0 ≤ ((lbI ((tabC a).map Cl.id) z.cell : Nat) : Int) * rb.length:=Int.mul_nonneg oM oM
     refine kP (tN (sQ (bK (SC.sR (lM I (lM I (lU (iA uT29 zT40 I I hb1 oM sL) (lU (fC uT40 I zT38 I hb1) (lK (pA (e:=encCell) (o:=2) (u:=.slice xp x.sides.length xcap) iT38 I hra6.rd hgx I) (lM I (lU (iA uT38 zT42 I I hb3 oM sL) (lK (eA iT42 zT42 I hxs6.rd hjx) (SL.bx (aL zeroValue42) fun b15=>?_)))))))))))))
     refine SL.O2 (sK 0 zT42 I I I I I sB) ?_
     refine SL.nT ?_
     refine SC.to (fun w hw=>hw) (g':=g6) (s':=pt b15 (.cells #[vi z.cell,vi z.sign] 42 (0,0)) :: rowA encSide 42 sv ((x.sides.take j).map fun q=>(⟨prodId (tabC a) (tabC b) q.cell y.id,q.sign⟩ : Side)) :: pt b13 (.cells #[vi (prodId (tabC a) (tabC b) x.id y.id),vi (x.dim + y.dim),sv] 40 (0,0)) :: rowA encCell 40 ov2 rcs2 :: pt b10 (.cells #[ov2] 31 (0,0)) :: pt b4 (.cells #[.slice none 0 0] 31 (0,0)) :: pt b3 (.cells #[u] 31 (0,0)) :: pt b2 (.cells #[v] 31 (0,0)) :: s) ?_
     refine dW [15,16,17] [(0,2),(1,1),(2,2),(3,2),(4,1),(6,2),(8,2),(11,2),(12,1),(5,0),(7,2),(9,2),(10,2),(13,2),(14,0),(15,0),(16,0),(17,0)] Tryz.mixed (by kernel_rfl) ?_
     refine pU rfl (fA uT40 rfl zT38 rfl) (pK rfl (qL (v:=sv) iT38 rfl (cO 2 rfl rfl)) (pU rfl (mV rfl) (pU rfl (fA uT42 rfl zT3 rfl) (pK rfl (qL (v:=vi z.cell) iT3 rfl (cO 0 rfl rfl)) (pU rfl (mV rfl) (pU rfl (mV rfl) (pU rfl (fA uT42 rfl zT3 rfl) (pK rfl (qL (v:=vi z.sign) iT3 rfl (cO 0 rfl rfl)) (SP.o rfl (cL call103 rfl (at_spec E g6 _ _ (tabC a) z.cell (hCa.mono (hle5.trans hle6)) oM hats)) dC (.inr (by rintro _ _ _ ⟨rfl,rfl,rfl⟩; exact ⟨by exact Le.refl _,(by exact .refl _)⟩)) ?_)))))))))
     rintro _ _ _ ⟨rfl,rfl,rfl⟩
     rw [hatz]
     refine pU rfl (SU.mul rfl rfl oM) (pU rfl (aD rfl rfl oM) (pU rfl (SU.eq (v':=vi (prodId (tabC a) (tabC b) z.cell y.id)) (aD rfl rfl oM) (congrArg vi hidz.symm)) (pU rfl (SU.build rfl (buildS42 _ _)) (SP.o rfl (bS sty38 rfl rfl rfl (szs_mk sB) dC) dC (.inr (by rintro _ _ _ ⟨b105,rfl,rfl,rfl⟩; exact ⟨by exact Le.refl _,(by exact .cons _ (.refl _))⟩)) ?_))))
     rintro _ _ _ ⟨b105,rfl,rfl,rfl⟩
     refine SP.o I (aP (e:=encSide) 1 ⟨prodId (tabC a) (tabC b) z.cell y.id,z.sign⟩ sty38 I I I I I (by simp; omega) (by simp; omega)) dC (.inl dC) ?_
     rintro sv' _ _ ⟨rfl,rfl⟩
     rw [← htj]
     refine SP.facts fun ⟨w0,hw0⟩=>?_
     obtain ⟨q6,d6,rfl⟩:=rowA_form (i:=1) hw0 rfl
     clear hw0 w0
     refine oU rfl (fA uT40 rfl zT38 rfl) dC (.inl dC) (SP.on rfl (SO.store1 2 zT38 rfl rfl rfl rfl (bE rfl) (by rfl)) (.inl dC) ?_)
     rintro _ _ _ ⟨rfl,rfl⟩
     refine pN (bN (tN (rG (lM I (lU (aD I I oM) (lA I (nL (dR (s':=rowA encSide 42 (.slice q6 ((x.sides.take (j + 1)).map fun q=>(⟨prodId (tabC a) (tabC b) q.cell y.id,q.sign⟩ : Side)).length d6) ((x.sides.take (j + 1)).map fun q=>(⟨prodId (tabC a) (tabC b) q.cell y.id,q.sign⟩ : Side)) :: pt b13 (.cells #[vi (prodId (tabC a) (tabC b) x.id y.id),vi (x.dim + y.dim),.slice q6 ((x.sides.take (j + 1)).map fun q=>(⟨prodId (tabC a) (tabC b) q.cell y.id,q.sign⟩ : Side)).length d6] 40 (0,0)) :: rowA encCell 40 ov2 rcs2 :: pt b10 (.cells #[ov2] 31 (0,0)) :: pt b4 (.cells #[.slice none 0 0] 31 (0,0)) :: pt b3 (.cells #[u] 31 (0,0)) :: pt b2 (.cells #[v] 31 (0,0)) :: s) (.cons _ (.refl _)) ?_))))))))
     exact gA (_,j + 1) sB I I lN lN
    ·have hjj : x.sides.take j = x.sides:=tL oM
     rw [hjj]
     generalize hfl1 : x.sides.map (fun q=>(⟨prodId (tabC a) (tabC b) q.cell y.id,q.sign⟩ : Side)) = fl1 at *
     have hfl1l : fl1.length = x.sides.length:=by rw [← hfl1,List.length_map]
     refine xI (tX (tX (bX (tN (sQ (SC.sR (lA I (SL.nT (bK ?_)))))))))
     refine oP (ι:=Value × Nat) (fun m=>[(2,pp b2 0),(3,pp b3 0),(4,pp b4 0),(7,.slice pa ra.length ca),(8,.slice pb rb.length cb),(9,vi rb.length),(10,pp b10 0),(11,vi i),(12,vi k),(13,pp b13 0),(16,vi m.2)]) (fun _=>g6)
      (fun m=>rowA encSide 42 m.1 (fl1 ++ (y.sides.take m.2).map fun q=>(⟨prodId (tabC a) (tabC b) x.id q.cell,signC x.dim * q.sign⟩ : Side)) :: pt b13 (.cells #[vi (prodId (tabC a) (tabC b) x.id y.id),vi (x.dim + y.dim),m.1] 40 (0,0)) :: rowA encCell 40 ov2 rcs2 :: pt b10 (.cells #[ov2] 31 (0,0)) :: pt b4 (.cells #[.slice none 0 0] 31 (0,0)) :: pt b3 (.cells #[u] 31 (0,0)) :: pt b2 (.cells #[v] 31 (0,0)) :: s)
      (fun m=>m.2 ≤ y.sides.length) (fun m=>y.sides.length - m.2) (sv,0) sB rfl (by simp) (Nat.zero_le _) ?_
     rintro ⟨sv2,m⟩ hm
     dsimp only at hm ⊢
     refine sQ (SC.sR (lM I (lM I (lM I (lU (iA uT29 zT40 I I hb2 oM sL) (lU (fC uT40 I zT38 I hb2) (lK (pA (e:=encCell) (o:=2) (u:=.slice yp y.sides.length ycap) iT38 I hrb6.rd hgy I) (lU (eN uT38 I) (lU (lS I I) (SL.nT ?_))))))))))
     refine iP I (fun hlt4=>?_) (fun hlt4=>?_)
     ·have hml : m < y.sides.length:=oM
      have hb3:=hys6.based oM
      have hmx : y.sides[((m : Nat) : Int).toNat]? = some y.sides[m]:=gE hml
      have htm : fl1 ++ (y.sides.take (m + 1)).map (fun q=>(⟨prodId (tabC a) (tabC b) x.id q.cell,signC x.dim * q.sign⟩ : Side)) = fl1 ++ (y.sides.take m).map (fun q=>(⟨prodId (tabC a) (tabC b) x.id q.cell,signC x.dim * q.sign⟩ : Side)) ++ [⟨prodId (tabC a) (tabC b) x.id y.sides[m].cell,signC x.dim * y.sides[m].sign⟩]:=by rw [tS hml,List.map_append]; simp
      have hqf:=hyfd _ (gM hml)
      have hqs:=hyo.2 _ (gM hml)
      generalize y.sides[m] = z at *
      have hatz:=at_found hbts hqf
      have hlbz:=lbI_le ((tabC b).map Cl.id) z.cell
      rw [List.length_map] at hlbz
      have hidz : prodId (tabC a) (tabC b) x.id z.cell = (i : Int) * rb.length + ((lbI ((tabC b).map Cl.id) z.cell : Nat) : Int) + 1:=by unfold prodId; rw [hxi,ebl]
      have hsgn : z.sign * signC x.dim = signC x.dim * z.sign:=Int.mul_comm _ _
      have hsgc:=signC_cases x.dim
      have htmod : x.dim.tmod 2 = x.dim % 2:=Int.tmod_eq_emod_of_nonneg hxd.1
      have hmulb : -1 ≤ z.sign * signC x.dim ∧ z.sign * signC x.dim ≤ 1:=by rcases hqs with h | h <;> rcases hsgc with h2 | h2 <;> rw [h,h2] <;> decide
      refine kP (tN (sQ (bK (SC.sR (lM I (lM I (lU (iA uT29 zT40 I I hb2 oM sL) (lU (fC uT40 I zT38 I hb2) (lK (pA (e:=encCell) (o:=2) (u:=.slice yp y.sides.length ycap) iT38 I hrb6.rd hgy I) (lM I (lU (iA uT38 zT42 I I hb3 oM sL) (lK (eA iT42 zT42 I hys6.rd hmx) (SL.bx (aL zeroValue42) fun b17=>?_)))))))))))))
      refine SL.O2 (sK 0 zT42 I I I I I sB) ?_
      refine SL.nT ?_
      refine SC.to (fun w hw=>hw) (g':=g6) (s':=pt b17 (.cells #[vi z.cell,vi z.sign] 42 (0,0)) :: rowA encSide 42 sv2 (fl1 ++ (y.sides.take m).map fun q=>(⟨prodId (tabC a) (tabC b) x.id q.cell,signC x.dim * q.sign⟩ : Side)) :: pt b13 (.cells #[vi (prodId (tabC a) (tabC b) x.id y.id),vi (x.dim + y.dim),sv2] 40 (0,0)) :: rowA encCell 40 ov2 rcs2 :: pt b10 (.cells #[ov2] 31 (0,0)) :: pt b4 (.cells #[.slice none 0 0] 31 (0,0)) :: pt b3 (.cells #[u] 31 (0,0)) :: pt b2 (.cells #[v] 31 (0,0)) :: s) ?_
      refine dW [24,25,26] [(0,2),(1,1),(2,2),(3,2),(4,2),(5,2),(6,2),(7,1),(11,2),(12,1),(13,2),(14,2),(15,2),(16,2),(17,1),(18,2),(19,2),(20,2),(21,2),(8,0),(9,2),(10,2),(22,2),(23,0),(24,0),(25,0),(26,0)] Tryz.mixed (by kernel_rfl) ?_
      refine pU rfl (fA uT40 rfl zT38 rfl) (pK rfl (qL (v:=sv2) iT38 rfl (cO 2 rfl rfl)) (pU rfl (mV rfl) (pU rfl (mV rfl) (pU rfl (SU.mul rfl rfl oM) (pU rfl (mV rfl) (pU rfl (fA uT42 rfl zT3 rfl) (pK rfl (qL (v:=vi z.cell) iT3 rfl (cO 0 rfl rfl)) (pU rfl (fA uT42 rfl zT3 rfl) (pK rfl (qL (v:=vi z.sign) iT3 rfl (cO 0 rfl rfl)) (pU rfl (mV rfl) (pU rfl (mV rfl) (pU rfl (iA uT29 zT40 rfl rfl hb1 oM sL) (pU rfl (fC uT40 rfl zT3 rfl hb1) (pK rfl (pA (e:=encCell) (o:=1) (u:=vi x.dim) iT3 rfl hra6.rd hgx rfl) (pU rfl (SU.eq (v':=vi (x.dim % 2)) (SU.rem rfl rfl dC) (congrArg vi htmod)) (pU rfl (SU.mul rfl rfl oM) (pU rfl (SU.eq (v':=vi (signC x.dim)) (sU rfl rfl oM) rfl) (pU rfl (SU.eq (v':=vi (signC x.dim * z.sign)) (SU.mul rfl rfl oM) (congrArg vi hsgn)) (SP.o rfl (cL call103 rfl (at_spec E g6 _ _ (tabC b) z.cell (hCb.mono (hle5.trans hle6)) oM hbts)) dC (.inr (by rintro _ _ _ ⟨rfl,rfl,rfl⟩; exact ⟨by exact Le.refl _,(by exact .refl _)⟩)) ?_)))))))))))))))))))
      rintro _ _ _ ⟨rfl,rfl,rfl⟩
      rw [hatz]
      refine pU rfl (aD rfl rfl oM) (pU rfl (SU.eq (v':=vi (prodId (tabC a) (tabC b) x.id z.cell)) (aD rfl rfl oM) (congrArg vi hidz.symm)) (pU rfl (SU.build rfl (buildS42 _ _)) (SP.o rfl (bS sty38 rfl rfl rfl (szs_mk sB) dC) dC (.inr (by rintro _ _ _ ⟨b149,rfl,rfl,rfl⟩; exact ⟨by exact Le.refl _,(by exact .cons _ (.refl _))⟩)) ?_)))
      rintro _ _ _ ⟨b149,rfl,rfl,rfl⟩
      refine SP.o I (aP (e:=encSide) 1 ⟨prodId (tabC a) (tabC b) x.id z.cell,signC x.dim * z.sign⟩ sty38 I I I I I (by simp; omega) (by simp; omega)) dC (.inl dC) ?_
      rintro sv3 _ _ ⟨rfl,rfl⟩
      rw [← htm]
      refine SP.facts fun ⟨w0,hw0⟩=>?_
      obtain ⟨q7,d7,rfl⟩:=rowA_form (i:=1) hw0 rfl
      clear hw0 w0
      refine oU rfl (fA uT40 rfl zT38 rfl) dC (.inl dC) (SP.on rfl (SO.store1 2 zT38 rfl rfl rfl rfl (bE rfl) (by rfl)) (.inl dC) ?_)
      rintro _ _ _ ⟨rfl,rfl⟩
      refine pN (bN (tN (rG (lM I (lU (aD I I oM) (lA I (nL (dR (s':=rowA encSide 42 (.slice q7 (fl1 ++ (y.sides.take (m + 1)).map fun q=>(⟨prodId (tabC a) (tabC b) x.id q.cell,signC x.dim * q.sign⟩ : Side)).length d7) (fl1 ++ (y.sides.take (m + 1)).map fun q=>(⟨prodId (tabC a) (tabC b) x.id q.cell,signC x.dim * q.sign⟩ : Side)) :: pt b13 (.cells #[vi (prodId (tabC a) (tabC b) x.id y.id),vi (x.dim + y.dim),.slice q7 (fl1 ++ (y.sides.take (m + 1)).map fun q=>(⟨prodId (tabC a) (tabC b) x.id q.cell,signC x.dim * q.sign⟩ : Side)).length d7] 40 (0,0)) :: rowA encCell 40 ov2 rcs2 :: pt b10 (.cells #[ov2] 31 (0,0)) :: pt b4 (.cells #[.slice none 0 0] 31 (0,0)) :: pt b3 (.cells #[u] 31 (0,0)) :: pt b2 (.cells #[v] 31 (0,0)) :: s) (.cons _ (.refl _)) ?_))))))))
      exact gA (_,m + 1) sB I I lN lN
     ·have hmm : y.sides.take m = y.sides:=tL oM
      rw [hmm]
      have hpc : prodCell (tabC a) (tabC b) x y = ⟨prodId (tabC a) (tabC b) x.id y.id,x.dim + y.dim,fl1 ++ y.sides.map fun q=>(⟨prodId (tabC a) (tabC b) x.id q.cell,signC x.dim * q.sign⟩ : Side)⟩:=by unfold prodCell; rw [hfl1]
      generalize hfl2 : (fl1 ++ y.sides.map fun q=>(⟨prodId (tabC a) (tabC b) x.id q.cell,signC x.dim * q.sign⟩ : Side)) = fl2 at *
      refine xI (tX (tX (bX (tN (rG (fR fun g7 hle7 hs7=>?_))))))
      have hsd : SlA encSide g7 sv2 fl2:=hs7
      obtain ⟨q8,d8,rfl⟩:=SlA.form hsd
      obtain ⟨nc,hnc⟩ : ∃ nc : Rc,nc = ⟨prodId (tabC a) (tabC b) x.id y.id,x.dim + y.dim,⟨q8,fl2.length,d8⟩⟩:=⟨_,rfl⟩
      refine lU (fA uT31 I zT29 I) (lK (qL iT29 I (cO 2 I I)) (lK (qV 0 iT40 zT40 I I I) (lW (bS sty29 I I I (szs_mk sB) dC) ?_)))
      rintro _ _ _ ⟨b155,rfl,rfl,rfl⟩
      refine lW (aP (e:=encCell) 1 nc sty29 rfl rfl rfl rfl (by rw [hnc]; rfl) oM oM) ?_
      rintro v156 _ _ ⟨rfl,rfl⟩
      refine SL.facts fun ⟨w0,hw0⟩=>?_
      obtain ⟨q9,d9,rfl⟩:=rowA_form (i:=1) hw0 rfl
      clear hw0 w0
      refine lU (fA uT31 I zT29 I) (SL.O2 (sK 2 zT29 I I I I I sB) ?_)
      refine nL (bN (tN (rG (lM I (lU (aD I I oM) (lA I (nL (dR (s':=rowA encCell 40 (.slice q9 (rcs2 ++ [nc]).length d9) (rcs2 ++ [nc]) :: pt b10 (.cells #[(.slice q9 (rcs2 ++ [nc]).length d9)] 31 (0,0)) :: pt b4 (.cells #[.slice none 0 0] 31 (0,0)) :: pt b3 (.cells #[u] 31 (0,0)) :: pt b2 (.cells #[v] 31 (0,0)) :: s) (.cons _ (.refl _)) ?_))))))))
      refine gA (g7,_,rcs2 ++ [nc],k + 1) sB I I ⟨hle6.trans hle7,lN,?_⟩ lN
      dsimp only
      rw [htk,← List.append_assoc]
      exact (hrcs2.mono fun _ _=>CellR.mono hle7).append ⟨(by rw [hpc,hnc]; exact ⟨I,I,hsd⟩),trivial⟩
   ·have hkk : (tabC b).take k = tabC b:=tL oM
    rw [hkk] at hrcs2
    refine xI (tX (tX (bX (bN (tN (rG (lM I (lU (aD I I oM) (lA I (nL ?_))))))))))
    exact gA (g6,ov2,rcs2,i + 1) sB I I ⟨hle5.trans hle6,lN,by dsimp only; rw [hsucc]; exact hrcs2⟩ lN
  ·have hii : (tabC a).take i = tabC a:=tL oM
   rw [hii,← hprod] at hrcs
   have hpl : (prodAll a b).length ≤ 4000:=by
    rw [hprod,flatMap_len]
    have h4 : (((tabC a).length * (tabC b).length : Nat) : Int) ≤ 4000:=by rw [Int.natCast_mul]; exact hsz
    omega
   have hfit : Fits (prodAll a b):=by
    refine ⟨oM,fun c hc=>?_⟩
    rw [hprod] at hc
    obtain ⟨x,hx,hc⟩:=List.mem_flatMap.1 hc
    obtain ⟨y,hy,rfl⟩:=List.mem_map.1 hc
    have h1:=(form_ok (haf x hx)).1
    have h2:=(form_ok (hbf y hy)).1
    simp [prodCell]
    omega
   refine xI (tX (tX (bX (tN (sQ (fS fun g6 hle6 hs6=>?_))))))
   have hov : Cells g6 ov (prodAll a b):=⟨rcs,hs6,hrcs.mono fun _ _=>CellR.mono hle6⟩
   refine rG (lK (qV 0 iT31 zT31 I I I) (lW (cL call11 I (refRight_spec E g6 _ _ (prodAll a b) hov hfit)) ?_))
   rintro _ g7 _ ⟨rfl,rfl,hle7⟩
   refine lA I (SL.nT (sQ (SC.sR (lM I (lU (SU.notP I) (SL.nT ?_))))))
   refine iP I (fun hr=>?_) (fun hr=>?_)
   ·refine SC.sR (lU (SU.build I (buildE31)) (SL.O2 (sK 1 zT31 I I I I I sB) ?_))
    refine SL.nT (rE (tR ?_))
    exact ST.retCD 1 s (.inl I) results38 I iT31 zT31 I I (.cons _ (.cons _ (.cons _ (.cons _ (.refl _))))) ⟨I,hle1.trans (hle2.trans (hle3.trans (hle4.trans (hle5.trans (hle6.trans hle7))))),_,I,by unfold refProdC; rw [if_neg (by rw [hbad]; simp),if_neg hr]; exact ⟨[],Sl.nil _ _,trivial⟩⟩
   ·refine kP (tN (SC.sR (lK (qV 0 iT31 zT31 I I I) (lW (cL call44 I (refCanon_spec E g7 _ _ (prodAll a b) (hov.mono hle7) hfit)) ?_))))
    rintro _ g8 _ ⟨rfl,hle8,x8,rfl,hx8⟩
    obtain ⟨q8,d8,rfl⟩:=hx8.form
    refine SL.O2 (sK 1 zT31 I I I I I sB) ?_
    refine SL.nT (rE ?_)
    exact ST.retCD 1 s (.inl I) results38 I iT31 zT31 I I (.cons _ (.cons _ (.cons _ (.cons _ (.refl _))))) ⟨I,hle1.trans (hle2.trans (hle3.trans (hle4.trans (hle5.trans (hle6.trans (hle7.trans hle8)))))),_,I,by unfold refProdC; rw [if_neg (by rw [hbad]; simp),if_pos (Decidable.of_not_not hr)]; exact hx8⟩
end Go.Proofs.YtkdibcicncjpdaaGreatDoor
namespace Go.Sy
open Go
section
variable {P : Program} {N : Nat} {E : World} {ops : Array Oper} {Q : Exit → Act → World → Prop} {g0 : PH} {s0 : Own} {tail : List Nat} {f : Fr} {g g' : PH} {s s' : Own} {L : Array Bool} {n : Nat}
theorem SX.to (h : ∀ w,At E g s w → At E g' s' w) (hc : SX P N E ops Q g0 s0 tail L n f g' s') : SX P N E ops Q g0 s0 tail L n f g s:=fun a w h1 hcl ha hw hb=>hc a w h1 hcl ha (h w hw) hb
theorem SX.facts (h : (∃ w,At E g s w) → SX P N E ops Q g0 s0 tail L n f g s) : SX P N E ops Q g0 s0 tail L n f g s:=fun a w h1 hcl ha hw hb=>h ⟨w,hw⟩ a w h1 hcl ha hw hb
theorem SX.freezeRow {T : TypeId} {k m : Nat} {v : Value} {xs : List Value} (h : ∀ g',Le g g' → Sl g' k v m xs → SX P N E ops Q g0 s0 tail L n f g' s) : SX P N E ops Q g0 s0 tail L n f g (row T k v m xs :: s):=fun a w h1 hcl ha hw hb=>by
 obtain ⟨g',h3,h4,h5⟩:=hw.freezeRow
 exact h g' h3 h5 a w h1 hcl ha h4 hb
end
end Go.Sy
namespace Go.Proofs.YtkdibcicncjpdaaGreatDoor
open _root_.Go.Proofs.Tryz _root_.Go.Proofs.YtkdibcicncjpdaaGreatDoor.Tryz
open Go Go.Sy Go.Pl Go.Proofs
set_option maxRecDepth 100000
def setsC (ls : List (List Int)) : List (List Int):=(ls.take 5).map fun l=>(l.take 4).map fun x=>modW x 7
theorem map_take_succ {α β : Type} {l : List α} {i : Nat} (h : i < l.length) (f : α → β) : (l.take (i + 1)).map f = (l.take i).map f ++ [f l[i]]:=by
 rw [tS h,List.map_append]; rfl
theorem sets_spec (E : World) (g : PH) (s : Own) (v : Value) (ls : List (List Int)) (hv : Lists g v ls) :
  Ctr Tryz.prog E 36 #[v] g s (fun r g' s'=>∃ rs,s' = rowA encSv 27 r rs :: s ∧ Le g g' ∧ All2 (ListR g') (setsC ls) rs):=by
 obtain ⟨rs0,hrs0,hall0⟩:=hv
 have hlen0:=hall0.length
 obtain ⟨p,c,rfl⟩:=SlA.form hrs0
 refine Ctr.of (args:=[.slice p rs0.length c]) func36 I ntmps36 (bE I) ?_
 refine SC.sR (lA I (SL.nT (SC.sR (lA I (SL.nT (sQ (SC.sR (lA I (SL.nT (bK (SC.nilRow 27 1 ?_)))))))))))
 refine oP (ι:=PH × Value × List Sv × Nat) (fun i=>[(0,.slice p rs0.length c),(2,.slice none 0 0),(3,i.2.1),(4,vi i.2.2.2)]) (fun i=>i.1)
  (fun i=>rowA encSv 27 i.2.1 i.2.2.1 :: s)
  (fun i=>Le g i.1 ∧ i.2.2.2 ≤ rs0.length ∧ i.2.2.2 ≤ 5 ∧ All2 (ListR i.1) ((ls.take i.2.2.2).map fun l=>(l.take 4).map fun x=>modW x 7) i.2.2.1) (fun i=>rs0.length - i.2.2.2)
  (g,.slice none 0 0,[],0) sB rfl rfl ⟨Le.refl g,Nat.zero_le _,Nat.zero_le _,trivial⟩ ?_
 rintro ⟨g1,ov,rs,i⟩ ⟨hle,hi,hi5,hrs⟩
 dsimp only at hle hi hi5 hrs ⊢
 have hrl:=hrs.length
 rw [List.length_map,List.length_take] at hrl
 have f1 : (i : Int) < (rs0.length : Int) → (decide ((i : Int) < (rs0.length : Int)) && decide ((i : Int) < 5)) = decide ((i : Int) < 5):=fun h=>by simp [h]
 have f2 : ¬ (i : Int) < (rs0.length : Int) → (decide ((i : Int) < (rs0.length : Int)) && decide ((i : Int) < 5)) = false:=fun h=>by simp only [h,decide_false,Bool.false_and]
 refine sQ ?_
 refine SC.cutB 14 ((decide ((i : Int) < (rs0.length : Int)) && decide ((i : Int) < 5))) ?_ ?_
 ·refine rG (lM I (lM I (lU (eN uT22 I) (lU (lS I I) (lM I ?_)))))
  refine sP ?_ ?_
  ·intro h11
   refine lY I I I (mV I) (lY I I I (lS I I) (lU (pT I I) (nL ?_)))
   exact ST.mid1 (by (rw [f1 h11]; rfl)) mI
  ·intro h11
   refine lZ I I I (lZ I I I (lU (pF I I) (nL ?_)))
   exact ST.mid1 (by (rw [f2 h11]; rfl)) mI
 refine iQ I (fun hc=>?_) (fun hc=>?_)
 ·rw [Bool.and_eq_true,decide_eq_true_iff,decide_eq_true_iff] at hc
  have hil : i < ls.length:=oM
  have hir : i < rs0.length:=oM
  have hb1:=hrs0.based oM
  have hR:=(hall0.get (gE hil) (gE hir)).mono hle
  have hRl:=hR.len
  have hsucc:=map_take_succ hil fun l=>(l.take 4).map fun x=>modW x 7
  generalize hx : ls[i] = x at *
  generalize hr : rs0[i] = r at *
  obtain ⟨rp,rn,rc⟩:=r
  dsimp only at hRl
  subst hRl
  have hxs : Ints g1 (.slice rp x.length rc) x:=hR
  have hgr : rs0[((i : Nat) : Int).toNat]? = some ⟨rp,x.length,rc⟩:=by rw [← hr]; exact gE hir
  refine kP (tN (sQ (bK (SC.sR (lA I (SL.nT (sQ (SC.sR (lA I (SL.nT (bK (SC.nilRow 3 1 ?_))))))))))))
  refine oP (ι:=Value × Nat) (fun k=>[(0,.slice p rs0.length c),(2,.slice none 0 0),(3,ov),(4,vi i),(5,k.1),(6,vi k.2)]) (fun _=>g1)
   (fun k=>rowA encInt 3 k.1 ((x.take k.2).map fun x=>modW x 7) :: rowA encSv 27 ov rs :: s)
   (fun k=>k.2 ≤ x.length ∧ k.2 ≤ 4) (fun k=>x.length - k.2) (.slice none 0 0,0) sB rfl rfl ⟨Nat.zero_le _,Nat.zero_le _⟩ ?_
  rintro ⟨iv,k⟩ ⟨hk,hk4⟩
  dsimp only at hk hk4 ⊢
  have f3 : (k : Int) < (x.length : Int) → (decide ((k : Int) < (x.length : Int)) && decide ((k : Int) < 4)) = decide ((k : Int) < 4):=fun h=>by simp [h]
  have f4 : ¬ (k : Int) < (x.length : Int) → (decide ((k : Int) < (x.length : Int)) && decide ((k : Int) < 4)) = false:=fun h=>by simp only [h,decide_false,Bool.false_and]
  refine sQ ?_
  refine SC.cutB 27 ((decide ((k : Int) < (x.length : Int)) && decide ((k : Int) < 4))) ?_ ?_
  ·refine rG (lM I (lM I (lM I (lU (iA uT22 zT27 I I hb1 oM sL) (lK (eB (u:=.slice rp x.length rc) iT27 I (hrs0.mono hle).rd hgr I) (lU (eN uT27 I) (lU (lS I I) (lM I ?_))))))))
   refine sP ?_ ?_
   ·intro h24
    refine lY I I I (mV I) (lY I I I (lS I I) (lU (pT I I) (nL ?_)))
    exact ST.mid1 (by (rw [f3 h24]; rfl)) mI
   ·intro h24
    refine lZ I I I (lZ I I I (lU (pF I I) (nL ?_)))
    exact ST.mid1 (by (rw [f4 h24]; rfl)) mI
  refine iQ I (fun hc2=>?_) (fun hc2=>?_)
  ·rw [Bool.and_eq_true,decide_eq_true_iff,decide_eq_true_iff] at hc2
   have hkl : k < x.length:=oM
   have hb2:=SlA.based hxs oM
   have hks:=map_take_succ hkl fun x=>modW x 7
   have hgk : x[((k : Nat) : Int).toNat]? = some x[k]:=gE hkl
   generalize x[k] = y at *
   refine kP (tN (sQ (bK (rG (lM I (lM I (lM I (lU (iA uT22 zT27 I I hb1 oM sL) (lK (eB (u:=.slice rp x.length rc) iT27 I (hrs0.mono hle).rd hgr I) (lM I (lU (iA uT27 zT3 I I hb2 oM sL) (lK (eB iT3 I (SlA.rd hxs) hgk I) (lW (cL kT34 I (mod_spec E g1 _ y 7 dC)) ?_)))))))))))))
   rintro _ _ _ ⟨rfl,rfl,rfl⟩
   refine lW (bS sty27 I I I (szs_mk sB) dC) ?_
   rintro _ _ _ ⟨b39,rfl,rfl,rfl⟩
   refine lW (aP (e:=encInt) 0 (modW y 7) sty27 I I I I I (by rw [List.length_map,List.length_take]; omega) (by rw [List.length_map,List.length_take]; omega)) ?_
   rintro iv' _ _ ⟨rfl,rfl⟩
   refine lA I (nL (bN (tN (rG (lM I (lU (aD I I oM) (lA I (nL ?_))))))))
   refine ST.to (fun w hw=>?_) (g':=g1) (s':=rowA encInt 3 iv' ((x.take (k + 1)).map fun x=>modW x 7) :: rowA encSv 27 ov rs :: s) ?_
   ·rw [hks]; exact hw
   exact gA (iv',k + 1) sB I I ⟨lN,lN⟩ lN
  ·have hxk : x.take k = x.take 4:=by
    rw [Bool.and_eq_false_iff,decide_eq_false_iff_not,decide_eq_false_iff_not] at hc2
    by_cases h4 : k = 4
    ·rw [h4]
    ·rw [tL oM,tL oM]
   rw [hxk]
   refine xI (tX (tX (bX (tN (fS fun g2 hle2 hs2=>?_)))))
   have hiv : Ints g2 iv ((x.take 4).map fun x=>modW x 7):=hs2
   obtain ⟨q2,d2,rfl⟩:=SlA.form hiv
   obtain ⟨nl,hnl⟩ : ∃ nl,nl = ((x.take 4).map fun x=>modW x 7).length:=⟨_,rfl⟩
   refine rG (lM I (lM I (lW (bS sty22 I I I (szs_mk sB) dC) ?_)))
   rintro _ _ _ ⟨b43,rfl,rfl,rfl⟩
   refine lW (aP (e:=encSv) 0 ⟨q2,((x.take 4).map fun x=>modW x 7).length,d2⟩ sty22 I I I I I oM oM) ?_
   rintro ov' _ _ ⟨rfl,rfl⟩
   refine lA I (nL (bN (tN (rG (lM I (lU (aD I I oM) (lA I (nL ?_))))))))
   refine gA (g2,ov',rs ++ [⟨q2,((x.take 4).map fun x=>modW x 7).length,d2⟩],i + 1) sB I I ⟨hle.trans hle2,lN,lN,?_⟩ lN
   dsimp only
   rw [hsucc]
   exact (hrs.mono fun _ _=>ListR.mono hle2).append ⟨hiv,trivial⟩
 ·have hls : ls.take i = ls.take 5:=by
   rw [Bool.and_eq_false_iff,decide_eq_false_iff_not,decide_eq_false_iff_not] at hc
   by_cases h5 : i = 5
   ·rw [h5]
   ·rw [tL oM,tL oM]
  rw [hls] at hrs
  refine xI (tX (tX (bX (tN (SC.sR (lM I (lA I (SL.nT (rE ?_)))))))))
  exact ST.ret1 (.inl I) results36 I ⟨rs,I,hle,hrs⟩
def mixC (id k : Int) : Int:=if k = 1 then id else IntKind.i64.wrap ((IntKind.i64.wrap (id * k)).tmod 211 + 1)
theorem mixed_spec (E : World) (g : PH) (s : Own) (a k : Int) : Ctr Tryz.prog E 104 #[vi a,vi k] g s
  (fun r g' s'=>r = vi (mixC a k) ∧ g = g' ∧ s = s'):=by
 refine Ctr.of (args:=[vi a,vi k]) func104 I ntmps104 (bE I) ?_
 refine SC.sR (lA I (SL.nT (sQ (SC.sR (lM I (lU (eQ I I) (SL.nT ?_)))))))
 refine iP I (fun h1=>?_) (fun h1=>?_)
 ·refine SC.sR (lM I (lA I (SL.nT (rE (tR ?_)))))
  exact ST.ret1 (.inl I) results104 I ⟨by simp [mixC,h1],I,I⟩
 ·refine kP (tN (SC.sR (lM I (lM I (lU (SU.mulW I I) (lU (SU.rem I I dC) (lU (SU.addW I I) (lA I (SL.nT (rE ?_))))))))))
  exact ST.ret1 (.inl I) results104 I ⟨by simp [mixC,h1],I,I⟩
theorem turned_spec (E : World) (g : PH) (s : Own) (a k : Int) (hk : k ≠ 0) : Ctr Tryz.prog E 105 #[vi a,vi k] g s
  (fun r g' s'=>r = vb (decide (a.tmod k = 1)) ∧ g = g' ∧ s = s'):=by
 refine Ctr.of (args:=[vi a,vi k]) func105 I ntmps105 (bE I) ?_
 refine SC.sR (lA I (SL.nT (SC.sR (lM I (lM I (lU (SU.rem I I oM) (lU (eQ I I) (lA I (SL.nT (rE ?_))))))))))
 exact ST.ret1 (.inl I) results105 I ⟨I,I,I⟩
theorem simpAll_facts : ∀ (all ls : List (List Int)),all.length ≤ 4000 → (∀ x ∈ all,x.length ≤ 9) → ∀ r,simpAll all ls = some r → r.length ≤ 4000 ∧ ∀ x ∈ r,x.length ≤ 9
 | all,[],h1,h2,r,h=>by cases h; exact ⟨h1,h2⟩
 | all,t :: ls,h1,h2,r,h=>by
  unfold simpAll at h
  split at h
  ·exact simpAll_facts all ls h1 h2 r h
  ·rename_i hb
   split at h
   ·cases h
   ·rename_i hl
    refine simpAll_facts _ ls oM (fun x hx=>?_) r h
    rcases addSets_mem hx with hx | hx
    ·exact h2 x hx
    ·refine subsetsC_short ?_ x hx
     cases hT : setC t with
     | nil=>simp
     | cons a r =>
      rw [hT] at hb
      simp only [badSet,Bool.or_eq_true,decide_eq_true_iff,not_or] at hb
      omega
theorem simpC_fits (ls : List (List Int)) : Fits (simpC ls) ∧ (simpC ls).length ≤ 4000:=by
 unfold simpC
 cases h : simpAll [] ls with
 | none=>exact ⟨⟨by simp,by simp⟩,by simp⟩
 | some all =>
  obtain ⟨h1,h2⟩:=simpAll_facts [] ls (by simp) (by simp) all h
  have h3 : (canonC (simpCells all)).length ≤ 4000:=by rw [canonC_length,simpCells_length]; exact h1
  exact ⟨canonC_fits (simpCells_fits h1 h2),h3⟩
theorem refProdC_fits (a b : List Cl) : Fits (refProdC a b) ∧ (refProdC a b).length ≤ 4000:=by
 unfold refProdC
 split
 ·exact ⟨⟨by simp,by simp⟩,by simp⟩
 ·rename_i hbad
  split
  ·have ha : (refCheckC a).2 = 0:=Decidable.of_not_not fun h=>hbad (by simp [refProdBad,h])
   have hb : (refCheckC b).2 = 0:=Decidable.of_not_not fun h=>hbad (by simp [refProdBad,h])
   have hsz : ((tabC a).length : Int) * (tabC b).length ≤ 4000:=by
    refine Decidable.of_not_not fun h=>hbad ?_
    have : ((tabC a).length : Int) * (tabC b).length > 4000:=oM
    simp [refProdBad,this]
   obtain ⟨_,_,hat,haf⟩:=refRight_facts ha
   obtain ⟨_,_,hbt,hbf⟩:=refRight_facts hb
   rw [← hat] at haf
   rw [← hbt] at hbf
   have hprod : prodAll a b = (tabC a).flatMap fun x=>(tabC b).map (prodCell (tabC a) (tabC b) x):=by unfold prodAll; rw [← hat,← hbt]
   have hpl : (prodAll a b).length ≤ 4000:=by
    rw [hprod,flatMap_len]
    have h4 : (((tabC a).length * (tabC b).length : Nat) : Int) ≤ 4000:=by rw [Int.natCast_mul]; exact hsz
    omega
   have hfit : Fits (prodAll a b):=by
    refine ⟨oM,fun c hc=>?_⟩
    rw [hprod] at hc
    obtain ⟨x,hx,hc⟩:=List.mem_flatMap.1 hc
    obtain ⟨y,hy,rfl⟩:=List.mem_map.1 hc
    have h1:=(form_ok (haf x hx)).1
    have h2:=(form_ok (hbf y hy)).1
    simp [prodCell]
    omega
   exact ⟨canonC_fits hfit,by rw [canonC_length]; exact hpl⟩
  ·exact ⟨⟨by simp,by simp⟩,by simp⟩
def torusC : List Cl:=refProdC (simpC [[0,1],[1,2],[0,2]]) (simpC [[0,1],[1,2],[0,2]])
theorem torus_spec (E : World) (g : PH) (s : Own) : Ctr Tryz.prog E 40 #[] g s (fun r g' s'=>s = s' ∧ Le g g' ∧ ∃ u,r = .agg #[u] ∧ Cells g' u torusC):=by
 have hf:=(simpC_fits [[0,1],[1,2],[0,2]]).1
 refine Ctr.of (args:=[]) func40 I ntmps40 (bE I) ?_
 refine SC.sR (SL.bx (aL zeroValue31) fun b0=>?_)
 refine SL.nT (SC.sR (lW (bS sty27 I I I (szs_mk sB) dC) ?_))
 rintro _ _ _ ⟨b2,rfl,rfl,rfl⟩
 refine SL.freeze fun g1 hle1 hb2=>?_
 refine lW (bS sty27 I I I (szs_mk sB) dC) ?_
 rintro _ _ _ ⟨b3,rfl,rfl,rfl⟩
 refine SL.freeze fun g2 hle2 hb3=>?_
 refine lW (bS sty27 I I I (szs_mk sB) dC) ?_
 rintro _ _ _ ⟨b4,rfl,rfl,rfl⟩
 refine SL.freeze fun g3 hle3 hb4=>?_
 refine lW (bS sty22 I I I (szs_mk sB) dC) ?_
 rintro _ _ _ ⟨b5,rfl,rfl,rfl⟩
 refine SL.freeze fun g4 hle4 hb5=>?_
 have hlit : Lists g4 (.slice (some ⟨b5,0,none⟩) 3 3) [[0,1],[1,2],[0,2]]:=⟨[svOf (.slice (some ⟨b2,0,none⟩) 2 2),svOf (.slice (some ⟨b3,0,none⟩) 2 2),svOf (.slice (some ⟨b4,0,none⟩) 2 2)],SlA.lit hb5 rfl rfl,⟨SlA.lit (hle4 _ _ (hle3 _ _ (hle2 _ _ hb2))) rfl rfl,SlA.lit (hle4 _ _ (hle3 _ _ hb3)) rfl rfl,SlA.lit (hle4 _ _ hb4) rfl rfl,trivial⟩⟩
 refine lW (cL call35 I (refSimplicial_spec E g4 _ _ _ hlit dC dC)) ?_
 rintro _ g5 _ ⟨rfl,hle5,u,rfl,hu⟩
 obtain ⟨q,d,rfl⟩:=hu.form
 refine SL.bx (aL zeroValue31) fun b1=>?_
 refine SL.O2 (sK 0 zT31 I I I I I sB) ?_
 refine SL.nT (SC.sR (lK (qV 0 iT31 zT31 I I I) (lK (qV 0 iT31 zT31 I I I) (lW (cL call38 I (refProduct_spec E g5 _ _ _ _ _ hu hu hf hf)) ?_))))
 rintro _ g6 _ ⟨rfl,hle6,x,rfl,hx⟩
 obtain ⟨q6,d6,rfl⟩:=hx.form
 refine SL.O2 (sK 1 zT31 I I I I I sB) ?_
 refine SL.nT (rE ?_)
 exact ST.retCD 1 s (.inl I) results40 I iT31 zT31 I I (.cons _ (.cons _ (.refl _))) ⟨I,hle1.trans (hle2.trans (hle3.trans (hle4.trans (hle5.trans hle6)))),_,I,hx⟩
theorem sets_small (ls : List (List Int)) : (setsC ls).length ≤ 5 ∧ ∀ x ∈ setsC ls,x.length ≤ 4:=by
 refine ⟨by simp [setsC]; omega,fun x hx=>?_⟩
 obtain ⟨l,_,rfl⟩:=List.mem_map.1 hx
 simp
 omega
def surf0 : List (List Int):=[[0,1,2],[0,1,3],[0,2,3],[1,2,3]]
def surf1 : List (List Int):=[[0,1,2],[0,2,3],[0,3,4],[0,4,5],[0,1,5],[1,2,4],[2,3,5],[1,3,4],[2,4,5],[1,3,5]]
def surf2 (k : Nat) : List (List Int):=(List.range k).flatMap fun (i : Nat)=>[[(i : Int),((i : Int) + 1).tmod 7,((i : Int) + 3).tmod 7],[(i : Int),((i : Int) + 2).tmod 7,((i : Int) + 3).tmod 7]]
def surfC (n : Int) : List (List Int):=if modW n 3 = 0 then surf0 else if modW n 3 = 1 then surf1 else surf2 7
theorem surf2_succ (k : Nat) : surf2 (k + 1) = surf2 k ++ [[(k : Int),((k : Int) + 1).tmod 7,((k : Int) + 3).tmod 7],[(k : Int),((k : Int) + 2).tmod 7,((k : Int) + 3).tmod 7]]:=by
 simp [surf2,List.range_succ,List.flatMap_append]
theorem surf2_length (k : Nat) : (surf2 k).length = 2 * k:=by
 induction k with
 | zero=>rfl
 | succ k ih=>rw [surf2_succ,List.length_append,ih]; simp; omega
theorem surface_spec (E : World) (g : PH) (s : Own) (n : Int) : Ctr Tryz.prog E 37 #[vi n] g s (fun r g' s'=>s = s' ∧ Le g g' ∧ Lists g' r (surfC n)):=by
 refine Ctr.of (args:=[vi n]) func37 I ntmps37 (bE I) ?_
 refine SC.sR (lA I (SL.nT (sQ (SC.sR (lM I (lW (cL kT34 I (mod_spec E g _ n 3 dC)) ?_))))))
 rintro _ _ _ ⟨rfl,rfl,rfl⟩
 refine SL.nT (bK (SC.sR (lU (eQ I I) (lA I (SL.nT ?_)))))
 refine iP I (fun h0=>?_) (fun h0=>?_)
 ·refine SC.sR (lW (bS sty27 I I I (szs_mk sB) dC) ?_)
  rintro _ _ _ ⟨b9,rfl,rfl,rfl⟩
  refine SL.freeze fun g1 hle1 hb9=>?_
  refine lW (bS sty27 I I I (szs_mk sB) dC) ?_
  rintro _ _ _ ⟨b10,rfl,rfl,rfl⟩
  refine SL.freeze fun g2 hle2 hb10=>?_
  refine lW (bS sty27 I I I (szs_mk sB) dC) ?_
  rintro _ _ _ ⟨b11,rfl,rfl,rfl⟩
  refine SL.freeze fun g3 hle3 hb11=>?_
  refine lW (bS sty27 I I I (szs_mk sB) dC) ?_
  rintro _ _ _ ⟨b12,rfl,rfl,rfl⟩
  refine SL.freeze fun g4 hle4 hb12=>?_
  refine lW (bS sty22 I I I (szs_mk sB) dC) ?_
  rintro _ _ _ ⟨b13,rfl,rfl,rfl⟩
  refine SL.freeze fun g5 hle5 hb13=>?_
  have hlit : Lists g5 (.slice (some ⟨b13,0,none⟩) 4 4) surf0:=⟨[svOf (.slice (some ⟨b9,0,none⟩) 3 3),svOf (.slice (some ⟨b10,0,none⟩) 3 3),svOf (.slice (some ⟨b11,0,none⟩) 3 3),svOf (.slice (some ⟨b12,0,none⟩) 3 3)],SlA.lit hb13 rfl rfl,⟨SlA.lit (hle5 _ _ (hle4 _ _ (hle3 _ _ (hle2 _ _ hb9)))) rfl rfl,SlA.lit (hle5 _ _ (hle4 _ _ (hle3 _ _ hb10))) rfl rfl,SlA.lit (hle5 _ _ (hle4 _ _ hb11)) rfl rfl,SlA.lit (hle5 _ _ hb12) rfl rfl,trivial⟩⟩
  refine lA I (SL.nT (rE (bR (tR ?_))))
  exact ST.ret1 (.inl I) results37 I ⟨I,(hle1.trans (hle2.trans (hle3.trans (hle4.trans hle5)))),by unfold surfC; rw [if_pos h0]; exact hlit⟩
 ·refine SC.sR (lU (eQ I I) (lA I (SL.nT ?_)))
  refine iP I (fun h1=>?_) (fun h1=>?_)
  ·refine SC.sR (lW (bS sty27 I I I (szs_mk sB) dC) ?_)
   rintro _ _ _ ⟨b16,rfl,rfl,rfl⟩
   refine SL.freeze fun g1 hle1 hb16=>?_
   refine lW (bS sty27 I I I (szs_mk sB) dC) ?_
   rintro _ _ _ ⟨b17,rfl,rfl,rfl⟩
   refine SL.freeze fun g2 hle2 hb17=>?_
   refine lW (bS sty27 I I I (szs_mk sB) dC) ?_
   rintro _ _ _ ⟨b18,rfl,rfl,rfl⟩
   refine SL.freeze fun g3 hle3 hb18=>?_
   refine lW (bS sty27 I I I (szs_mk sB) dC) ?_
   rintro _ _ _ ⟨b19,rfl,rfl,rfl⟩
   refine SL.freeze fun g4 hle4 hb19=>?_
   refine lW (bS sty27 I I I (szs_mk sB) dC) ?_
   rintro _ _ _ ⟨b20,rfl,rfl,rfl⟩
   refine SL.freeze fun g5 hle5 hb20=>?_
   refine lW (bS sty27 I I I (szs_mk sB) dC) ?_
   rintro _ _ _ ⟨b21,rfl,rfl,rfl⟩
   refine SL.freeze fun g6 hle6 hb21=>?_
   refine lW (bS sty27 I I I (szs_mk sB) dC) ?_
   rintro _ _ _ ⟨b22,rfl,rfl,rfl⟩
   refine SL.freeze fun g7 hle7 hb22=>?_
   refine lW (bS sty27 I I I (szs_mk sB) dC) ?_
   rintro _ _ _ ⟨b23,rfl,rfl,rfl⟩
   refine SL.freeze fun g8 hle8 hb23=>?_
   refine lW (bS sty27 I I I (szs_mk sB) dC) ?_
   rintro _ _ _ ⟨b24,rfl,rfl,rfl⟩
   refine SL.freeze fun g9 hle9 hb24=>?_
   refine lW (bS sty27 I I I (szs_mk sB) dC) ?_
   rintro _ _ _ ⟨b25,rfl,rfl,rfl⟩
   refine SL.freeze fun g10 hle10 hb25=>?_
   refine lW (bS sty22 I I I (szs_mk sB) dC) ?_
   rintro _ _ _ ⟨b26,rfl,rfl,rfl⟩
   refine SL.freeze fun g11 hle11 hb26=>?_
   have hlit : Lists g11 (.slice (some ⟨b26,0,none⟩) 10 10) surf1:=⟨[svOf (.slice (some ⟨b16,0,none⟩) 3 3),svOf (.slice (some ⟨b17,0,none⟩) 3 3),svOf (.slice (some ⟨b18,0,none⟩) 3 3),svOf (.slice (some ⟨b19,0,none⟩) 3 3),svOf (.slice (some ⟨b20,0,none⟩) 3 3),svOf (.slice (some ⟨b21,0,none⟩) 3 3),svOf (.slice (some ⟨b22,0,none⟩) 3 3),svOf (.slice (some ⟨b23,0,none⟩) 3 3),svOf (.slice (some ⟨b24,0,none⟩) 3 3),svOf (.slice (some ⟨b25,0,none⟩) 3 3)],SlA.lit hb26 rfl rfl,⟨SlA.lit (hle11 _ _ (hle10 _ _ (hle9 _ _ (hle8 _ _ (hle7 _ _ (hle6 _ _ (hle5 _ _ (hle4 _ _ (hle3 _ _ (hle2 _ _ hb16)))))))))) rfl rfl,SlA.lit (hle11 _ _ (hle10 _ _ (hle9 _ _ (hle8 _ _ (hle7 _ _ (hle6 _ _ (hle5 _ _ (hle4 _ _ (hle3 _ _ hb17))))))))) rfl rfl,SlA.lit (hle11 _ _ (hle10 _ _ (hle9 _ _ (hle8 _ _ (hle7 _ _ (hle6 _ _ (hle5 _ _ (hle4 _ _ hb18)))))))) rfl rfl,SlA.lit (hle11 _ _ (hle10 _ _ (hle9 _ _ (hle8 _ _ (hle7 _ _ (hle6 _ _ (hle5 _ _ hb19))))))) rfl rfl,SlA.lit (hle11 _ _ (hle10 _ _ (hle9 _ _ (hle8 _ _ (hle7 _ _ (hle6 _ _ hb20)))))) rfl rfl,SlA.lit (hle11 _ _ (hle10 _ _ (hle9 _ _ (hle8 _ _ (hle7 _ _ hb21))))) rfl rfl,SlA.lit (hle11 _ _ (hle10 _ _ (hle9 _ _ (hle8 _ _ hb22)))) rfl rfl,SlA.lit (hle11 _ _ (hle10 _ _ (hle9 _ _ hb23))) rfl rfl,SlA.lit (hle11 _ _ (hle10 _ _ hb24)) rfl rfl,SlA.lit (hle11 _ _ hb25) rfl rfl,trivial⟩⟩
   refine lA I (SL.nT (rE (bR (tR ?_))))
   exact ST.ret1 (.inl I) results37 I ⟨I,(hle1.trans (hle2.trans (hle3.trans (hle4.trans (hle5.trans (hle6.trans (hle7.trans (hle8.trans (hle9.trans (hle10.trans hle11)))))))))),by unfold surfC; rw [if_neg h0,if_pos h1]; exact hlit⟩
  ·refine kP (bN (tN (SC.sR (lA I (SL.nT (sQ (SC.sR (lA I (SL.nT (bK (SC.nilRow 27 1 ?_)))))))))))
   refine oP (ι:=PH × Value × List Sv × Nat) (fun i=>[(3,i.2.1),(4,vi i.2.2.2)]) (fun i=>i.1)
    (fun i=>rowA encSv 27 i.2.1 i.2.2.1 :: s)
    (fun i=>Le g i.1 ∧ i.2.2.2 ≤ 7 ∧ All2 (ListR i.1) (surf2 i.2.2.2) i.2.2.1) (fun i=>7 - i.2.2.2)
    (g,.slice none 0 0,[],0) sB rfl rfl ⟨Le.refl g,Nat.zero_le _,trivial⟩ ?_
   rintro ⟨g1,ov,rs,i⟩ ⟨hle,hi,hrs⟩
   dsimp only at hle hi hrs ⊢
   have hrl:=hrs.length
   rw [surf2_length] at hrl
   refine sQ (SC.sR (lM I (lU (lS I I) (SL.nT ?_))))
   refine iP I (fun hlt=>?_) (fun hlt=>?_)
   ·have hi7 : i < 7:=oM
    refine kP (tN (sQ (bK (rG (lM I (lM I (lM I (lU (aD I I oM) (lU (SU.rem I I dC) (lM I (lU (aD I I oM) (lU (SU.rem I I dC) (lW (bS sty27 I I I (szs_mk sB) dC) ?_)))))))))))))
    rintro _ _ _ ⟨b39,rfl,rfl,rfl⟩
    refine SL.freeze fun g2 hle2 hb39=>?_
    refine lM I (lM I (lU (aD I I oM) (lU (SU.rem I I dC) (lM I (lU (aD I I oM) (lU (SU.rem I I dC) (lW (bS sty27 I I I (szs_mk sB) dC) ?_)))))))
    rintro _ _ _ ⟨b47,rfl,rfl,rfl⟩
    refine SL.freeze fun g3 hle3 hb47=>?_
    refine lW (bS sty22 I I I (szs_mk sB) dC) ?_
    rintro _ _ _ ⟨b48,rfl,rfl,rfl⟩
    refine SL.freeze fun g4 hle4 hb48=>?_
    have hlit : SlA encSv g4 (.slice (some ⟨b48,0,none⟩) 2 2) [⟨some ⟨b39,0,none⟩,3,3⟩,⟨some ⟨b47,0,none⟩,3,3⟩]:=SlA.lit hb48 rfl rfl
    refine lW (aQ (e:=encSv) 0 sty22 I I I hlit lN lN) ?_
    rintro ov' _ _ ⟨rfl,rfl⟩
    refine lA I (nL (bN (tN (rG (lM I (lU (aD I I oM) (lA I (nL ?_))))))))
    refine gA (g4,ov',rs ++ [⟨some ⟨b39,0,none⟩,3,3⟩,⟨some ⟨b47,0,none⟩,3,3⟩],i + 1) sB I I ⟨hle.trans (hle2.trans (hle3.trans hle4)),lN,?_⟩ lN
    dsimp only
    rw [surf2_succ]
    exact (hrs.mono fun _ _=>ListR.mono (hle2.trans (hle3.trans hle4))).append ⟨SlA.lit (hle4 _ _ (hle3 _ _ hb39)) I I,SlA.lit (hle4 _ _ hb47) I I,trivial⟩
   ·have hi7 : i = 7:=oM
    subst hi7
    refine xI (tX (tX (bX (tN (sQ (fS fun g2 hle2 hs2=>?_))))))
    have hov : Lists g2 ov (surf2 7):=⟨rs,hs2,hrs.mono fun _ _=>ListR.mono hle2⟩
    refine rG (lM I (lA I (SL.nT (rE ?_))))
    exact ST.ret1 (.inl I) results37 I ⟨I,hle.trans hle2,by unfold surfC; rw [if_neg h0,if_neg h1]; exact hov⟩
set_option maxHeartbeats 1000000
def polyV (k : Nat) : List Cl:=(List.range k).map fun (i : Nat)=>⟨(i : Int) + 1,0,[]⟩
def polyE (n k : Nat) : List Cl:=(List.range k).map fun (i : Nat)=>⟨(n : Int) + i + 1,1,[⟨(i : Int) + 1,-1⟩,⟨((i : Int) + 1).tmod n + 1,1⟩]⟩
def polyS (n k : Nat) : List Side:=(List.range k).map fun (i : Nat)=>⟨(n : Int) + i + 1,1⟩
def polyAll (n : Nat) : List Cl:=polyV n ++ polyE n n ++ [⟨2 * (n : Int) + 1,2,polyS n n⟩] ++ (if (n : Int).tmod 2 = 0 then [⟨2 * (n : Int) + 2,2,polyS n n⟩] else [])
def polyC (n : Nat) : List Cl:=canonC (polyAll n)
theorem polyV_succ (k : Nat) : polyV (k + 1) = polyV k ++ [⟨(k : Int) + 1,0,[]⟩]:=by simp [polyV,List.range_succ]
theorem polyE_succ (n k : Nat) : polyE n (k + 1) = polyE n k ++ [⟨(n : Int) + k + 1,1,[⟨(k : Int) + 1,-1⟩,⟨((k : Int) + 1).tmod n + 1,1⟩]⟩]:=by simp [polyE,List.range_succ]
theorem polyS_succ (n k : Nat) : polyS n (k + 1) = polyS n k ++ [⟨(n : Int) + k + 1,1⟩]:=by simp [polyS,List.range_succ]
theorem polyS_length (n k : Nat) : (polyS n k).length = k:=by simp [polyS]
theorem polyAll_fits {n : Nat} (h : n ≤ 6) : Fits (polyAll n) ∧ (polyAll n).length ≤ 14:=by
 have hl : (polyAll n).length ≤ 14:=by
  unfold polyAll
  split <;> simp [polyV,polyE] <;> omega
 refine ⟨⟨oM,fun c hc=>?_⟩,hl⟩
 unfold polyAll at hc
 rcases List.mem_append.1 hc with hc | hc
 ·rcases List.mem_append.1 hc with hc | hc
  ·rcases List.mem_append.1 hc with hc | hc
   ·obtain ⟨i,_,rfl⟩:=List.mem_map.1 hc
    simp
   ·obtain ⟨i,_,rfl⟩:=List.mem_map.1 hc
    simp
  ·simp at hc
   subst hc
   simp [polyS_length]
   omega
 ·split at hc
  ·simp at hc
   subst hc
   simp [polyS_length]
   omega
  ·simp at hc
theorem Tryz.buildD40 (x : Int) (w : World) : (Instr.build 40 #[(0,vi x)]).run Tryz.prog w = .ok (.agg #[vi x,vi 0,.slice none 0 0]) w:=by
 have hz : (Value.agg #[vi 0,vi 0,Value.slice none 0 0]).cells = #[vi 0,vi 0,.slice none 0 0]:=rfl
 have h1 : ∀ z : Int,(vi z).cells = #[vi z]:=fun _=>rfl
 simp [Instr.build,Instr.fill,hz,h1]
theorem polygon_spec (E : World) (g : PH) (s : Own) (n : Nat) (h2 : 2 ≤ n) (h6 : n ≤ 6) :
  Ctr Tryz.prog E 39 #[vi n] g s (fun r g' s'=>s = s' ∧ Le g g' ∧ ∃ x,r = .agg #[x] ∧ Cells g' x (polyC n)):=by
 have hnn : ((n : Nat) : Int) ≠ 0:=oM
 refine Ctr.of (args:=[vi n]) func39 I ntmps39 (bE I) ?_
 refine SC.sR (SL.bx (aL zeroValue31) fun b2=>?_)
 refine SL.nT (SC.sR (SL.bx (aL zeroValue31) fun b3=>?_))
 refine SL.nT (sQ (SC.sR (lA I (SL.nT (bK (SC.nilRow 40 3 ?_))))))
 refine oP (ι:=Value × List Rc × Nat) (fun i=>[(0,vi n),(2,pp b2 0),(3,pp b3 0),(4,vi i.2.2)]) (fun _=>g)
  (fun i=>rowA encCell 40 i.1 i.2.1 :: pt b3 (.cells #[i.1] 31 (0,0)) :: pt b2 (.cells #[.slice none 0 0] 31 (0,0)) :: s)
  (fun i=>i.2.2 ≤ n ∧ All2 (CellR g) (polyV i.2.2) i.2.1) (fun i=>n - i.2.2)
  (.slice none 0 0,[],0) sB rfl rfl ⟨Nat.zero_le _,trivial⟩ ?_
 rintro ⟨ov,rcs,i⟩ ⟨hi,hrcs⟩
 dsimp only at hi hrcs ⊢
 have hrl:=hrcs.length
 simp only [polyV,List.length_map,List.length_range] at hrl
 refine sQ (SC.sR (lM I (lM I (lU (lS I I) (SL.nT ?_)))))
 refine iP I (fun hlt=>?_) (fun hlt=>?_)
 ·refine kP (tN (sQ (bK (rG (lU (fA uT31 I zT29 I) (lK (qL (v:=ov) iT29 I (cO 1 I I)) (lM I (lU (aD I I oM) (lU (SU.build I (buildD40 _)) (lW (bS sty29 I I I (szs_mk sB) dC) ?_))))))))))
  rintro _ _ _ ⟨b19,rfl,rfl,rfl⟩
  refine lW (aP (e:=encCell) 0 ⟨(i : Int) + 1,0,⟨none,0,0⟩⟩ sty29 I I I I I oM oM) ?_
  rintro v20 _ _ ⟨rfl,rfl⟩
  refine SL.facts fun ⟨w0,hw0⟩=>?_
  obtain ⟨q9,d9,rfl⟩:=rowA_form (i:=0) hw0 rfl
  clear hw0 w0
  refine lU (fA uT31 I zT29 I) (SL.O2 (sK 1 zT29 I I I I I sB) ?_)
  refine nL (bN (tN (rG (lM I (lU (aD I I oM) (lA I (nL ?_)))))))
  refine gA (_,rcs ++ [⟨(i : Int) + 1,0,⟨none,0,0⟩⟩],i + 1) sB I I ⟨lN,?_⟩ lN
  dsimp only
  rw [polyV_succ]
  exact hrcs.append ⟨⟨I,I,Sl.nil _ _⟩,trivial⟩
 ·have hin : i = n:=oM
  subst hin
  refine xI (tX (tX (bX (tN (SC.sR (lA I (SL.nT (sQ (SC.sR (lA I (SL.nT (bK (SC.nilRow 42 2 ?_)))))))))))))
  refine oP (ι:=PH × Value × List Rc × Value × Nat) (fun k=>[(0,vi i),(2,pp b2 0),(3,pp b3 0),(5,k.2.2.2.1),(6,vi k.2.2.2.2)]) (fun k=>k.1)
   (fun k=>rowA encSide 42 k.2.2.2.1 (polyS i k.2.2.2.2) :: rowA encCell 40 k.2.1 k.2.2.1 :: pt b3 (.cells #[k.2.1] 31 (0,0)) :: pt b2 (.cells #[.slice none 0 0] 31 (0,0)) :: s)
   (fun k=>Le g k.1 ∧ k.2.2.2.2 ≤ i ∧ All2 (CellR k.1) (polyV i ++ polyE i k.2.2.2.2) k.2.2.1) (fun k=>i - k.2.2.2.2)
   (g,ov,rcs,.slice none 0 0,0) sB rfl rfl ⟨Le.refl g,Nat.zero_le _,by simpa [polyE] using hrcs⟩ ?_
  rintro ⟨g1,ov1,rcs1,sv,k⟩ ⟨hle1,hk,hrcs1⟩
  dsimp only at hle1 hk hrcs1 ⊢
  have hrl1:=hrcs1.length
  simp only [polyV,polyE,List.length_append,List.length_map,List.length_range] at hrl1
  have hsl:=polyS_length i k
  refine sQ (SC.sR (lM I (lM I (lU (lS I I) (SL.nT ?_)))))
  refine iP I (fun hlt2=>?_) (fun hlt2=>?_)
  ·have hkm : 0 ≤ ((k : Int) + 1).tmod i ∧ ((k : Int) + 1).tmod i < i:=by
    rw [Int.tmod_eq_emod_of_nonneg oM]
    exact ⟨Int.emod_nonneg _ hnn,Int.emod_lt_of_pos _ oM⟩
   refine kP (tN (sQ (bK (SC.sR (lM I (lU (aD I I oM) (lU (SU.build I (buildS42 _ _)) (SL.bx (aL zeroValue42) fun b7=>?_))))))))
   refine SL.O2 (sK 0 zT42 I I I I I sB) ?_
   refine SL.nT (SC.sR (lM I (lU (aD I I oM) (lM I (lU (SU.rem I I hnn) (lU (aD I I oM) (lU (SU.build I (buildS42 _ _)) (SL.bx (aL zeroValue42) fun b8=>?_))))))))
   refine SL.O2 (sK 0 zT42 I I I I I sB) ?_
   refine SL.nT (sQ ?_)
   refine SC.to (fun w hw=>hw) (g':=g1) (s':=pt b8 (.cells #[vi (((k : Int) + 1).tmod i + 1),vi 1] 42 (0,0)) :: pt b7 (.cells #[vi ((k : Int) + 1),vi (-1)] 42 (0,0)) :: rowA encSide 42 sv (polyS i k) :: rowA encCell 40 ov1 rcs1 :: pt b3 (.cells #[ov1] 31 (0,0)) :: pt b2 (.cells #[.slice none 0 0] 31 (0,0)) :: s) ?_
   refine rG (lU (fA uT31 I zT29 I) (lK (qL (v:=ov1) iT29 I (cO 4 I I)) (lM I (lM I (lU (aD I I oM) (lU (aD I I oM) (lK (qV 1 iT42 zT42 I I I) (lK (qV 0 iT42 zT42 I I I) (lW (bS sty38 I I I (szs_mk sB) dC) ?_)))))))))
   rintro _ _ _ ⟨b44,rfl,rfl,rfl⟩
   refine SL.freeze fun g2 hle2 hb44=>?_
   have hsd : SlA encSide g2 (.slice (some ⟨b44,0,none⟩) 2 2) [⟨(k : Int) + 1,-1⟩,⟨((k : Int) + 1).tmod i + 1,1⟩]:=SlA.lit hb44 rfl rfl
   refine lU (SU.build I (buildF40 _ _ _ I)) (lW (bS sty29 I I I (szs_mk sB) dC) ?_)
   rintro _ _ _ ⟨b46,rfl,rfl,rfl⟩
   refine lW (aP (e:=encCell) 3 ⟨(i : Int) + k + 1,1,⟨some ⟨b44,0,none⟩,2,2⟩⟩ sty29 I I I I I oM oM) ?_
   rintro v47 _ _ ⟨rfl,rfl⟩
   refine SL.facts fun ⟨w0,hw0⟩=>?_
   obtain ⟨q9,d9,rfl⟩:=rowA_form (i:=3) hw0 rfl
   clear hw0 w0
   refine lU (fA uT31 I zT29 I) (SL.O2 (sK 4 zT29 I I I I I sB) ?_)
   refine SL.nT (rG (lM I (lM I (lM I (lU (aD I I oM) (lU (aD I I oM) (lU (SU.build I (buildS42 _ _)) (lW (bS sty38 I I I (szs_mk sB) dC) ?_))))))))
   rintro _ _ _ ⟨b55,rfl,rfl,rfl⟩
   refine lW (aP (e:=encSide) 2 ⟨(i : Int) + k + 1,1⟩ sty38 I I I I I oM oM) ?_
   rintro v56 _ _ ⟨rfl,rfl⟩
   refine lA I (nL (bN (tN (rG (lM I (lU (aD I I oM) (lA I (nL (dR (s':=rowA encSide 42 v56 (polyS i k ++ [⟨(i : Int) + k + 1,1⟩]) :: rowA encCell 40 (.slice q9 (rcs1 ++ [(⟨(i : Int) + k + 1,1,⟨some ⟨b44,0,none⟩,2,2⟩⟩ : Rc)]).length d9) (rcs1 ++ [⟨(i : Int) + k + 1,1,⟨some ⟨b44,0,none⟩,2,2⟩⟩]) :: pt b3 (.cells #[.slice q9 (rcs1 ++ [(⟨(i : Int) + k + 1,1,⟨some ⟨b44,0,none⟩,2,2⟩⟩ : Rc)]).length d9] 31 (0,0)) :: pt b2 (.cells #[.slice none 0 0] 31 (0,0)) :: s) (.cons _ (.cons _ (.refl _))) ?_)))))))))
   rw [← polyS_succ]
   refine gA (g2,_,rcs1 ++ [⟨(i : Int) + k + 1,1,⟨some ⟨b44,0,none⟩,2,2⟩⟩],v56,k + 1) sB I I ⟨hle1.trans hle2,lN,?_⟩ lN
   dsimp only
   rw [polyE_succ,← List.append_assoc]
   exact (hrcs1.mono fun _ _=>CellR.mono hle2).append ⟨⟨I,I,hsd⟩,trivial⟩
  ·have hki : k = i:=oM
   subst hki
   refine xI (tX (tX (bX (tN (sQ (fS fun g2 hle2 hs2=>?_))))))
   have hsd : SlA encSide g2 sv (polyS k k):=hs2
   obtain ⟨qs,ds,rfl⟩:=SlA.form hsd
   have hrcs2:=hrcs1.mono fun _ _=>CellR.mono hle2
   refine rG (lU (fA uT31 I zT29 I) (lK (qL (v:=ov1) iT29 I (cO 1 I I)) (lM I (lU (SU.mul I I oM) (lU (aD I I oM) (lM I (lU (SU.build I (buildF40 _ _ _ I)) (lW (bS sty29 I I I (szs_mk sB) dC) ?_))))))))
   rintro _ _ _ ⟨b64,rfl,rfl,rfl⟩
   refine lW (aP (e:=encCell) 0 ⟨2 * (k : Int) + 1,2,⟨qs,(polyS k k).length,ds⟩⟩ sty29 I I I I I oM oM) ?_
   rintro v65 _ _ ⟨rfl,rfl⟩
   refine SL.facts fun ⟨w0,hw0⟩=>?_
   obtain ⟨q9,d9,rfl⟩:=rowA_form (i:=0) hw0 rfl
   clear hw0 w0
   refine lU (fA uT31 I zT29 I) (SL.O2 (sK 1 zT29 I I I I I sB) ?_)
   refine SL.nT (sQ (SC.sR (lM I (lU (SU.rem I I dC) (lU (eQ I I) (SL.nT ?_))))))
   have hrcs3 : All2 (CellR g2) (polyV k ++ polyE k k ++ [⟨2 * (k : Int) + 1,2,polyS k k⟩]) (rcs1 ++ [⟨2 * (k : Int) + 1,2,⟨qs,(polyS k k).length,ds⟩⟩]):=hrcs2.append ⟨⟨rfl,rfl,hsd⟩,trivial⟩
   obtain ⟨rc3,hrc3⟩ : ∃ rc3,rc3 = rcs1 ++ [(⟨2 * (k : Int) + 1,2,⟨qs,(polyS k k).length,ds⟩⟩ : Rc)]:=⟨_,rfl⟩
   have hrc3l : rc3.length = rcs1.length + 1:=by rw [hrc3]; simp
   rw [← hrc3] at hrcs3 ⊢
   have hfit:=(polyAll_fits h6).1
   refine iP I (fun hev=>?_) (fun hev=>?_)
   ·have hall : polyAll k = polyV k ++ polyE k k ++ [⟨2 * (k : Int) + 1,2,polyS k k⟩] ++ [⟨2 * (k : Int) + 2,2,polyS k k⟩]:=by unfold polyAll; rw [if_pos hev]
    refine dW [10,11,12] [(0,2),(1,1),(2,2),(3,2),(4,2),(6,2),(5,0),(7,0),(8,2),(9,0),(10,0),(11,0),(12,0)] Tryz.mixed (by kernel_rfl) ?_
    refine pU rfl (fA uT31 rfl zT29 rfl) (pK rfl (qL (v:=.slice q9 rc3.length d9) iT29 rfl (cO 1 rfl rfl)) (pU rfl (mV rfl) (pU rfl (SU.mul rfl rfl oM) (pU rfl (aD rfl rfl oM) (pU rfl (mV rfl) (SP.o rfl (bS sty38 rfl rfl rfl (szs_mk trivial) dC) dC (.inr (by rintro _ _ _ ⟨b75,rfl,rfl,rfl⟩; exact ⟨by exact Le.refl _,(by exact .cons _ (.refl _))⟩)) ?_))))))
    rintro _ _ _ ⟨b75,rfl,rfl,rfl⟩
    refine SP.to (fun w hw=>(hw.sublist (List.Sublist.cons _ (.refl _))).emptyRow 42 2 (some ⟨b75,0,none⟩)) ?_
    refine SP.o rfl (aQ (e:=encSide) (l:=[]) 0 sty38 rfl rfl rfl hsd lN lN) dC (.inr (by rintro v77 _ _ ⟨rfl,rfl⟩; exact ⟨by exact Le.refl _,(by exact .cons _ (.refl _))⟩)) ?_
    rintro v77 _ _ ⟨rfl,rfl⟩
    refine SP.freezeRow fun g77 hle77 hs77=>?_
    have hsd2 : SlA encSide g77 v77 ([] ++ polyS k k):=hs77
    rw [List.nil_append] at hsd2
    obtain ⟨q77,d77,rfl⟩:=SlA.form hsd2
    refine pU rfl (SU.build rfl (buildF40 _ _ _ rfl)) (SP.o rfl (bS sty29 rfl rfl rfl (szs_mk sB) dC) dC (.inr (by rintro _ _ _ ⟨b79,rfl,rfl,rfl⟩; exact ⟨by assumption,(by exact .cons _ (.refl _))⟩)) ?_)
    rintro _ _ _ ⟨b79,rfl,rfl,rfl⟩
    refine SP.o I (aP (e:=encCell) (l:=rc3) 0 ⟨2 * (k : Int) + 2,2,⟨q77,(polyS k k).length,d77⟩⟩ sty29 I I I I I oM oM) dC (.inl dC) ?_
    rintro v80 _ _ ⟨rfl,rfl⟩
    refine SP.facts fun ⟨w0,hw0⟩=>?_
    obtain ⟨q10,d10,rfl⟩:=rowA_form (i:=0) hw0 rfl
    clear hw0 w0
    refine oU I (fA uT31 I zT29 I) dC (.inl dC) (SP.on I (sK 1 zT29 I I I I I sB) (.inl dC) ?_)
    rintro _ _ _ ⟨rfl,rfl⟩
    refine pN (tN (sQ (fS fun g78 hle78 hs78=>?_)))
    have hov : Cells g78 (.slice q10 (rc3 ++ [(⟨2 * (k : Int) + 2,2,⟨q77,(polyS k k).length,d77⟩⟩ : Rc)]).length d10) (polyAll k):=(by rw [hall]; exact ⟨_,hs78,(hrcs3.mono fun _ _=>CellR.mono (hle77.trans hle78)).append ⟨⟨rfl,rfl,hsd2.mono hle78⟩,trivial⟩⟩)
    refine rG (lK (qV 0 iT31 zT31 I I I) (lW (cL call44 I (refCanon_spec E g78 _ _ (polyAll k) hov hfit)) ?_))
    rintro _ g79 _ ⟨rfl,hle79,x79,rfl,hx79⟩
    obtain ⟨q79,d79,rfl⟩:=hx79.form
    refine SL.O2 (sK 1 zT31 I I I I I sB) ?_
    refine SL.nT (rE ?_)
    exact ST.retCD 1 s (.inl I) results39 I iT31 zT31 I I (.cons _ (.cons _ (.refl _))) ⟨I,hle1.trans (hle2.trans (hle77.trans (hle78.trans hle79))),_,I,hx79⟩
   ·have hall : polyAll k = polyV k ++ polyE k k ++ [⟨2 * (k : Int) + 1,2,polyS k k⟩]:=by unfold polyAll; rw [if_neg hev,List.append_nil]
    refine kP (tN (sQ (fS fun g78 hle78 hs78=>?_)))
    have hov : Cells g78 (.slice q9 rc3.length d9) (polyAll k):=(by rw [hall]; exact ⟨_,hs78,hrcs3.mono fun _ _=>CellR.mono hle78⟩)
    refine rG (lK (qV 0 iT31 zT31 I I I) (lW (cL call44 I (refCanon_spec E g78 _ _ (polyAll k) hov hfit)) ?_))
    rintro _ g79 _ ⟨rfl,hle79,x79,rfl,hx79⟩
    obtain ⟨q79,d79,rfl⟩:=hx79.form
    refine SL.O2 (sK 1 zT31 I I I I I sB) ?_
    refine SL.nT (rE ?_)
    exact ST.retCD 1 s (.inl I) results39 I iT31 zT31 I I (.cons _ (.cons _ (.refl _))) ⟨I,hle1.trans (hle2.trans (hle78.trans hle79)),_,I,hx79⟩
theorem modW_range (a b : Int) (h0 : 0 < b) (h1 : b ≤ 1000) : 0 ≤ modW a b ∧ modW a b < b:=by
 have h2 : a.tmod b < b:=Int.tmod_lt_of_pos a h0
 have h3 : -b < a.tmod b:=by
  have:=Int.lt_tmod_of_pos a h0
  omega
 unfold modW
 rw [IntWalk.i64_in _ oM,Int.tmod_eq_emod_of_nonneg oM]
 exact ⟨Int.emod_nonneg _ oM,Int.emod_lt_of_pos _ h0⟩
def renK (y : Int) : Int:=1 + 2 * modW (IntKind.i64.wrap (y.tdiv 7)) 3
def renT (y : Int) : Int:=modW (IntKind.i64.wrap (y.tdiv 5)) 4
def turn1 (t : Int) (x : Cl) : Bool:=decide (t > 1) && decide (x.id.tmod t = 1)
def turn2 (t : Int) (x : Cl) (q : Int) : Bool:=(decide (t > 1) && decide (x.dim > 1)) && decide (q.tmod t = 1)
def negIf (b : Bool) (a : Int) : Int:=if b then IntKind.i64.wrap (0 - a) else a
def renSide (k t : Int) (x : Cl) (q : Side) : Side:=⟨mixC q.cell k,negIf (turn2 t x q.cell) (negIf (turn1 t x) q.sign)⟩
def renCell (k t : Int) (x : Cl) : Cl:=⟨mixC x.id k,x.dim,x.sides.map (renSide k t x)⟩
def renC (l : List Cl) (y : Int) : List Cl:=canonC (l.map (renCell (renK y) (renT y)))
theorem ren_fits {l : List Cl} (h : Fits l) (k t : Int) : Fits (l.map (renCell k t)):=by
 refine ⟨by simpa using h.1,fun c hc=>?_⟩
 obtain ⟨x,hx,rfl⟩:=List.mem_map.1 hc
 simpa [renCell] using h.2 x hx
theorem renumbered_spec (E : World) (g : PH) (s : Own) (v : Value) (l : List Cl) (y : Int) (hv : Cells g v l) (hf : Fits l) :
  Ctr Tryz.prog E 41 #[.agg #[v],vi y] g s (fun r g' s'=>s = s' ∧ Le g g' ∧ ∃ x,r = .agg #[x] ∧ Cells g' x (renC l y)):=by
 obtain ⟨rs,hrs,hall⟩:=hv
 have el:=hall.length
 obtain ⟨p,c,rfl⟩:=hrs.form
 have hll:=hf.1
 have hk3:=modW_range (IntKind.i64.wrap (y.tdiv 7)) 3 dC dC
 have ht4:=modW_range (IntKind.i64.wrap (y.tdiv 5)) 4 dC dC
 refine Ctr.of (args:=[.agg #[.slice p rs.length c],vi y]) func41 I ntmps41 (bE I) ?_
 refine SC.sR (SL.bx (bO I) fun b2=>?_)
 refine SL.bx (aL zeroValue31) fun b4=>?_
 refine SL.nT (SC.sR (lM I (lU (SU.quo I I dC) (lW (cL kT34 I (mod_spec E g _ _ 3 dC)) ?_))))
 rintro _ _ _ ⟨rfl,rfl,rfl⟩
 refine lU (SU.mul I I oM) (lU (aD I I oM) (lA I (SL.nT (SC.sR (lM I (lU (SU.quo I I dC) (lW (cL kT34 I (mod_spec E g _ _ 4 dC)) ?_)))))))
 rintro _ _ _ ⟨rfl,rfl,rfl⟩
 refine lA I (SL.nT (SC.sR (SL.bx (aL zeroValue31) fun b7=>?_)))
 refine SL.nT (sQ (SC.sR (lA I (SL.nT (bK (SC.nilRow 40 3 ?_))))))
 have hke : 1 + 2 * modW (IntKind.i64.wrap (y.tdiv 7)) 3 = renK y:=rfl
 have hte : modW (IntKind.i64.wrap (y.tdiv 5)) 4 = renT y:=rfl
 rw [hte] at ht4
 unfold renC
 simp only [hke,hte]
 generalize renK y = k at *
 generalize renT y = t at *
 refine oP (ι:=PH × Value × List Rc × Nat) (fun i=>[(2,pp b2 0),(4,pp b4 0),(5,vi k),(6,vi t),(7,pp b7 0),(8,vi i.2.2.2)]) (fun i=>i.1) (fun i=>rowA encCell 40 i.2.1 i.2.2.1 :: pt b7 (.cells #[i.2.1] 31 (0,0)) :: pt b4 (.cells #[.slice none 0 0] 31 (0,0)) :: pt b2 (.cells #[.slice p rs.length c] 31 (0,0)) :: s)
  (fun i=>Le g i.1 ∧ i.2.2.2 ≤ rs.length ∧ All2 (CellR i.1) ((l.take i.2.2.2).map (renCell k t)) i.2.2.1) (fun i=>rs.length - i.2.2.2)
  (g,.slice none 0 0,[],0) sB rfl rfl ⟨Le.refl g,Nat.zero_le _,trivial⟩ ?_
 rintro ⟨g1,ov,rcs,i⟩ ⟨hle,hi,hrcs⟩
 dsimp only at hle hi hrcs ⊢
 have hrl:=hrcs.length
 rw [List.length_map,List.length_take] at hrl
 refine sQ (SC.sR (lM I (lU (fA uT31 I zT29 I) (lK (qL (v:=.slice p rs.length c) iT29 I (cO 3 I I)) (lU (eN uT29 I) (lU (lS I I) (SL.nT ?_)))))))
 refine iP I (fun hlt=>?_) (fun hlt=>?_)
 ·have hil : i < l.length:=oM
  have hir : i < rs.length:=oM
  have hb1:=hrs.based oM
  have hxr:=(hall.get (gE hil) (gE hir)).mono hle
  have hgx : rs[((i : Nat) : Int).toNat]? = some rs[i]:=gE hir
  have hsucc:=map_take_succ hil (renCell k t)
  have hxl:=hf.2 _ (gM hil)
  generalize hxe : l[i] = x at *
  obtain ⟨xp,xcap,hrx,hxs⟩:=cellR_form hxr
  rw [hrx] at hgx
  refine kP (tN (sQ (bK (SC.sR (lU (fA uT31 I zT29 I) (lK (qL (v:=.slice p rs.length c) iT29 I (cO 3 I I)) (lM I (lU (iA uT29 zT40 I I hb1 oM sL) (lK (eA iT40 zT40 I (hrs.mono hle).rd hgx) (SL.bx (aL zeroValue40) fun b9=>?_))))))))))
  refine SL.O2 (sK 0 zT40 I I I I I sB) ?_
  refine SL.nT ?_
  refine SC.to (fun w hw=>hw) (g':=g1) (s':=pt b9 (.cells #[vi x.id,vi x.dim,.slice xp x.sides.length xcap] 40 (0,0)) :: rowA encCell 40 ov rcs :: pt b7 (.cells #[ov] 31 (0,0)) :: pt b4 (.cells #[.slice none 0 0] 31 (0,0)) :: pt b2 (.cells #[.slice p rs.length c] 31 (0,0)) :: s) ?_
  refine SC.cut (ι:=Nat) (fun b10=>[(2,pp b2 0),(4,pp b4 0),(5,vi k),(6,vi t),(7,pp b7 0),(8,vi i),(9,pp b9 0),(10,pp b10 0)]) (fun _=>g1) (fun b10=>pt b10 (.cells #[vi (mixC x.id k),vi x.dim,.slice none 0 0] 40 (0,0)) :: pt b9 (.cells #[vi x.id,vi x.dim,.slice xp x.sides.length xcap] 40 (0,0)) :: rowA encCell 40 ov rcs :: pt b7 (.cells #[ov] 31 (0,0)) :: pt b4 (.cells #[.slice none 0 0] 31 (0,0)) :: pt b2 (.cells #[.slice p rs.length c] 31 (0,0)) :: s) (fun _=>True) ?_ ?_
  ·refine SC.drawX [] Tryz.mixed (by kernel_rfl) ?_
   refine SX.u (i:=0) I (by kernel_rfl) (fA uT40 I zT3 I) dC (SX.q (i:=1) I (by kernel_rfl) (qL (v:=vi x.id) iT3 I (cO 0 I I)) dC (SX.u (i:=2) I (by kernel_rfl) (mV I) dC (SX.u (i:=4) I (by kernel_rfl) (fA uT40 I zT3 I) dC (SX.q (i:=5) I (by kernel_rfl) (qL (v:=vi x.dim) iT3 I (cO 0 I I)) dC ?_))))
   refine SX.br2 3 7 (by kernel_rfl) ?_ ?_
   ·refine SB.o (i:=3) rfl (cL call104 rfl (mixed_spec E g1 _ x.id k)) dC (.inr (by rintro _ _ _ ⟨rfl,rfl,rfl⟩; exact ⟨by exact Le.refl _,(by exact .refl _)⟩)) ?_
    rintro _ _ _ ⟨rfl,rfl,rfl⟩
    refine SX.u (i:=6) I (by kernel_rfl) (SU.build I (buildC40 _ _)) dC ?_
    refine SX.br1 7 (by kernel_rfl) ?_
    ·refine SB.o (i:=7) rfl (aL zeroValue40) dC (.inr (by rintro _ _ _ ⟨b10,rfl,rfl,rfl⟩; exact ⟨by exact Le.refl _,(by exact .cons _ (.refl _))⟩)) ?_
     rintro _ _ _ ⟨b10,rfl,rfl,rfl⟩
     refine SX.br1 8 (by kernel_rfl) ?_
     ·refine SB.on (i:=8) rfl (sK 0 zT40 rfl rfl rfl rfl rfl sB) (.inr (by rintro _ _ _ ⟨rfl,rfl⟩; exact ⟨by exact Le.refl _,(by exact .cons _ (.refl _))⟩)) ?_
      rintro _ _ _ ⟨rfl,rfl⟩
      refine SX.nil (by kernel_rfl) ?_
      exact ST.mid b10 sB I I trivial
   ·refine SB.o (i:=7) rfl (aL zeroValue40) dC (.inr (by rintro _ _ _ ⟨b10,rfl,rfl,rfl⟩; exact ⟨by exact Le.refl _,(by exact .cons _ (.refl _))⟩)) ?_
    rintro _ _ _ ⟨b10,rfl,rfl,rfl⟩
    refine SX.br1 3 (by kernel_rfl) ?_
    ·refine SB.o (i:=3) rfl (cL call104 rfl (mixed_spec E g1 _ x.id k)) dC (.inr (by rintro _ _ _ ⟨rfl,rfl,rfl⟩; exact ⟨by exact Le.refl _,(by exact .cons _ (.refl _))⟩)) ?_
     rintro _ _ _ ⟨rfl,rfl,rfl⟩
     refine SX.u (i:=6) I (by kernel_rfl) (SU.build I (buildC40 _ _)) dC ?_
     refine SX.br1 8 (by kernel_rfl) ?_
     ·refine SB.on (i:=8) rfl (sK 0 zT40 rfl rfl rfl rfl rfl sB) (.inr (by rintro _ _ _ ⟨rfl,rfl⟩; exact ⟨by exact Le.refl _,(by exact .cons _ (.refl _))⟩)) ?_
      rintro _ _ _ ⟨rfl,rfl⟩
      refine SX.nil (by kernel_rfl) ?_
      exact ST.mid b10 sB I I trivial
  rintro b10 -
  try dsimp only
  refine SC.nilRow 42 2 (sQ (SC.sR (lA I (SL.nT (bK ?_)))))
  refine oP (ι:=Value × Nat) (fun j=>[(2,pp b2 0),(4,pp b4 0),(5,vi k),(6,vi t),(7,pp b7 0),(8,vi i),(9,pp b9 0),(10,pp b10 0),(11,vi j.2)]) (fun _=>g1) (fun j=>rowA encSide 42 j.1 ((x.sides.take j.2).map (renSide k t x)) :: pt b10 (.cells #[vi (mixC x.id k),vi x.dim,j.1] 40 (0,0)) :: pt b9 (.cells #[vi x.id,vi x.dim,.slice xp x.sides.length xcap] 40 (0,0)) :: rowA encCell 40 ov rcs :: pt b7 (.cells #[ov] 31 (0,0)) :: pt b4 (.cells #[.slice none 0 0] 31 (0,0)) :: pt b2 (.cells #[.slice p rs.length c] 31 (0,0)) :: s)
   (fun j=>j.2 ≤ x.sides.length) (fun j=>x.sides.length - j.2) (.slice none 0 0,0) sB rfl rfl (Nat.zero_le _) ?_
  rintro ⟨sv,j⟩ hj
  dsimp only at hj ⊢
  refine sQ (SC.sR (lM I (lU (fA uT40 I zT38 I) (lK (qL (v:=.slice xp x.sides.length xcap) iT38 I (cO 2 I I)) (lU (eN uT38 I) (lU (lS I I) (SL.nT ?_)))))))
  refine iP I (fun hlt2=>?_) (fun hlt2=>?_)
  ·have hjl : j < x.sides.length:=oM
   have hb3:=hxs.based oM
   have hjx : x.sides[((j : Nat) : Int).toNat]? = some x.sides[j]:=gE hjl
   have hjs:=map_take_succ hjl (renSide k t x)
   generalize x.sides[j] = z at *
   refine kP (tN (sQ (bK ?_)))
   refine SC.cut (ι:=Nat) (fun b12=>[(2,pp b2 0),(4,pp b4 0),(5,vi k),(6,vi t),(7,pp b7 0),(8,vi i),(9,pp b9 0),(10,pp b10 0),(11,vi j),(12,pp b12 0)]) (fun _=>g1) (fun b12=>pt b12 (.cells #[vi (mixC z.cell k),vi z.sign] 42 (0,0)) :: rowA encSide 42 sv ((x.sides.take j).map (renSide k t x)) :: pt b10 (.cells #[vi (mixC x.id k),vi x.dim,sv] 40 (0,0)) :: pt b9 (.cells #[vi x.id,vi x.dim,.slice xp x.sides.length xcap] 40 (0,0)) :: rowA encCell 40 ov rcs :: pt b7 (.cells #[ov] 31 (0,0)) :: pt b4 (.cells #[.slice none 0 0] 31 (0,0)) :: pt b2 (.cells #[.slice p rs.length c] 31 (0,0)) :: s) (fun _=>True) ?_ ?_
   ·refine SC.drawX [] Tryz.mixed (by kernel_rfl) ?_
    refine SX.u (i:=0) I (by kernel_rfl) (fA uT40 I zT38 I) dC (SX.q (i:=1) I (by kernel_rfl) (qL (v:=.slice xp x.sides.length xcap) iT38 I (cO 2 I I)) dC (SX.u (i:=2) I (by kernel_rfl) (mV I) dC (SX.u (i:=3) I (by kernel_rfl) (iA uT38 zT42 I I hb3 oM sL) dC (SX.u (i:=4) I (by kernel_rfl) (fC uT42 I zT3 I hb3) dC (SX.q (i:=5) I (by kernel_rfl) (pA (e:=encSide) (o:=0) (u:=vi z.cell) iT3 I hxs.rd hjx I) dC (SX.u (i:=6) I (by kernel_rfl) (mV I) dC (SX.u (i:=8) I (by kernel_rfl) (fA uT40 I zT38 I) dC (SX.q (i:=9) I (by kernel_rfl) (qL (v:=.slice xp x.sides.length xcap) iT38 I (cO 2 I I)) dC (SX.u (i:=10) I (by kernel_rfl) (mV I) dC (SX.u (i:=11) I (by kernel_rfl) (iA uT38 zT42 I I hb3 oM sL) dC (SX.u (i:=12) I (by kernel_rfl) (fC uT42 I zT3 I hb3) dC (SX.q (i:=13) I (by kernel_rfl) (pA (e:=encSide) (o:=1) (u:=vi z.sign) iT3 I hxs.rd hjx I) dC ?_))))))))))))
    refine SX.br2 7 15 (by kernel_rfl) ?_ ?_
    ·refine SB.o (i:=7) rfl (cL call104 rfl (mixed_spec E g1 _ z.cell k)) dC (.inr (by rintro _ _ _ ⟨rfl,rfl,rfl⟩; exact ⟨by exact Le.refl _,(by exact .refl _)⟩)) ?_
     rintro _ _ _ ⟨rfl,rfl,rfl⟩
     refine SX.u (i:=14) I (by kernel_rfl) (SU.build I (buildS42 _ _)) dC ?_
     refine SX.br1 15 (by kernel_rfl) ?_
     ·refine SB.o (i:=15) rfl (aL zeroValue42) dC (.inr (by rintro _ _ _ ⟨b12,rfl,rfl,rfl⟩; exact ⟨by exact Le.refl _,(by exact .cons _ (.refl _))⟩)) ?_
      rintro _ _ _ ⟨b12,rfl,rfl,rfl⟩
      refine SX.br1 16 (by kernel_rfl) ?_
      ·refine SB.on (i:=16) rfl (sK 0 zT42 rfl rfl rfl rfl rfl sB) (.inr (by rintro _ _ _ ⟨rfl,rfl⟩; exact ⟨by exact Le.refl _,(by exact .cons _ (.refl _))⟩)) ?_
       rintro _ _ _ ⟨rfl,rfl⟩
       refine SX.nil (by kernel_rfl) ?_
       exact ST.mid b12 sB I I trivial
    ·refine SB.o (i:=15) rfl (aL zeroValue42) dC (.inr (by rintro _ _ _ ⟨b12,rfl,rfl,rfl⟩; exact ⟨by exact Le.refl _,(by exact .cons _ (.refl _))⟩)) ?_
     rintro _ _ _ ⟨b12,rfl,rfl,rfl⟩
     refine SX.br1 7 (by kernel_rfl) ?_
     ·refine SB.o (i:=7) rfl (cL call104 rfl (mixed_spec E g1 _ z.cell k)) dC (.inr (by rintro _ _ _ ⟨rfl,rfl,rfl⟩; exact ⟨by exact Le.refl _,(by exact .cons _ (.refl _))⟩)) ?_
      rintro _ _ _ ⟨rfl,rfl,rfl⟩
      refine SX.u (i:=14) I (by kernel_rfl) (SU.build I (buildS42 _ _)) dC ?_
      refine SX.br1 16 (by kernel_rfl) ?_
      ·refine SB.on (i:=16) rfl (sK 0 zT42 rfl rfl rfl rfl rfl sB) (.inr (by rintro _ _ _ ⟨rfl,rfl⟩; exact ⟨by exact Le.refl _,(by exact .cons _ (.refl _))⟩)) ?_
       rintro _ _ _ ⟨rfl,rfl⟩
       refine SX.nil (by kernel_rfl) ?_
       exact ST.mid b12 sB I I trivial
   rintro b12 -
   try dsimp only
   have e1 : t > 1 → turn1 t x = decide (x.id.tmod t = 1):=fun h=>by simp [turn1,h]
   have e2 : ¬ t > 1 → turn1 t x = false:=fun h=>by simp only [turn1,h,decide_false,Bool.false_and]
   have e3 : t > 1 → x.dim > 1 → turn2 t x z.cell = decide (z.cell.tmod t = 1):=fun h h'=>by simp [turn2,h,h']
   have e4 : t > 1 → ¬ x.dim > 1 → turn2 t x z.cell = false:=fun h h'=>by simp only [turn2,h',decide_false,Bool.and_false,Bool.false_and]
   have e5 : ¬ t > 1 → turn2 t x z.cell = false:=fun h=>by simp only [turn2,h,decide_false,Bool.false_and]
   refine SC.cut (ι:=Int) (fun _=>[(2,pp b2 0),(4,pp b4 0),(5,vi k),(6,vi t),(7,pp b7 0),(8,vi i),(9,pp b9 0),(10,pp b10 0),(11,vi j),(12,pp b12 0)]) (fun _=>g1) (fun sg=>pt b12 (.cells #[vi (mixC z.cell k),vi sg] 42 (0,0)) :: rowA encSide 42 sv ((x.sides.take j).map (renSide k t x)) :: pt b10 (.cells #[vi (mixC x.id k),vi x.dim,sv] 40 (0,0)) :: pt b9 (.cells #[vi x.id,vi x.dim,.slice xp x.sides.length xcap] 40 (0,0)) :: rowA encCell 40 ov rcs :: pt b7 (.cells #[ov] 31 (0,0)) :: pt b4 (.cells #[.slice none 0 0] 31 (0,0)) :: pt b2 (.cells #[.slice p rs.length c] 31 (0,0)) :: s) (fun sg=>sg = negIf (turn1 t x) z.sign) ?_ ?_
   ·refine SC.cutB 69 ((turn1 t x)) ?_ ?_
    ·refine rG (lM I (lU (gR I I) (lM I ?_)))
     refine sP ?_ ?_
     ·intro h64
      refine lY I I I (fA uT40 I zT3 I) (SL.gq (gT I I I dC) (qL (v:=vi x.id) iT3 I (cO 3 I I)) dC (lY I I I (mV I) (SL.go (gT I I I dC) (cL call105 I (turned_spec E g1 _ x.id t oM)) dC ?_)))
      rintro _ _ _ ⟨rfl,rfl,rfl⟩
      refine lU (pT I I) (nL ?_)
      exact ST.mid1 (by (rw [e1 h64]; rfl)) mI
     ·intro h64
      refine lZ I I I (lZ I I I (lZ I I I (lZ I I I (lU (pF I I) (nL ?_)))))
      exact ST.mid1 (by (rw [e2 h64]; rfl)) mI
    refine iQ I (fun hq1=>?_) (fun hq1=>?_)
    ·refine rG (lU (fA uT42 rfl zT3 rfl) (lK (qL (v:=vi z.sign) iT3 rfl (cO 0 rfl rfl)) (lU (SU.neg rfl) (lU (fA uT42 rfl zT3 rfl) (SL.O2 (SO.store1 0 zT3 rfl rfl rfl rfl (bE rfl) (by rfl)) ?_)))))
     refine nL ?_
     exact ST.mid (IntKind.i64.wrap (0 - z.sign)) sB rfl rfl (by rw [hq1]; rfl)
    ·refine kP ?_
     exact ST.mid z.sign sB rfl rfl (by rw [hq1]; rfl)
   rintro s1 hs1
   try dsimp only
   refine SC.cut (ι:=Int) (fun _=>[(2,pp b2 0),(4,pp b4 0),(5,vi k),(6,vi t),(7,pp b7 0),(8,vi i),(9,pp b9 0),(10,pp b10 0),(11,vi j),(12,pp b12 0)]) (fun _=>g1) (fun sg=>pt b12 (.cells #[vi (mixC z.cell k),vi sg] 42 (0,0)) :: rowA encSide 42 sv ((x.sides.take j).map (renSide k t x)) :: pt b10 (.cells #[vi (mixC x.id k),vi x.dim,sv] 40 (0,0)) :: pt b9 (.cells #[vi x.id,vi x.dim,.slice xp x.sides.length xcap] 40 (0,0)) :: rowA encCell 40 ov rcs :: pt b7 (.cells #[ov] 31 (0,0)) :: pt b4 (.cells #[.slice none 0 0] 31 (0,0)) :: pt b2 (.cells #[.slice p rs.length c] 31 (0,0)) :: s) (fun sg=>sg = negIf (turn2 t x z.cell) s1) ?_ ?_
   ·refine SC.cutB 90 ((turn2 t x z.cell)) ?_ ?_
    ·refine rG (lM I (lU (gR I I) (lM I ?_)))
     refine sP ?_ ?_
     ·intro h76
      refine lY I I I (fA uT40 I zT3 I) (SL.gq (gT I I I dC) (qL (v:=vi x.dim) iT3 I (cO 3 I I)) dC (lY I I I (gR I I) (lU (pT I I) (lM I ?_))))
      refine sP ?_ ?_
      ·intro h81
       refine lY I I I (fA uT40 I zT38 I) (SL.gq (gT I I I dC) (qL (v:=.slice xp x.sides.length xcap) iT38 I (cO 3 I I)) dC (lY I I I (mV I) (lY I I I (iA uT38 zT42 I I hb3 oM sL) (lY I I I (fC uT42 I zT3 I hb3) (SL.gq (gT I I I dC) (pA (e:=encSide) (o:=0) (u:=vi z.cell) iT3 I hxs.rd hjx I) dC (lY I I I (mV I) (SL.go (gT I I I dC) (cL call105 I (turned_spec E g1 _ z.cell t oM)) dC ?_)))))))
       rintro _ _ _ ⟨rfl,rfl,rfl⟩
       refine lU (pT I I) (nL ?_)
       exact ST.mid1 (by (rw [e3 h76 h81]; rfl)) mI
      ·intro h81
       refine lZ I I I (lZ I I I (lZ I I I (lZ I I I (lZ I I I (lZ I I I (lZ I I I (lZ I I I (lU (pF I I) (nL ?_)))))))))
       exact ST.mid1 (by (rw [e4 h76 h81]; rfl)) mI
     ·intro h76
      refine lZ I I I (lZ I I I (lZ I I I (lU (pF I I) (lM I (lZ I I I (lZ I I I (lZ I I I (lZ I I I (lZ I I I (lZ I I I (lZ I I I (lZ I I I (lU (pF I I) (nL ?_))))))))))))))
      exact ST.mid1 (by (rw [e5 h76]; rfl)) mI
    refine iQ I (fun hq2=>?_) (fun hq2=>?_)
    ·refine rG (lU (fA uT42 rfl zT3 rfl) (lK (qL (v:=vi s1) iT3 rfl (cO 0 rfl rfl)) (lU (SU.neg rfl) (lU (fA uT42 rfl zT3 rfl) (SL.O2 (SO.store1 0 zT3 rfl rfl rfl rfl (bE rfl) (by rfl)) ?_)))))
     refine nL ?_
     exact ST.mid (IntKind.i64.wrap (0 - s1)) sB rfl rfl (by rw [hq2]; rfl)
    ·refine kP ?_
     exact ST.mid s1 sB rfl rfl (by rw [hq2]; rfl)
   rintro s2 hs2
   try dsimp only
   have hrz : renSide k t x z = ⟨mixC z.cell k,s2⟩:=by unfold renSide; rw [hs2,hs1]
   rw [hrz] at hjs
   have hml : ((x.sides.take j).map (renSide k t x)).length = j:=by rw [List.length_map,List.length_take]; omega
   refine rG (lU (fA uT40 I zT38 I) (lK (qL (v:=sv) iT38 I (cO 2 I I)) (lK (qV 0 iT42 zT42 I I I) (lW (bS sty38 I I I (szs_mk sB) dC) ?_))))
   rintro _ _ _ ⟨b98,rfl,rfl,rfl⟩
   refine lW (aP (e:=encSide) 1 ⟨mixC z.cell k,s2⟩ sty38 I I I I I oM oM) ?_
   rintro sv' _ _ ⟨rfl,rfl⟩
   rw [← hjs]
   refine SL.facts fun ⟨w0,hw0⟩=>?_
   obtain ⟨q6,d6,rfl⟩:=rowA_form (i:=1) hw0 rfl
   clear hw0 w0
   refine lU (fA uT40 rfl zT38 rfl) (SL.O2 (SO.store1 2 zT38 rfl rfl rfl rfl (bE rfl) (by rfl)) ?_)
   refine nL (bN (tN (rG (lM I (lU (aD I I oM) (lA I (nL (dR (s':=rowA encSide 42 (.slice q6 ((x.sides.take (j + 1)).map (renSide k t x)).length d6) ((x.sides.take (j + 1)).map (renSide k t x)) :: pt b10 (.cells #[vi (mixC x.id k),vi x.dim,(.slice q6 ((x.sides.take (j + 1)).map (renSide k t x)).length d6)] 40 (0,0)) :: pt b9 (.cells #[vi x.id,vi x.dim,.slice xp x.sides.length xcap] 40 (0,0)) :: rowA encCell 40 ov rcs :: pt b7 (.cells #[ov] 31 (0,0)) :: pt b4 (.cells #[.slice none 0 0] 31 (0,0)) :: pt b2 (.cells #[.slice p rs.length c] 31 (0,0)) :: s) (.cons _ (.refl _)) ?_))))))))
   exact gA (_,j + 1) sB I I lN lN
  ·have hjj : x.sides.take j = x.sides:=tL oM
   rw [hjj]
   refine xI (tX (tX (bX (tN (fS fun g2 hle2 hs2=>?_)))))
   have hsd : SlA encSide g2 sv (x.sides.map (renSide k t x)):=hs2
   obtain ⟨q8,d8,rfl⟩:=SlA.form hsd
   obtain ⟨nc,hnc⟩ : ∃ nc : Rc,nc = ⟨mixC x.id k,x.dim,⟨q8,(x.sides.map (renSide k t x)).length,d8⟩⟩:=⟨_,rfl⟩
   refine rG (lU (fA uT31 I zT29 I) (lK (qL (v:=ov) iT29 I (cO 3 I I)) (lK (qV 0 iT40 zT40 I I I) (lW (bS sty29 I I I (szs_mk sB) dC) ?_))))
   rintro _ _ _ ⟨b104,rfl,rfl,rfl⟩
   refine lW (aP (e:=encCell) 2 nc sty29 rfl rfl rfl rfl (by rw [hnc]; rfl) oM oM) ?_
   rintro v105 _ _ ⟨rfl,rfl⟩
   refine SL.facts fun ⟨w0,hw0⟩=>?_
   obtain ⟨q9,d9,rfl⟩:=rowA_form (i:=2) hw0 rfl
   clear hw0 w0
   refine lU (fA uT31 I zT29 I) (SL.O2 (sK 3 zT29 I I I I I sB) ?_)
   refine nL (bN (tN (rG (lM I (lU (aD I I oM) (lA I (nL (dR (s':=rowA encCell 40 (.slice q9 (rcs ++ [nc]).length d9) (rcs ++ [nc]) :: pt b7 (.cells #[(.slice q9 (rcs ++ [nc]).length d9)] 31 (0,0)) :: pt b4 (.cells #[.slice none 0 0] 31 (0,0)) :: pt b2 (.cells #[.slice p rs.length c] 31 (0,0)) :: s) (.cons _ (.cons _ (.refl _))) ?_))))))))
   refine gA (g2,_,rcs ++ [nc],i + 1) sB I I ⟨hle.trans hle2,lN,?_⟩ lN
   dsimp only
   rw [hsucc]
   exact (hrcs.mono fun _ _=>CellR.mono hle2).append ⟨(by rw [hnc]; exact ⟨I,I,hsd⟩),trivial⟩
 ·have hii : l.take i = l:=tL oM
  rw [hii] at hrcs
  refine xI (tX (tX (bX (tN (sQ (fS fun g2 hle2 hs2=>?_))))))
  have hov : Cells g2 ov (l.map (renCell k t)):=⟨rcs,hs2,hrcs.mono fun _ _=>CellR.mono hle2⟩
  obtain ⟨qo,do_,rfl⟩:=hov.form
  refine rG (lK (qV 0 iT31 zT31 I I I) (lW (cL call44 I (refCanon_spec E g2 _ _ _ hov (ren_fits hf k t))) ?_))
  rintro _ g3 _ ⟨rfl,hle3,x3,rfl,hx3⟩
  obtain ⟨q3,d3,rfl⟩:=hx3.form
  refine SL.O2 (sK 1 zT31 I I I I I sB) ?_
  refine SL.nT (rE ?_)
  exact ST.retCD 1 s (.inl I) results41 I iT31 zT31 I I (.cons _ (.cons _ (.cons _ (.refl _)))) ⟨I,hle.trans (hle2.trans hle3),_,I,hx3⟩
end Go.Proofs.YtkdibcicncjpdaaGreatDoor
