/-
  For complexes with one or two changes, all functions of the package cells return what the reference model returns: the law CellsSpoiled returns true, for every seed, every two probes and every list of numbers.
-/
import Derived.Test.YtkdibcicncjpdaaGreatDoorSp12
import Derived.Test.YtkdibcicncjpdaaGreatDoorSp04
import Derived.Test.YtkdibcicncjpdaaGreatDoorSp10
import Derived.Test.YtkdibcicncjpdaaGreatDoorSp08
import Derived.Test.YtkdibcicncjpdaaGreatDoorSp06
import Derived.Test.YtkdibcicncjpdaaGreatDoorSp09
import Derived.Test.YtkdibcicncjpdaaGreatDoorSp11
import Derived.Test.YtkdibcicncjpdaaGreatDoorSp07
import Derived.Test.YtkdibcicncjpdaaGreatDoorTie
import Derived.Test.YtkdibcicncjpdaaGreatDoorCards
import Derived.LaidMore
import Derived.Lay
import Derived.SevenTiedAt
import Derived.Stop.Joined
set_option linter.unusedSimpArgs false
set_option linter.unusedVariables false
namespace Go.Proofs.YtkdibcicncjpdaaGreatDoor
open _root_.Go.Proofs.Tryz _root_.Go.Proofs.YtkdibcicncjpdaaGreatDoor.Tryz
open Go Go.Sy Go.Pl Go.Proofs
set_option maxRecDepth 100000
set_option maxHeartbeats 1000000
theorem own_get {S : Own} {vs : List Sv} {M : List (List Int)} {i : Nat} {v : Sv} {r : List Int} (h1 : vs[i]? = some v) (h2 : M[i]? = some r) : (ownR vs M ++ S)[i]? = some (rowI v r):=by
 have h:=ownR_get h1 h2
 rw [List.getElem?_append_left (List.getElem?_eq_some_iff.1 h).1]
 exact h
theorem own_set {S : Own} {vs : List Sv} {M : List (List Int)} {i : Nat} {v : Sv} (r : List Int) (h1 : vs[i]? = some v) (hl : vs.length = M.length) : (ownR vs M ++ S).set i (rowI v r) = ownR vs (M.set i r) ++ S:=by
 have h : i < (ownR vs M).length:=by rw [ownR_length hl,← hl]; exact (List.getElem?_eq_some_iff.1 h1).1
 rw [List.set_append_left _ _ h,ownR_set r h1 hl]
theorem modify_set {α : Type} {f : α → α} : ∀ {l : List α} {i : Nat} {a : α},l[i]? = some a → l.modify i f = l.set i (f a)
 | [],_,_,h=>by simp at h
 | x :: t,0,a,h=>by simp at h; subst h; rfl
 | x :: t,i + 1,a,h=>by
  simp at h
  have:=modify_set (f:=f) h
  simp [List.modify_cons,this]
theorem addAt_set {M : List (List Int)} {i k : Nat} {z a : Int} {r : List Int} (h1 : M[i]? = some r) (h2 : r[k]? = some a) : addAt M i k z = M.set i (r.set k (IntKind.i64.wrap (a + z))):=by
 unfold addAt
 rw [modify_set h1,modify_set h2]
def VG (vs : List Sv) (C : Nat) : Prop:=∀ v ∈ vs,∃ b,v = ⟨some ⟨b,0,none⟩,C,C⟩
theorem VG.get {vs : List Sv} {C i : Nat} (h : VG vs C) (hi : i < vs.length) : ∃ b,vs[i]? = some ⟨some ⟨b,0,none⟩,C,C⟩:=by
 obtain ⟨b,hb⟩:=h _ (gM hi)
 exact ⟨b,by rw [gE hi,hb]⟩
theorem Tryz.buildE55 (w : World) : (Instr.build 55 #[]).run Tryz.prog w = .ok (.agg #[vi 0,vi 0,.slice none 0 0]) w:=by
 simp [Instr.build,Instr.fill]
 rfl
theorem matR_nil (g : PH) (C : Nat) : MatR g (.agg #[vi (0 : Nat),vi C,.slice none 0 0]) (0,C,[]):=⟨none,0,rfl,Sl.nil g _⟩
theorem lb_get {l : List Int} {x : Int} (hs : l.Pairwise (· < ·)) (h : l.contains x = true) : lbI l x < l.length:=by
 rw [List.contains_iff_mem] at h
 obtain ⟨k,hk,rfl⟩:=List.getElem_of_mem h
 rw [lbI_self hk hs]
 exact hk
theorem ids_mem {l : List Cl} {d x : Int} (h : x ∈ idsC l d) : ∃ c ∈ tabC l,c.id = x:=by
 unfold idsC at h
 obtain ⟨c,hc,e⟩:=List.mem_map.1 h
 exact ⟨c,(List.mem_filter.1 hc).1,e⟩
theorem matrix_spec (E : World) (g : PH) (s : Own) (v : Value) (l : List Cl) (d : Int) (hv : Cells g v l) (hf : Fits l) (hd : -100 ≤ d ∧ d ≤ 100) :
  Ctr Tryz.prog E 21 #[.agg #[v],vi d] g s (fun x g' s'=>s = s' ∧ Le g g' ∧ MatR g' x (matRes (tabC l) (idsC l (d - 1)) (idsC l d))):=by
 have hft:=tabC_fits hf
 have hfl:=hft.1
 have hR0:=ids_le l (d - 1)
 have hC0:=ids_le l d
 have hasc:=ids_asc l (d - 1)
 refine Ctr.of (args:=[.agg #[v],vi d]) func21 I ntmps21 (bE I) ?_
 refine SC.sR (SL.bx (bO I) fun b2=>?_)
 refine SL.bx (aL zeroValue55) fun b4=>?_
 refine SL.nT (SC.sR (lK (qV 1 iT31 zT31 I I I) (lW (cL kT56 I (of_spec E g _ v l hv hf)) ?_)))
 rintro tv g1 _ ⟨rfl,hle1,ht⟩
 obtain ⟨b,m,iv,rs,rfl,hb,hm,hI,hall⟩:=ht
 refine lA I (SL.nT (sQ ?_))
 refine dW [7,8] [(0,1),(1,2),(2,2),(4,1),(5,2),(3,0),(6,0),(7,0),(8,0)] Tryz.mixed (by kernel_rfl) ?_
 refine pK I (qV 1 iT31 zT31 I I I) (pU I (mV I) (pU I (sU I I ⟨oM,oM⟩) ?_))
 refine pK rfl (qV 1 iT31 zT31 rfl rfl rfl) (pU rfl (mV rfl) (SP.o rfl (cL call23 rfl (ids_spec E g1 _ v l (d - 1) (hv.mono hle1) hf)) dC (.inr (by rintro v1 g2 _ ⟨rfl,hle2,hr1⟩; exact ⟨by assumption,(by exact .refl _)⟩)) ?_))
 rintro v1 g2 _ ⟨rfl,hle2,hr1⟩
 refine SP.o rfl (cL call23 rfl (ids_spec E g2 _ v l d (hv.mono (hle1.trans hle2)) hf)) dC (.inr (by rintro v2 g3 _ ⟨rfl,hle3,hr2⟩; exact ⟨by exact Le.trans (by assumption) (by assumption),(by exact .refl _)⟩)) ?_
 rintro v2 g3 _ ⟨rfl,hle3,hr2⟩
 have hr1:=SlA.mono hr1 hle3
 obtain ⟨p1,c1,rfl⟩:=SlA.form hr1
 obtain ⟨p2,c2,rfl⟩:=SlA.form hr2
 have hle:=hle1.trans (hle2.trans hle3)
 have hall:=hall.mono fun _ _ h=>CellR.mono (hle2.trans hle3) h
 have hb:=hle3 _ _ (hle2 _ _ hb)
 have hm:=hm.mono (hle2.trans hle3)
 clear hle1 hle2 hle3 hI
 refine oU I (aS I) dC (.inl dC) (oU I (aS I) dC (.inl dC) (pN (tN (sQ ?_))))
 refine SC.cutB 32 (decide (((idsC l (d - 1)).length : Int) > 200) || decide (((idsC l d).length : Int) > 200)) ?_ ?_
 ·refine rG (lM I (lU (eN uT27 I) (lU (gR I I) (lM I ?_))))
  refine sP ?_ ?_
  ·intro h28
   refine lZ I I I (lZ I I I (lZ I I I (lU (pT I I) (nL ?_))))
   exact ST.mid1 (by (simp_all [get?]; done)) mI
  ·intro h28
   refine lY I I I (mV I) (lY I I I (eN uT27 I) (lY I I I (gR I I) (lU (pF I I) (nL ?_))))
   exact ST.mid1 (by (simp_all [get?]; omega)) mI
 have hres : matRes (tabC l) (idsC l (d - 1)) (idsC l d) = if decide (((idsC l (d - 1)).length : Int) > 200) || decide (((idsC l d).length : Int) > 200) then (0,0,[]) else if (idsC l (d - 1)).length = 0 then (0,(idsC l d).length,[]) else ((idsC l (d - 1)).length,(idsC l d).length,(matTo (tabC l) (idsC l (d - 1)) (idsC l d) (idsC l d).length).flatten):=rfl
 rw [hres]
 clear hres
 generalize idsC l (d - 1) = RL at *
 have hmem : ∀ x ∈ idsC l d,∃ c ∈ tabC l,c.id = x:=fun x hx=>ids_mem hx
 generalize idsC l d = CL at *
 have hsides : ∀ c ∈ tabC l,c.sides.length < 1099511627776:=hft.2
 generalize tabC l = A at *
 refine iQ I (fun hbig=>?_) (fun hbig=>?_)
 ·refine SC.sR (lU (SU.build I (buildE55)) (SL.O2 (sK 0 zT55 I I I I I sB) ?_))
  refine SL.nT (rE (tR ?_))
  rw [if_pos hbig]
  exact ST.retCD 0 s (.inl I) results21 I iT55 zT55 I I (.cons _ (.cons _ (.refl _))) ⟨I,hle,matR_nil _ 0⟩
 ·rw [if_neg (by rw [hbig]; decide)]
  rw [Bool.or_eq_false_iff,decide_eq_false_iff_not,decide_eq_false_iff_not] at hbig
  refine kP (tN (sQ (SC.sR (lM I (lU (eN uT27 I) (lU (eQ I I) (SL.nT ?_)))))))
  refine iP I (fun hz=>?_) (fun hz=>?_)
  ·have hz0 : RL.length = 0:=oM
   rw [if_pos hz0]
   have h0C : 0 * CL.length = 0:=Nat.zero_mul _
   refine SC.sR (lM I (lU (eN uT27 I) (lW (cL call25 I (zero_own E g3 _ 0 CL.length oM oM)) ?_)))
   rintro _ _ _ ⟨rfl,zp,zk,rfl,rfl⟩
   refine SL.O2 (sK 1 zT55 I I I I I sB) ?_
   refine SL.nT (rE (tR (fT fun g4 hle4 hs4=>?_)))
   rw [h0C] at hs4 ⊢
   exact ST.retCD 0 s (.inl I) results21 I iT55 zT55 I I (.cons _ (.cons _ (.refl _))) ⟨I,hle.trans hle4,zp,zk,I,hs4⟩
  ·rw [if_neg oM]
   refine kP (tN (SC.sR (lM I (lU (eN uT27 I) (lW (mK encSv ⟨none,0,0⟩ sty22 I I I oM oM) ?_)))))
   rintro _ _ _ ⟨b42,rfl,rfl,rfl⟩
   refine lA I (SL.nT (sQ (SC.sR (lM I (lU (eN uT22 I) (lM I (SL.nT (bK ?_))))))))
   refine SC.to (fun w hw=>hw) (g':=g3) (s':=rowA encSv 27 (.slice (some ⟨b42,0,none⟩) RL.length RL.length) ([] ++ List.replicate (RL.length - 0) ⟨none,0,0⟩) :: (ownR [] (List.replicate 0 (List.replicate CL.length 0)) ++ (pt b4 (.cells #[vi 0,vi 0,.slice none 0 0] 55 (0,0)) :: pt b2 (.cells #[v] 31 (0,0)) :: s))) ?_
   refine oP (ι:=List Sv) (fun vs=>[(2,pp b2 0),(4,pp b4 0),(5,pp b 0),(6,.slice p1 RL.length c1),(7,.slice p2 CL.length c2),(8,.slice (some ⟨b42,0,none⟩) RL.length RL.length),(43,.slice (some ⟨b42,0,none⟩) RL.length RL.length),(44,vi RL.length),(45,vi vs.length)]) (fun _=>g3)
    (fun vs=>rowA encSv 27 (.slice (some ⟨b42,0,none⟩) RL.length RL.length) (vs ++ List.replicate (RL.length - vs.length) ⟨none,0,0⟩) :: (ownR vs (List.replicate vs.length (List.replicate CL.length 0)) ++ (pt b4 (.cells #[vi 0,vi 0,.slice none 0 0] 55 (0,0)) :: pt b2 (.cells #[v] 31 (0,0)) :: s)))
    (fun vs=>vs.length ≤ RL.length ∧ VG vs CL.length) (fun vs=>RL.length - vs.length) [] sB rfl rfl ⟨Nat.zero_le _,fun _ h=>by simp at h⟩ ?_
   rintro vs ⟨hvl,hvg⟩
   refine SC.sR (lU (lS I I) (SL.nT (sQ ?_)))
   refine iP I (fun hlt=>?_) (fun hlt=>?_)
   ·have hlt' : vs.length < RL.length:=oM
    have hrep : List.replicate (RL.length - vs.length) (⟨none,0,0⟩ : Sv) = ⟨none,0,0⟩ :: List.replicate (RL.length - (vs.length + 1)) ⟨none,0,0⟩:=by
     rw [show RL.length - vs.length = (RL.length - (vs.length + 1)) + 1 by omega,List.replicate_succ]
    have hll : (vs ++ List.replicate (RL.length - vs.length) (⟨none,0,0⟩ : Sv)).length = RL.length:=by simp; omega
    refine kP (tN (sQ (bK (SC.sR (lM I (lA I (SL.nT (rG (lM I (lM I (lM I (lU (eN uT27 I) (lW (mK encInt 0 sty27 I I I oM oM) ?_)))))))))))))
    rintro _ _ _ ⟨b52,rfl,rfl,rfl⟩
    refine lU (iA uT22 zT27 I I I oM sL) (SL.O2 (sT (a:=⟨some ⟨b52,0,none⟩,CL.length,CL.length⟩) 1 zT27 I I I (by rw [hll]; omega) I) ?_)
    refine nL (bN (tN (rG (lU (aD I I oM) (lM I (nL ?_))))))
    refine ST.to (fun w hw=>?_) (g':=g3) (s':=rowA encSv 27 (.slice (some ⟨b42,0,none⟩) RL.length RL.length) ((vs ++ [⟨some ⟨b52,0,none⟩,CL.length,CL.length⟩]) ++ List.replicate (RL.length - (vs.length + 1)) ⟨none,0,0⟩) :: (ownR (vs ++ [⟨some ⟨b52,0,none⟩,CL.length,CL.length⟩]) (List.replicate vs.length (List.replicate CL.length 0) ++ [List.replicate CL.length 0]) ++ (pt b4 (.cells #[vi 0,vi 0,.slice none 0 0] 55 (0,0)) :: pt b2 (.cells #[v] 31 (0,0)) :: s))) ?_
    ·have hs : (vs ++ List.replicate (RL.length - vs.length) (⟨none,0,0⟩ : Sv)).set ((vs.length : Nat) : Int).toNat ⟨some ⟨b52,0,none⟩,CL.length,CL.length⟩ = (vs ++ [⟨some ⟨b52,0,none⟩,CL.length,CL.length⟩]) ++ List.replicate (RL.length - (vs.length + 1)) ⟨none,0,0⟩:=by
      rw [hrep,set_mid (by simp)]; simp
     rw [ownR_append _ _ (by simp),← hs,List.append_assoc]
     refine hw.perm ?_
     refine (List.Perm.swap _ _ _).trans (List.Perm.cons _ ?_)
     exact List.perm_middle.symm
    exact gA (vs ++ [⟨some ⟨b52,0,none⟩,CL.length,CL.length⟩]) ⟨rfl,rfl,rfl,rfl,rfl,rfl,rfl,rfl,by rw [List.length_append]; rfl,trivial⟩ rfl (by simp [List.replicate_succ']) ⟨by simp; omega,fun x hx=>by
     rcases List.mem_append.1 hx with h | h
     ·exact hvg x h
     ·simp at h; exact ⟨b52,h⟩⟩ (by simp; omega)
   ·have hvR : vs.length = RL.length:=oM
    refine xI (tX (tX (bX (tN (sQ (SC.sR (lM I (lU (eN uT27 I) (lM I (SL.nT (bK ?_)))))))))))
    have hvs0 : vs ++ List.replicate (RL.length - vs.length) ⟨none,0,0⟩ = vs:=by rw [hvR]; simp
    rw [hvs0,hvR]
    have hRp : 0 < RL.length:=oM
    clear hvs0
    refine oP (ι:=Nat) (fun k=>[(2,pp b2 0),(4,pp b4 0),(5,pp b 0),(6,.slice p1 RL.length c1),(7,.slice p2 CL.length c2),(8,.slice (some ⟨b42,0,none⟩) RL.length RL.length),(55,.slice p2 CL.length c2),(56,vi CL.length),(57,vi k)]) (fun _=>g3)
     (fun k=>rowA encSv 27 (.slice (some ⟨b42,0,none⟩) RL.length RL.length) vs :: (ownR vs (matTo A RL CL k) ++ (pt b4 (.cells #[vi 0,vi 0,.slice none 0 0] 55 (0,0)) :: pt b2 (.cells #[v] 31 (0,0)) :: s)))
     (fun k=>k ≤ CL.length) (fun k=>CL.length - k) 0 sB rfl rfl (Nat.zero_le _) ?_
    rintro k hk
    refine SC.sR (lU (lS I I) (SL.nT (sQ ?_)))
    refine iP I (fun hlt2=>?_) (fun hlt2=>?_)
    ·have hkl : k < CL.length:=oM
     have hb1:=SlA.based hr2 oM
     have hgx : CL[((k : Nat) : Int).toNat]? = some CL[k]:=gE hkl
     have hgd : CL.getD k 0 = CL[k]:=by rw [List.getD_eq_getElem?_getD,gE hkl]; rfl
     have hsucc : matTo A RL CL (k + 1) = (cellAt A CL[k]).sides.foldl (colStep RL k) (matTo A RL CL k):=by rw [matTo,hgd]
     have hsh:=matTo_shape A RL CL k
     generalize matTo A RL CL k = M at *
     generalize CL[k] = id at *
     obtain ⟨x,hx1,hx2,hx3⟩:=all2_look hall zeroCR id
     have hcs : (cellAt A id).sides.length < 1099511627776:=by
      unfold cellAt
      cases hfn : findT A id with
      | none=>decide
      | some c=>exact hsides c (findT_mem hfn).1
     have hx3 : CellR g3 (cellAt A id) x:=hx3
     generalize cellAt A id = co at *
     obtain ⟨xi,xd,xp,xn,xc⟩:=x
     have hsv : SlA encSide g3 (.slice xp xn xc) co.sides:=hx3.2.2
     have hxn : xn = co.sides.length:=by obtain ⟨q,cc,hq⟩:=SlA.form hsv; simp at hq; exact hq.2.1
     subst hxn
     refine kP (tN (sQ (bK (SC.sR (lM I (lU (iA uT27 zT3 I I hb1 oM sL) (lK (eB iT3 I (SlA.rd hr2) hgx I) (lA I (lA I (SL.nT (SC.sR (lM I (lU (nC I) (lU (fA uT90 I zT88 I) (lK (qL isAgg88 I (cK hb I)) (lM I (lK (SQ.eq (v':=rcv ⟨xi,xd,xp,co.sides.length,xc⟩) (SQ.lookup mty88 I I (MapAt.known hm)) hx1) (lU (SU.field uT40 I iT38 I I) (lU (eN uT38 I) (lM I (SL.nT (bK ?_))))))))))))))))))))))
     refine oP (ι:=Nat) (fun j=>[(2,pp b2 0),(4,pp b4 0),(5,pp b 0),(6,.slice p1 RL.length c1),(7,.slice p2 CL.length c2),(8,.slice (some ⟨b42,0,none⟩) RL.length RL.length),(10,vi k),(55,.slice p2 CL.length c2),(56,vi CL.length),(57,vi k),(68,.slice xp co.sides.length xc),(69,vi co.sides.length),(70,vi j)]) (fun _=>g3)
      (fun j=>rowA encSv 27 (.slice (some ⟨b42,0,none⟩) RL.length RL.length) vs :: (ownR vs ((co.sides.take j).foldl (colStep RL k) M) ++ (pt b4 (.cells #[vi 0,vi 0,.slice none 0 0] 55 (0,0)) :: pt b2 (.cells #[v] 31 (0,0)) :: s)))
      (fun j=>j ≤ co.sides.length) (fun j=>co.sides.length - j) 0 sB rfl rfl (Nat.zero_le _) ?_
     rintro j hj
     refine SC.sR (lU (lS I I) (SL.nT (sQ ?_)))
     refine iP I (fun hlt3=>?_) (fun hlt3=>?_)
     ·have hjl : j < co.sides.length:=oM
      have hb2:=SlA.based hsv oM
      have hgj : co.sides[((j : Nat) : Int).toNat]? = some co.sides[j]:=gE hjl
      have hts : (co.sides.take (j + 1)).foldl (colStep RL k) M = colStep RL k ((co.sides.take j).foldl (colStep RL k) M) co.sides[j]:=by
       rw [tS hjl,List.foldl_append]; rfl
      have hsh2:=Shape.fold RL k (co.sides.take j) hsh
      generalize (co.sides.take j).foldl (colStep RL k) M = M2 at *
      generalize co.sides[j] = z at *
      refine kP (tN (sQ (bK (SC.sR (lU (iA uT38 zT42 I I hb2 oM sL) (lK (eA iT42 zT42 I hsv.rd hgj) (SL.bx (aL zeroValue42) fun b13=>?_)))))))
      refine SL.O2 (sK 0 zT42 I I I I I sB) ?_
      refine SL.nT (SC.sR (lM I (lU (fA uT42 I zT3 I) (lK (qL iT3 I (cO 0 I I)) (lW (cL call71 I (binSearch_spec E g3 _ _ RL z.cell hr1 oM (hasc.imp Int.le_of_lt))) ?_)))))
      rintro _ _ _ ⟨rfl,rfl,rfl⟩
      refine lM I (lU (xT I I) (lU (xT I I) (lA I (lA I (SL.nT (SC.sR (lM I (SL.nT ?_))))))))
      refine iQ I (fun hcon=>?_) (fun hcon=>?_)
      ·have hi:=lb_get hasc hcon
       have hvi : lbI RL z.cell < vs.length:=oM
       obtain ⟨bv,hgv⟩:=hvg.get hvi
       have hMi : lbI RL z.cell < M2.length:=by rw [hsh2.1]; exact hi
       have hgM : M2[lbI RL z.cell]? = some M2[lbI RL z.cell]:=gE hMi
       have hrl:=(hsh2.2 _ (gM hMi)).1
       have hgv' : vs[((lbI RL z.cell : Nat) : Int).toNat]? = some ⟨some ⟨bv,0,none⟩,CL.length,CL.length⟩:=hgv
       have hstep : colStep RL k M2 z = addAt M2 (lbI RL z.cell) k z.sign:=by unfold colStep; rw [if_pos hcon]
       generalize M2[lbI RL z.cell] = r at *
       generalize lbI RL z.cell = i at *
       have hgk : r[((k : Nat) : Int).toNat]? = some (r[k]'oM):=gE _
       have hadd:=addAt_set (k:=k) (z:=z.sign) hgM hgk
       generalize r[k]'oM = a at *
       refine dW [11] [(0,2),(1,2),(2,2),(3,1),(4,2),(5,2),(6,1),(7,2),(8,1),(9,2),(10,2),(11,0)] Tryz.mixed (by kernel_rfl) ?_
       refine pU I (mV I) (pU I (mV I) (pU I (iA uT22 zT27 I I I oM sL) (pK I (eB (u:=.slice (some ⟨bv,0,none⟩) CL.length CL.length) iT27 I (Rd.rowA 1 I) hgv' I) (pU I (mV I) (pU I (iA uT27 zT3 I I I oM sL) (pK I (eB iT3 I (Rd.rowA (i + 2) (own_get hgv hgM)) hgk I) (pU I (fA uT42 I zT3 I) (pK I (qL iT3 I (cO 0 I I)) (pU I (SU.addW I I) (pU I (iA uT27 zT3 I I I oM sL) (SP.on I (sT (a:=IntKind.i64.wrap (a + z.sign)) (i + 2) zT3 I I (own_get hgv hgM) oM I) (.inl dC) ?_)))))))))))
       rintro _ _ _ ⟨rfl,rfl⟩
       refine pN (bN (tN (rG (lU (aD I I oM) (lM I (nL ?_))))))
       refine ST.to (fun w hw=>?_) (g':=g3) (s':=rowA encSv 27 (.slice (some ⟨b42,0,none⟩) RL.length RL.length) vs :: (ownR vs (colStep RL k M2 z) ++ (pt b4 (.cells #[vi 0,vi 0,.slice none 0 0] 55 (0,0)) :: pt b2 (.cells #[v] 31 (0,0)) :: s))) ?_
       ·have hst:=own_set (S:=pt b4 (.cells #[vi 0,vi 0,.slice none 0 0] 55 (0,0)) :: pt b2 (.cells #[v] 31 (0,0)) :: s) (r.set k (IntKind.i64.wrap (a + z.sign))) hgv (by rw [hvR,hsh2.1] : vs.length = M2.length)
        rw [hstep,hadd,← hst]
        exact hw.sublist (.cons _ (.refl _))
       exact gA (j + 1) sB I (by rw [hts]) oM oM
      ·have hstep : colStep RL k M2 z = M2:=by unfold colStep; rw [hcon]; rfl
       refine kP (bN (tN (rG (lU (aD I I oM) (lM I (nL (dR (.cons _ (.refl _)) ?_)))))))
       exact gA (j + 1) sB I (by rw [hts,hstep]) oM oM
     ·have hjj : co.sides.take j = co.sides:=tL oM
      rw [hjj,← hsucc]
      refine xI (tX (tX (bX (bN (tN (rG (lU (aD I I oM) (lM I (nL ?_)))))))))
      exact gA (k + 1) sB I I oM oM
    ·have hkk : k = CL.length:=oM
     subst hkk
     have hsh:=matTo_shape A RL CL CL.length
     refine SC.freezeLs (by rw [hvR,hsh.1]) (fun x hx r hr=>by obtain ⟨bb,rfl⟩:=hvg x hx; exact ((hsh.2 r hr).1).symm) fun g4 hle4 hls=>?_
     refine xI (tX (tX (bX (tN (SC.sR (lM I (lW (cL call72 I (of_mat E g4 _ _ _ CL.length hls (hsh.rows hRp oM oM))) ?_)))))))
     rintro _ g5 _ ⟨rfl,hle5,mp,mk,rfl,hmr⟩
     refine SL.O2 (sK 0 zT55 I I I I I sB) ?_
     refine SL.nT (rE ?_)
     rw [hsh.1] at hmr ⊢
     exact ST.retCD 0 s (.inl I) results21 I iT55 zT55 I I (.cons _ (.cons _ (.refl _))) ⟨I,hle.trans (hle4.trans hle5),mp,mk,I,hmr⟩
theorem Tryz.buildC55 (n : Int) (w : World) : (Instr.build 55 #[(1,vi n)]).run Tryz.prog w = .ok (.agg #[vi 0,vi n,.slice none 0 0]) w:=by
 have h1 : ∀ n,(vi n).cells = #[vi n]:=fun _=>rfl
 simp [Instr.build,Instr.fill,h1]
 rfl
theorem own_mid {S : Own} {vs : List Sv} {M : List (List Int)} (j : Nat) (h : vs.length = M.length) : (ownR vs M ++ S)[vs.length + j]? = S[j]?:=by
 have h1:=ownR_length h
 rw [List.getElem?_append_right oM,h1,h]
 congr 1
 omega
theorem idx_con {l : List Int} {x : Int} (h : 0 ≤ idxI l x) : l.contains x = true:=by
 unfold idxI at h
 split at h
 ·assumption
 ·omega
theorem refMatrix_spec (E : World) (g : PH) (s : Own) (v : Value) (l : List Cl) (d : Int) (hv : Cells g v l) (hf : Fits l) (hd : -100 ≤ d ∧ d ≤ 100) :
  Ctr Tryz.prog E 50 #[.agg #[v],vi d] g s (fun x g' s'=>s = s' ∧ Le g g' ∧ MatR g' x (matRes (tabC l) (idsC l (d - 1)) (idsC l d))):=by
 have hft:=tabC_fits hf
 have hfl:=hft.1
 have hR0:=ids_le l (d - 1)
 have hC0:=ids_le l d
 have hasc:=ids_asc l (d - 1)
 have hsrt:=tabC_sorted l
 refine Ctr.of (args:=[.agg #[v],vi d]) func50 I ntmps50 (bE I) ?_
 refine SC.sR (SL.bx (bO I) fun b2=>?_)
 refine SL.bx (aL zeroValue55) fun b4=>?_
 refine SL.nT (SC.sR (lK (qV 1 iT31 zT31 I I I) (lM I (lU (sU I I ⟨oM,oM⟩) ?_))))
 refine lW (cL call49 I (refIds_spec E g _ v l (d - 1) hv hf)) ?_
 rintro v1 g2 _ ⟨rfl,hle2,hr1⟩
 refine lA I (SL.nT (SC.sR (lK (qV 1 iT31 zT31 I I I) (lM I (lW (cL call49 I (refIds_spec E g2 _ v l d (hv.mono hle2) hf)) ?_)))))
 rintro v2 g3 _ ⟨rfl,hle3,hr2⟩
 have hr1:=SlA.mono hr1 hle3
 obtain ⟨p1,c1,rfl⟩:=SlA.form hr1
 obtain ⟨p2,c2,rfl⟩:=SlA.form hr2
 have hle:=hle2.trans hle3
 clear hle2 hle3
 refine lA I (SL.nT (sQ ?_))
 refine SC.cutB 28 (decide (((idsC l (d - 1)).length : Int) > 200) || decide (((idsC l d).length : Int) > 200)) ?_ ?_
 ·refine rG (lM I (lU (eN uT27 I) (lU (gR I I) (lM I ?_))))
  refine sP ?_ ?_
  ·intro h24
   refine lZ I I I (lZ I I I (lZ I I I (lU (pT I I) (nL ?_))))
   exact ST.mid1 (by (simp_all [get?]; done)) mI
  ·intro h24
   refine lY I I I (mV I) (lY I I I (eN uT27 I) (lY I I I (gR I I) (lU (pF I I) (nL ?_))))
   exact ST.mid1 (by (simp_all [get?]; omega)) mI
 have hres : matRes (tabC l) (idsC l (d - 1)) (idsC l d) = if decide (((idsC l (d - 1)).length : Int) > 200) || decide (((idsC l d).length : Int) > 200) then (0,0,[]) else if (idsC l (d - 1)).length = 0 then (0,(idsC l d).length,[]) else ((idsC l (d - 1)).length,(idsC l d).length,(matTo (tabC l) (idsC l (d - 1)) (idsC l d) (idsC l d).length).flatten):=rfl
 rw [hres]
 clear hres
 generalize idsC l (d - 1) = RL at *
 have hmem : ∀ x ∈ idsC l d,∃ c ∈ tabC l,c.id = x:=fun x hx=>ids_mem hx
 generalize idsC l d = CL at *
 have hsides : ∀ c ∈ tabC l,c.sides.length < 1099511627776:=hft.2
 refine iQ I (fun hbig=>?_) (fun hbig=>?_)
 ·refine SC.sR (lU (SU.build I (buildE55)) (SL.O2 (sK 0 zT55 I I I I I sB) ?_))
  refine SL.nT (rE (tR ?_))
  rw [if_pos hbig]
  exact ST.retCD 0 s (.inl I) results50 I iT55 zT55 I I (.cons _ (.cons _ (.refl _))) ⟨I,hle,matR_nil _ 0⟩
 ·rw [if_neg (by rw [hbig]; decide)]
  rw [Bool.or_eq_false_iff,decide_eq_false_iff_not,decide_eq_false_iff_not] at hbig
  refine kP (tN (SC.sR (lM I (lU (eN uT27 I) (lW (mK encSv ⟨none,0,0⟩ sty22 I I I oM oM) ?_)))))
  rintro _ _ _ ⟨b32,rfl,rfl,rfl⟩
  refine lA I (SL.nT (sQ (SC.sR (lA I (SL.nT (bK ?_))))))
  refine SC.to (fun w hw=>hw) (g':=g3) (s':=rowA encSv 27 (.slice (some ⟨b32,0,none⟩) RL.length RL.length) ([] ++ List.replicate (RL.length - 0) ⟨none,0,0⟩) :: (ownR [] (List.replicate 0 (List.replicate CL.length 0)) ++ (pt b4 (.cells #[vi 0,vi 0,.slice none 0 0] 55 (0,0)) :: pt b2 (.cells #[v] 31 (0,0)) :: s))) ?_
  refine oP (ι:=List Sv) (fun vs=>[(2,pp b2 0),(4,pp b4 0),(5,.slice p1 RL.length c1),(6,.slice p2 CL.length c2),(7,.slice (some ⟨b32,0,none⟩) RL.length RL.length),(8,vi vs.length)]) (fun _=>g3)
   (fun vs=>rowA encSv 27 (.slice (some ⟨b32,0,none⟩) RL.length RL.length) (vs ++ List.replicate (RL.length - vs.length) ⟨none,0,0⟩) :: (ownR vs (List.replicate vs.length (List.replicate CL.length 0)) ++ (pt b4 (.cells #[vi 0,vi 0,.slice none 0 0] 55 (0,0)) :: pt b2 (.cells #[v] 31 (0,0)) :: s)))
   (fun vs=>vs.length ≤ RL.length ∧ VG vs CL.length) (fun vs=>RL.length - vs.length) [] sB rfl rfl ⟨Nat.zero_le _,fun _ h=>by simp at h⟩ ?_
  rintro vs ⟨hvl,hvg⟩
  refine sQ (SC.sR (lM I (lM I (lU (eN uT27 I) (lU (lS I I) (SL.nT ?_))))))
  refine iP I (fun hlt=>?_) (fun hlt=>?_)
  ·have hlt' : vs.length < RL.length:=oM
   have hrep : List.replicate (RL.length - vs.length) (⟨none,0,0⟩ : Sv) = ⟨none,0,0⟩ :: List.replicate (RL.length - (vs.length + 1)) ⟨none,0,0⟩:=by
    rw [show RL.length - vs.length = (RL.length - (vs.length + 1)) + 1 by omega,List.replicate_succ]
   have hll : (vs ++ List.replicate (RL.length - vs.length) (⟨none,0,0⟩ : Sv)).length = RL.length:=by simp; omega
   refine kP (tN (sQ (bK (rG (lM I (lM I (lM I (lU (eN uT27 I) (lW (mK encInt 0 sty27 I I I oM oM) ?_)))))))))
   rintro _ _ _ ⟨b43,rfl,rfl,rfl⟩
   refine lU (iA uT22 zT27 I I I oM sL) (SL.O2 (sT (a:=⟨some ⟨b43,0,none⟩,CL.length,CL.length⟩) 1 zT27 I I I (by rw [hll]; omega) I) ?_)
   refine nL (bN (tN (rG (lM I (lU (aD I I oM) (lA I (nL ?_)))))))
   refine ST.to (fun w hw=>?_) (g':=g3) (s':=rowA encSv 27 (.slice (some ⟨b32,0,none⟩) RL.length RL.length) ((vs ++ [⟨some ⟨b43,0,none⟩,CL.length,CL.length⟩]) ++ List.replicate (RL.length - (vs.length + 1)) ⟨none,0,0⟩) :: (ownR (vs ++ [⟨some ⟨b43,0,none⟩,CL.length,CL.length⟩]) (List.replicate vs.length (List.replicate CL.length 0) ++ [List.replicate CL.length 0]) ++ (pt b4 (.cells #[vi 0,vi 0,.slice none 0 0] 55 (0,0)) :: pt b2 (.cells #[v] 31 (0,0)) :: s))) ?_
   ·have hs : (vs ++ List.replicate (RL.length - vs.length) (⟨none,0,0⟩ : Sv)).set ((vs.length : Nat) : Int).toNat ⟨some ⟨b43,0,none⟩,CL.length,CL.length⟩ = (vs ++ [⟨some ⟨b43,0,none⟩,CL.length,CL.length⟩]) ++ List.replicate (RL.length - (vs.length + 1)) ⟨none,0,0⟩:=by
     rw [hrep,set_mid (by simp)]; simp
    rw [ownR_append _ _ (by simp),← hs,List.append_assoc]
    refine hw.perm ?_
    refine (List.Perm.swap _ _ _).trans (List.Perm.cons _ ?_)
    exact List.perm_middle.symm
   exact gA (vs ++ [⟨some ⟨b43,0,none⟩,CL.length,CL.length⟩]) ⟨rfl,rfl,rfl,rfl,rfl,by rw [List.length_append]; rfl,trivial⟩ rfl (by simp [List.replicate_succ']) ⟨by simp; omega,fun x hx=>by
    rcases List.mem_append.1 hx with h | h
    ·exact hvg x h
    ·simp at h; exact ⟨b43,h⟩⟩ (by simp; omega)
  ·have hvR : vs.length = RL.length:=oM
   refine xI (tX (tX (bX (tN (SC.sR (lK (qV (vs.length + 2) iT31 zT31 I (own_mid (vs:=vs) 1 (by simp)) I) ?_))))))
   refine lW (cL call102 I (refCells_spec E g3 _ v l (hv.mono hle) hf)) ?_
   rintro v46 g4 _ ⟨rfl,hle4,hcs⟩
   obtain ⟨rs,hrs,hall⟩:=hcs
   have hcs : Cells g4 _ (tabC l):=⟨rs,hrs,hall⟩
   obtain ⟨q,dd,rfl⟩:=hrs.form
   have hr1:=SlA.mono hr1 hle4
   have hr2:=SlA.mono hr2 hle4
   have hle:=hle.trans hle4
   refine lA I (SL.nT (sQ (SC.sR (lA I (SL.nT (bK ?_))))))
   have hvs0 : vs ++ List.replicate (RL.length - vs.length) ⟨none,0,0⟩ = vs:=by rw [hvR]; simp
   rw [hvs0,hvR]
   clear hvs0
   generalize tabC l = A at *
   have hrl:=hall.length
   refine oP (ι:=Nat) (fun k=>[(2,pp b2 0),(4,pp b4 0),(5,.slice p1 RL.length c1),(6,.slice p2 CL.length c2),(7,.slice (some ⟨b32,0,none⟩) RL.length RL.length),(9,.slice q rs.length dd),(10,vi k)]) (fun _=>g4)
    (fun k=>rowA encSv 27 (.slice (some ⟨b32,0,none⟩) RL.length RL.length) vs :: (ownR vs (matTo A RL CL k) ++ (pt b4 (.cells #[vi 0,vi 0,.slice none 0 0] 55 (0,0)) :: pt b2 (.cells #[v] 31 (0,0)) :: s)))
    (fun k=>k ≤ CL.length) (fun k=>CL.length - k) 0 sB rfl rfl (Nat.zero_le _) ?_
   rintro k hk
   refine sQ (SC.sR (lM I (lM I (lU (eN uT27 I) (lU (lS I I) (SL.nT ?_))))))
   refine iP I (fun hlt2=>?_) (fun hlt2=>?_)
   ·have hkl : k < CL.length:=oM
    have hb1:=SlA.based hr2 oM
    have hgx : CL[((k : Nat) : Int).toNat]? = some CL[k]:=gE hkl
    have hgd : CL.getD k 0 = CL[k]:=by rw [List.getD_eq_getElem?_getD,gE hkl]; rfl
    have hsucc : matTo A RL CL (k + 1) = (cellAt A CL[k]).sides.foldl (colStep RL k) (matTo A RL CL k):=by rw [matTo,hgd]
    have hsh:=matTo_shape A RL CL k
    have hidm:=hmem _ (gM hkl)
    generalize matTo A RL CL k = M at *
    generalize CL[k] = id at *
    rcases at_find hsrt id with ⟨h1,_⟩ | ⟨co,kk,h1,h2,h3⟩
    ·obtain ⟨c,hc,rfl⟩:=hidm
     have:=List.find?_eq_none.1 h1 c hc
     simp at this
    have hco : cellAt A id = co:=by unfold cellAt; rw [h1]; rfl
    rw [hco] at hsucc
    have hcs':=hsides co (findT_mem h1).1
    have hkl3 : kk < A.length:=(List.getElem?_eq_some_iff.1 h3).1
    have hkr : kk < rs.length:=oM
    have hb3:=hrs.based oM
    have hcr:=hall.get h3 (gE hkr)
    have hgr : rs[((kk : Nat) : Int).toNat]? = some rs[kk]:=gE hkr
    generalize rs[kk] = x at *
    obtain ⟨xi,xd,xp,xn,xc⟩:=x
    have hsv : SlA encSide g4 (.slice xp xn xc) co.sides:=hcr.2.2
    have hxn : xn = co.sides.length:=by obtain ⟨q,cc,hq⟩:=SlA.form hsv; simp at hq; exact hq.2.1
    subst hxn
    refine kP (tN (sQ (bK (SC.sR (lM I (lM I (lM I (lM I (lU (iA uT27 zT3 I I hb1 oM sL) (lK (eB iT3 I (SlA.rd hr2) hgx I) (lW (cL call103 I (at_spec E g4 _ _ A id hcs hfl hsrt)) ?_)))))))))))
    rintro _ _ _ ⟨rfl,rfl,rfl⟩
    rw [h2]
    refine lU (iA uT29 zT40 I I hb3 oM sL) (lK (eA iT40 zT40 I hrs.rd hgr) (SL.bx (aL zeroValue40) fun b11=>?_))
    refine SL.O2 (sK 0 zT40 I I I I I sB) ?_
    refine SL.nT (SC.sR (lA I (SL.nT (bK ?_))))
    refine oP (ι:=Nat) (fun j=>[(2,pp b2 0),(4,pp b4 0),(5,.slice p1 RL.length c1),(6,.slice p2 CL.length c2),(7,.slice (some ⟨b32,0,none⟩) RL.length RL.length),(9,.slice q rs.length dd),(10,vi k),(11,pp b11 0),(12,vi j)]) (fun _=>g4)
     (fun j=>pt b11 (.cells #[vi xi,vi xd,.slice xp co.sides.length xc] 40 (0,0)) :: rowA encSv 27 (.slice (some ⟨b32,0,none⟩) RL.length RL.length) vs :: (ownR vs ((co.sides.take j).foldl (colStep RL k) M) ++ (pt b4 (.cells #[vi 0,vi 0,.slice none 0 0] 55 (0,0)) :: pt b2 (.cells #[v] 31 (0,0)) :: s)))
     (fun j=>j ≤ co.sides.length) (fun j=>co.sides.length - j) 0 sB rfl rfl (Nat.zero_le _) ?_
    rintro j hj
    refine sQ (SC.sR (lM I (lU (fA uT40 I zT38 I) (lK (qL (v:=.slice xp co.sides.length xc) iT38 I (cO 0 I I)) (lU (eN uT38 I) (lU (lS I I) (SL.nT ?_)))))))
    refine iP I (fun hlt3=>?_) (fun hlt3=>?_)
    ·have hjl : j < co.sides.length:=oM
     have hb2:=SlA.based hsv oM
     have hgj : co.sides[((j : Nat) : Int).toNat]? = some co.sides[j]:=gE hjl
     have hts : (co.sides.take (j + 1)).foldl (colStep RL k) M = colStep RL k ((co.sides.take j).foldl (colStep RL k) M) co.sides[j]:=by
      rw [tS hjl,List.foldl_append]; rfl
     have hsh2:=Shape.fold RL k (co.sides.take j) hsh
     generalize (co.sides.take j).foldl (colStep RL k) M = M2 at *
     generalize co.sides[j] = z at *
     refine kP (tN (sQ (bK (SC.sR (lM I (lU (fA uT40 I zT38 I) (lK (qL (v:=.slice xp co.sides.length xc) iT38 I (cO 0 I I)) (lM I (lU (iA uT38 zT42 I I hb2 oM sL) (lU (fC uT42 I zT3 I (by assumption)) ?_))))))))))
     refine lK (pA (o:=0) (u:=vi z.cell) iT3 I hsv.rd hgj I) (lW (cL call109 I (refIndex_spec E g4 _ _ RL z.cell hr1 oM hasc)) ?_)
     rintro _ _ _ ⟨rfl,rfl,rfl⟩
     refine lA I (SL.nT (SC.sR (lM I (lU (gQ I I) (SL.nT ?_)))))
     refine iP I (fun hge=>?_) (fun hge=>?_)
     ·have hcon:=idx_con hge
      have hidx : idxI RL z.cell = lbI RL z.cell:=by unfold idxI; rw [if_pos hcon]
      rw [hidx]
      have hi:=lb_get hasc hcon
      have hvi : lbI RL z.cell < vs.length:=oM
      obtain ⟨bv,hgv⟩:=hvg.get hvi
      have hMi : lbI RL z.cell < M2.length:=by rw [hsh2.1]; exact hi
      have hgM : M2[lbI RL z.cell]? = some M2[lbI RL z.cell]:=gE hMi
      have hrl2:=(hsh2.2 _ (gM hMi)).1
      have hgv' : vs[((lbI RL z.cell : Nat) : Int).toNat]? = some ⟨some ⟨bv,0,none⟩,CL.length,CL.length⟩:=hgv
      have hstep : colStep RL k M2 z = addAt M2 (lbI RL z.cell) k z.sign:=by unfold colStep; rw [if_pos hcon]
      generalize M2[lbI RL z.cell] = r at *
      clear hidx
      generalize lbI RL z.cell = i at *
      have hgk : r[((k : Nat) : Int).toNat]? = some (r[k]'oM):=gE _
      have hadd:=addAt_set (k:=k) (z:=z.sign) hgM hgk
      generalize r[k]'oM = a at *
      refine dW [20] [(0,2),(1,2),(2,2),(3,1),(4,2),(5,2),(6,2),(7,2),(8,1),(9,2),(10,2),(11,1),(12,2),(13,1),(14,2),(15,2),(16,2),(17,1),(18,2),(19,2),(20,0)] Tryz.mixed (by kernel_rfl) ?_
      refine pU I (mV I) (pU I (mV I) (pU I (iA uT22 zT27 I I I oM sL) (pK I (eB (u:=.slice (some ⟨bv,0,none⟩) CL.length CL.length) iT27 I (Rd.rowA 1 I) hgv' I) (pU I (mV I) (pU I (mV I) (pU I (mV I) (pU I (iA uT22 zT27 I I I oM sL) (pK I (eB (u:=.slice (some ⟨bv,0,none⟩) CL.length CL.length) iT27 I (Rd.rowA 1 I) hgv' I) (pU I (mV I) (pU I (iA uT27 zT3 I I I oM sL) (pK I (eB iT3 I (Rd.rowA (i + 2) (own_get hgv hgM)) hgk I) (pU I (fA uT40 I zT38 I) (pK I (qL (v:=.slice xp co.sides.length xc) iT38 I (cO 0 I I)) (pU I (mV I) (pU I (iA uT38 zT42 I I hb2 oM sL) (pU I (fC uT42 I zT3 I (by assumption)) ?_))))))))))))))))
      refine pK I (pA (o:=1) (u:=vi z.sign) iT3 I hsv.rd hgj I) (pU I (SU.addW I I) (pU I (iA uT27 zT3 I I I oM sL) (SP.on I (sT (a:=IntKind.i64.wrap (a + z.sign)) (i + 2) zT3 I I (own_get hgv hgM) oM I) (.inl dC) ?_)))
      rintro _ _ _ ⟨rfl,rfl⟩
      refine pN (bN (tN (rG (lM I (lU (aD I I oM) (lA I (nL ?_)))))))
      refine ST.to (fun w hw=>?_) (g':=g4) (s':=pt b11 (.cells #[vi xi,vi xd,.slice xp co.sides.length xc] 40 (0,0)) :: rowA encSv 27 (.slice (some ⟨b32,0,none⟩) RL.length RL.length) vs :: (ownR vs (colStep RL k M2 z) ++ (pt b4 (.cells #[vi 0,vi 0,.slice none 0 0] 55 (0,0)) :: pt b2 (.cells #[v] 31 (0,0)) :: s))) ?_
      ·have hst:=own_set (S:=pt b4 (.cells #[vi 0,vi 0,.slice none 0 0] 55 (0,0)) :: pt b2 (.cells #[v] 31 (0,0)) :: s) (r.set k (IntKind.i64.wrap (a + z.sign))) hgv (by rw [hvR,hsh2.1] : vs.length = M2.length)
       rw [hstep,hadd,← hst]
       exact hw
      exact gA (j + 1) sB I (by rw [hts]) oM oM
     ·have hcon : RL.contains z.cell = false:=by
       cases hcc : RL.contains z.cell with
       | false=>rfl
       | true=>exact absurd (show idxI RL z.cell ≥ 0 by unfold idxI; rw [if_pos hcc]; omega) hge
      have hstep : colStep RL k M2 z = M2:=by unfold colStep; rw [hcon]; rfl
      refine kP (bN (tN (rG (lM I (lU (aD I I oM) (lA I (nL ?_)))))))
      exact gA (j + 1) sB I (by rw [hts,hstep]) oM oM
    ·have hjj : co.sides.take j = co.sides:=tL oM
     rw [hjj,← hsucc]
     refine xI (tX (tX (bX (bN (tN (rG (lM I (lU (aD I I oM) (lA I (nL (dR (.cons _ (.refl _)) ?_)))))))))))
     exact gA (k + 1) sB I I oM oM
   ·have hkk : k = CL.length:=oM
    subst hkk
    have hsh:=matTo_shape A RL CL CL.length
    refine xI (tX (tX (bX (tN (sQ (SC.sR (lM I (lU (eN uT27 I) (lU (eQ I I) (SL.nT ?_))))))))))
    refine iP I (fun hz=>?_) (fun hz=>?_)
    ·have hz0 : RL.length = 0:=oM
     rw [if_pos hz0]
     have hvs : vs = []:=List.eq_nil_of_length_eq_zero oM
     subst hvs
     refine SC.sR (lM I (lU (eN uT27 I) (lU (SU.build I (buildC55 _)) (SL.O2 (sK 1 zT55 I I I I I sB) ?_))))
     refine SL.nT (rE (tR ?_))
     exact ST.retCD 1 s (.inl I) results50 I iT55 zT55 I I (.cons _ (.cons _ (.cons _ (.refl _)))) ⟨I,hle,matR_nil _ _⟩
    ·have hRp : 0 < RL.length:=oM
     rw [if_neg oM]
     refine SC.freezeLs (by rw [hvR,hsh.1]) (fun x hx r hr=>by obtain ⟨bb,rfl⟩:=hvg x hx; exact ((hsh.2 r hr).1).symm) fun g5 hle5 hls=>?_
     refine kP (tN (SC.sR (lM I (lW (cL call110 I (refOf_mat E g5 _ _ _ CL.length hls (hsh.rows hRp oM oM))) ?_))))
     rintro _ g6 _ ⟨rfl,hle6,mp,mk,rfl,hmr⟩
     refine SL.O2 (sK 0 zT55 I I I I I sB) ?_
     refine SL.nT (rE ?_)
     rw [hsh.1] at hmr ⊢
     exact ST.retCD 0 s (.inl I) results50 I iT55 zT55 I I (.cons _ (.cons _ (.refl _))) ⟨I,hle.trans (hle5.trans hle6),mp,mk,I,hmr⟩
theorem maxD_perm {l m : List Cl} (h : l.Perm m) : ∀ a,maxD l a = maxD m a:=by
 induction h with
 | nil=>exact fun _=>rfl
 | cons x _ ih=>exact fun a=>ih _
 | swap x y l=>intro a; simp only [maxD]; congr 1; omega
 | trans _ _ h1 h2=>exact fun a=>(h1 a).trans (h2 a)
theorem dim_spec (E : World) (g : PH) (s : Own) (v : Value) (l : List Cl) (hv : Cells g v l) (hf : Fits l) :
  Ctr Tryz.prog E 45 #[.agg #[v]] g s (fun r g' s'=>r = vi (dimC l) ∧ s = s' ∧ Le g g'):=by
 have hft:=tabC_fits hf
 have hfl:=hft.1
 refine Ctr.of (args:=[.agg #[v]]) func45 I ntmps45 (bE I) ?_
 refine SC.sR (SL.bx (bO I) fun b1=>?_)
 refine lA I (SL.nT (SC.sR (lA I (SL.nT (sQ (SC.sR (lK (qV 0 iT31 zT31 I I I) (lW (cL kT56 I (of_spec E g _ v l hv hf)) ?_))))))))
 rintro tv g1 _ ⟨rfl,hle,ht⟩
 have htab:=ht
 obtain ⟨b,m,iv,rs,rfl,hb,hm,hI,hall⟩:=ht
 obtain ⟨es,clk,hes,hmi⟩:=hm
 refine lU (nC I) (lU (fA uT90 I zT88 I) (lK (qL isAgg88 I (cK hb I)) (lW (SO.range underlying88 I hes) ?_)))
 rintro _ _ _ ⟨it,rfl,rfl,rfl⟩
 refine SL.nT (bK ?_)
 have hlen:=hall.length
 refine oP (ι:=List MapEntry × List (Int × Value) × List Cl) (fun i=>[(3,vi (maxD i.2.2 (-1))),(11,pp it 0)]) (fun _=>g1)
  (fun i=>iter it m es clk i.1 :: pt b1 (.cells #[v] 31 (0,0)) :: s)
  (fun i=>RVis (rs.map rcPair) es i.1 i.2.1 ∧ (∀ c ∈ i.2.2,c ∈ tabC l) ∧ i.2.1.map Prod.fst = i.2.2.map Cl.id) (fun i=>rs.length - i.2.1.length)
  ([],[],[]) sB rfl rfl ⟨RVis.nil _ _,by simp,rfl⟩ ?_
 rintro ⟨vis,vl,vc⟩ ⟨hrv,hvs,hvl⟩
 dsimp only at hrv hvs hvl ⊢
 have hvle:=hrv.len hmi
 simp only [List.length_map] at hvle
 have hvcl : vl.length = vc.length:=by have:=congrArg List.length hvl; simpa using this
 refine SC.sR (lW (SO.nextP 0 I I hes hmi hrv) ?_)
 rintro _ _ _ ⟨rfl,hcase⟩
 rcases hcase with ⟨rfl,rfl,hperm⟩ | ⟨e,pr,he,hp1,hk1,hv1,hrv2,rfl,rfl⟩
 ·have hp:=visited_perm hvl hvs (tabC_nodup l) hall hperm
  refine lU (xT I I) (SL.nT (sQ (cF I (xI (tX (tX (bX (tN (SC.sR (lM I (lA I (SL.nT (rE (dR (s':=s) (.cons _ (.cons _ (.refl _))) ?_))))))))))))))
  exact ST.ret1 (.inl rfl) results45 rfl ⟨by rw [maxD_perm hp]; rfl,rfl,hle⟩
 ·obtain ⟨x,hx,rfl⟩:=List.mem_map.1 hp1
  obtain ⟨cx,hcm,hcx⟩:=all2_mem hall hx
  have hvs2 : ∀ c ∈ vc ++ [cx],c ∈ tabC l:=fun c hc=>by
   rcases List.mem_append.1 hc with h | h
   ·exact hvs c h
   ·simp at h; rw [h]; exact hcm
  have hvl2 : (vl ++ [rcPair x]).map Prod.fst = (vc ++ [cx]).map Cl.id:=by rw [List.map_append,List.map_append,hvl]; simp [rcPair,hcx.1]
  have hm2:=hrv2.len hmi
  simp only [List.length_map,List.length_append,List.length_singleton] at hm2
  obtain ⟨xi,xd,xv⟩:=x
  have hxd : xd = cx.dim:=hcx.2.1
  subst hxd
  have hmx:=maxD_append cx vc (-1)
  refine lU (xT I I) (SL.nT (sQ (cT I (kP (tN (bK (SC.sR (lK (SQ.entryP 0 I I hes hmi he hk1 hv1) (lU (xT I I) (SL.bx (aL zeroValue40) fun b5=>?_))))))))))
  refine SL.O2 (sK 0 zT40 I I I I I sB) ?_
  refine SL.nT (rG (lM I (lU (fA uT40 I zT3 I) (lK (qL iT3 I (cO 0 I I)) (lU (SU.eq (v':=vi (maxD (vc ++ [cx]) (-1))) (SU.maxI I I) (congrArg vi hmx.symm)) (lA I (nL (bN (dR (s':=iter it m es clk (vis ++ [e]) :: pt b1 (.cells #[v] 31 (0,0)) :: s) (.cons _ (.refl _)) ?_)))))))))
  exact gA (vis ++ [e],vl ++ [rcPair ⟨xi,cx.dim,xv⟩],vc ++ [cx]) sB I I ⟨hrv2,hvs2,hvl2⟩ lN
def sideIds (l : List Cl) : List Int:=l.flatMap fun c=>c.sides.map Side.cell
theorem sideIds_has (A : List Cl) (k : Int) : (sideIds A).contains k = sideOf A k:=by
 rw [Bool.eq_iff_iff]
 simp [sideIds,sideOf,hasC]
theorem sideIds_succ {A : List Cl} {k : Nat} (h : k < A.length) : sideIds (A.take (k + 1)) = sideIds (A.take k) ++ A[k].sides.map Side.cell:=by
 unfold sideIds
 rw [tS h,List.flatMap_append]
 simp only [List.flatMap_cons,List.flatMap_nil,List.append_nil]
theorem flags_no {A : List Cl} {id : Int} (h : findT A id = none) (m : List Int) : flags A (m ++ [id]) = flags A m:=by
 unfold flags
 refine List.map_congr_left fun c hc=>?_
 have:=List.find?_eq_none.1 h c hc
 simp only [decide_eq_true_eq] at this
 simp [this]
theorem mapS_succ {ss : List Side} {j : Nat} (h : j < ss.length) (m : List Int) : m ++ (ss.take (j + 1)).map Side.cell = (m ++ (ss.take j).map Side.cell) ++ [ss[j].cell]:=by
 rw [tS h,List.map_append,List.append_assoc]; rfl
theorem refTops_spec (E : World) (g : PH) (s : Own) (v : Value) (l : List Cl) (hv : Cells g v l) (hf : Fits l) :
  Ctr Tryz.prog E 48 #[.agg #[v]] g s (fun r g' s'=>s = s' ∧ Le g g' ∧ Ints g' r (topsC l)):=by
 have hft:=tabC_fits hf
 have hfl:=hft.1
 have hsrt:=tabC_sorted l
 have hnd:=tabC_nodup l
 refine Ctr.of (args:=[.agg #[v]]) func48 I ntmps48 (bE I) ?_
 refine SC.sR (SL.bx (bO I) fun b1=>?_)
 refine lA I (SL.nT (SC.sR (lA I (SL.nT (SC.sR (lK (qV 0 iT31 zT31 I I I) (lW (cL call102 I (refCells_spec E g _ _ l hv hf)) ?_)))))))
 rintro v11 g1 _ ⟨rfl,hle,hc⟩
 obtain ⟨rs,hrs,hall⟩:=hc
 have hcs : Cells g1 _ (tabC l):=⟨rs,hrs,hall⟩
 obtain ⟨q,dd,rfl⟩:=hrs.form
 have hrl:=hall.length
 refine lA I (SL.nT (SC.sR (lM I (lU (eN uT29 I) (lW (mK encBool false sty127 I I I oM oM) ?_)))))
 rintro _ _ _ ⟨b14,rfl,rfl,rfl⟩
 refine lA I (SL.nT (sQ (SC.sR (lA I (SL.nT (bK ?_))))))
 unfold topsC
 generalize tabC l = A at *
 refine SC.to (g':=g1) (s':=rowA encBool 4 (.slice (some ⟨b14,0,none⟩) rs.length rs.length) (flags A (sideIds (A.take 0))) :: pt b1 (.cells #[v] 31 (0,0)) :: s) (fun w hw=>by rw [show sideIds (A.take 0) = [] from I,flags_nil,hrl]; exact hw) ?_
 refine oP (ι:=Nat) (fun i=>[(3,.slice none 0 0),(4,.slice q rs.length dd),(5,.slice (some ⟨b14,0,none⟩) rs.length rs.length),(6,vi i)]) (fun _=>g1)
  (fun i=>rowA encBool 4 (.slice (some ⟨b14,0,none⟩) rs.length rs.length) (flags A (sideIds (A.take i))) :: pt b1 (.cells #[v] 31 (0,0)) :: s)
  (fun i=>i ≤ A.length) (fun i=>A.length - i) 0 sB rfl rfl (Nat.zero_le _) ?_
 intro k hk
 refine sQ (SC.sR (lM I (lM I (lU (eN uT29 I) (lU (lS I I) (SL.nT ?_))))))
 refine iP I (fun hlt=>?_) (fun hlt=>?_)
 ·have hkl : k < A.length:=oM
  have hkr : k < rs.length:=oM
  have hb1:=hrs.based oM
  have hcr:=hall.get (gE hkl) (gE hkr)
  have hgr : rs[((k : Nat) : Int).toNat]? = some rs[k]:=gE hkr
  have hsucc:=sideIds_succ hkl
  have hxl:=hft.2 _ (gM hkl)
  generalize A[k] = x at *
  generalize rs[k] = r at *
  generalize sideIds (A.take k) = m at *
  obtain ⟨ri,rd,rp,rn,rc⟩:=r
  have hsv : SlA encSide g1 (.slice rp rn rc) x.sides:=hcr.2.2
  have hxn : rn = x.sides.length:=by obtain ⟨q,cc,hq⟩:=SlA.form hsv; simp at hq; exact hq.2.1
  subst hxn
  refine kP (tN (sQ (bK (SC.sR (lA I (SL.nT (bK ?_)))))))
  refine oP (ι:=Nat) (fun j=>[(3,.slice none 0 0),(4,.slice q rs.length dd),(5,.slice (some ⟨b14,0,none⟩) rs.length rs.length),(6,vi k),(7,vi j)]) (fun _=>g1)
   (fun j=>rowA encBool 4 (.slice (some ⟨b14,0,none⟩) rs.length rs.length) (flags A (m ++ (x.sides.take j).map Side.cell)) :: pt b1 (.cells #[v] 31 (0,0)) :: s)
   (fun j=>j ≤ x.sides.length) (fun j=>x.sides.length - j) 0 sB rfl (by simp) (Nat.zero_le _) ?_
  intro j hj
  refine sQ (SC.sR (lM I (lM I (lM I (lU (iA uT29 zT40 I I hb1 oM sL) (lU (fC uT40 I zT38 I hb1) (lK (pA (e:=encCell) (o:=2) (u:=.slice rp x.sides.length rc) iT38 I hrs.rd hgr I) (lU (eN uT38 I) (lU (lS I I) (SL.nT ?_))))))))))
  refine iP I (fun hlt2=>?_) (fun hlt2=>?_)
  ·have hjl : j < x.sides.length:=oM
   have hb2:=SlA.based hsv oM
   have hgj : x.sides[((j : Nat) : Int).toNat]? = some x.sides[j]:=gE hjl
   have hms:=mapS_succ hjl m
   generalize m ++ (x.sides.take j).map Side.cell = m2 at *
   generalize x.sides[j] = z at *
   have hfl2 : (flags A m2).length = A.length:=by simp [flags]
   rcases at_find hsrt z.cell with ⟨hf0,hat⟩ | ⟨c,kk,hf0,hat,hck⟩
   ·refine kP (tN (sQ (bK (SC.sR (lM I (lM I (lM I (lU (iA uT29 zT40 I I hb1 oM sL) (lU (fC uT40 I zT38 I hb1) (lK (pA (e:=encCell) (o:=2) (u:=.slice rp x.sides.length rc) iT38 I hrs.rd hgr I) (lM I (lU (iA uT38 zT42 I I hb2 oM sL) (lU (fC uT42 I zT3 I hb2) (lK (pA (o:=0) (u:=vi z.cell) iT3 I hsv.rd hgj I) (lW (cL call103 I (at_spec E g1 _ _ A z.cell hcs hfl hsrt)) ?_)))))))))))))))
    rintro _ _ _ ⟨rfl,rfl,rfl⟩
    rw [hat]
    refine lA I (SL.nT (SC.sR (lM I (lU (SU.eq (v':=vb false) (gQ I I) (congrArg vb (decide_eq_false oM))) (SL.nT (cF I (kP (bN (tN (rG (lM I (lU (aD I I oM) (lA I (nL ?_))))))))))))))
    exact gA (j + 1) sB I (by rw [hms,flags_no hf0]) oM oM
   ·have hkl2 : kk < A.length:=(List.getElem?_eq_some_iff.1 hck).1
    have hset : (flags A m2).set kk true = flags A (m2 ++ [z.cell]):=by rw [flags_set hnd hck,(findT_mem hf0).2]
    refine kP (tN (sQ (bK (SC.sR (lM I (lM I (lM I (lU (iA uT29 zT40 I I hb1 oM sL) (lU (fC uT40 I zT38 I hb1) (lK (pA (e:=encCell) (o:=2) (u:=.slice rp x.sides.length rc) iT38 I hrs.rd hgr I) (lM I (lU (iA uT38 zT42 I I hb2 oM sL) (lU (fC uT42 I zT3 I hb2) (lK (pA (o:=0) (u:=vi z.cell) iT3 I hsv.rd hgj I) (lW (cL call103 I (at_spec E g1 _ _ A z.cell hcs hfl hsrt)) ?_)))))))))))))))
    rintro _ _ _ ⟨rfl,rfl,rfl⟩
    rw [hat]
    refine lA I (SL.nT (SC.sR (lM I (lU (SU.eq (v':=vb true) (gQ I I) (congrArg vb (decide_eq_true oM))) (SL.nT (cT I (rG (lM I (lM I (lU (iA underlying127 zT4 I I I oM sL) (SL.O2 (sT (e:=encBool) (a:=true) 0 zT4 I I I (by rw [hfl2]; omega) I) ?_)))))))))))
    refine nL (bN (tN (rG (lM I (lU (aD I I oM) (lA I (nL ?_)))))))
    exact gA (j + 1) sB rfl (by rw [hms,← hset]; rfl) oM oM
  ·have hjj : x.sides.take j = x.sides:=tL oM
   rw [hjj,← hsucc]
   refine xI (tX (tX (bX (bN (tN (rG (lM I (lU (aD I I oM) (lA I (nL ?_))))))))))
   exact gA (k + 1) sB I I oM oM
 ·have hkk : A.take k = A:=tL oM
  rw [hkk]
  refine xI (tX (tX (bX (tN (sQ (SC.sR (lA I (SL.nT (bK (cP (List.Perm.swap _ _ _) (cP (List.Perm.swap _ _ _) (SC.nilRow 3 1 ?_))))))))))))
  refine oP (ι:=Value × Nat) (fun i=>[(3,i.1),(4,.slice q rs.length dd),(5,.slice (some ⟨b14,0,none⟩) rs.length rs.length),(9,vi i.2)]) (fun _=>g1)
   (fun i=>rowA encInt 3 i.1 (((A.take i.2).filter fun c=>!sideOf A c.id).map Cl.id) :: rowA encBool 4 (.slice (some ⟨b14,0,none⟩) rs.length rs.length) (flags A (sideIds A)) :: pt b1 (.cells #[v] 31 (0,0)) :: s)
   (fun i=>i.2 ≤ A.length) (fun i=>A.length - i.2) (.slice none 0 0,0) sB rfl rfl (Nat.zero_le _) ?_
  rintro ⟨ov,i⟩ hi
  dsimp only at hi ⊢
  refine sQ (SC.sR (lM I (lM I (lU (eN uT29 I) (lU (lS I I) (SL.nT ?_))))))
  refine iP I (fun hlt3=>?_) (fun hlt3=>?_)
  ·have hil : i < A.length:=oM
   have hir : i < rs.length:=oM
   have hb1:=hrs.based oM
   have hcr:=hall.get (gE hil) (gE hir)
   have hgr : rs[((i : Nat) : Int).toNat]? = some rs[i]:=gE hir
   have hsucc:=filt_succ hil (fun c=>!sideOf A c.id) Cl.id
   have hlek:=filt_le A i (fun c=>!sideOf A c.id) Cl.id
   have hgf : (flags A (sideIds A))[((i : Nat) : Int).toNat]? = some (sideOf A A[i].id):=by rw [← sideIds_has]; exact flags_get (gE hil)
   generalize A[i] = x at *
   generalize rs[i] = r at *
   refine kP (tN (sQ (bK (SC.sR (lM I (lM I (lU (iA underlying127 zT4 I I I oM sL) (lK (eB (e:=encBool) isAgg4 I (Rd.rowA 1 I) hgf I) (lU (SU.not I) (SL.nT ?_))))))))))
   refine iQ I (fun htop=>?_) (fun htop=>?_)
   ·refine rG (lM rfl (lM rfl (lM rfl (lU (iA uT29 zT40 rfl rfl hb1 oM sL) (lU (fC uT40 rfl zT3 rfl hb1) (lK (pA (e:=encCell) (o:=0) (u:=vi x.id) iT3 rfl hrs.rd hgr (by rw [← hcr.1]; rfl)) ?_))))))
    refine lW (bS sty27 I I I (szs_mk sB) dC) ?_
    rintro _ _ _ ⟨b64,rfl,rfl,rfl⟩
    refine lW (aP (e:=encInt) 0 x.id sty27 I I I I I oM oM) ?_
    rintro ov' _ _ ⟨rfl,rfl⟩
    refine lA I (nL (bN (tN (rG (lM I (lU (aD I I oM) (lA I (nL ?_))))))))
    refine ST.to (fun w hw=>?_) (g':=g1) (s':=rowA encInt 3 ov' (((A.take (i + 1)).filter fun c=>!sideOf A c.id).map Cl.id) :: rowA encBool 4 (.slice (some ⟨b14,0,none⟩) rs.length rs.length) (flags A (sideIds A)) :: pt b1 (.cells #[v] 31 (0,0)) :: s) ?_
    ·rw [hsucc,if_pos (by simpa using htop)]; exact hw
    exact gA (ov',i + 1) sB I I (by dsimp only; omega) lN
   ·refine kP (bN (tN (rG (lM I (lU (aD I I oM) (lA I (nL ?_)))))))
    refine ST.to (fun w hw=>?_) (g':=g1) (s':=rowA encInt 3 ov (((A.take (i + 1)).filter fun c=>!sideOf A c.id).map Cl.id) :: rowA encBool 4 (.slice (some ⟨b14,0,none⟩) rs.length rs.length) (flags A (sideIds A)) :: pt b1 (.cells #[v] 31 (0,0)) :: s) ?_
    ·rw [hsucc,if_neg (by simpa using htop),List.append_nil]; exact hw
    exact gA (ov,i + 1) sB I I (by dsimp only; omega) lN
  ·have hii : A.take i = A:=tL oM
   rw [hii]
   refine xI (tX (tX (bX (tN (SC.sR (lM I (lA I (SL.nT (rE (fT fun g2 hle2 hs2=>?_))))))))))
   refine dR (s':=s) (.cons _ (.cons _ (.refl _))) ?_
   exact ST.ret1 (.inl I) results48 I ⟨I,hle.trans hle2,hs2⟩
theorem closF_known {A : List Cl} {ids : List Int} {x : Int} (h : x ∈ closF A ids) : ∃ c ∈ A,c.id = x:=by
 obtain ⟨c,hc,e⟩:=closF_mem h
 exact ⟨c,hc,e⟩
theorem tab_asc2 (l : List Cl) : ((tabC l).map Cl.id).Pairwise (· < ·):=by
 have h1:=tabC_sorted l
 have h2:=tabC_nodup l
 have h3:=h1.and h2
 exact h3.imp fun h=>by omega
theorem closureC_list (l : List Cl) (ids : List Int) : closureC l ids = ((tabC l).filter fun c=>(closF (tabC l) ids).contains c.id).map Cl.id:=by
 unfold closureC
 refine strict_unique ?_ ?_ fun x=>?_
 ·have h2:=sortI_sorted (closF (tabC l) ids)
  have h3 : (sortI (closF (tabC l) ids)).Nodup:=(sortI_perm _).symm.nodup (closF_nodup _ _)
  exact (h2.and h3).imp fun ⟨h4,h5⟩=>by omega
 ·exact ((tab_asc2 l)).sublist (List.filter_sublist.map _)
 ·rw [(sortI_perm _).mem_iff,List.mem_map]
  constructor
  ·intro hx
   obtain ⟨c,hc,rfl⟩:=closF_known hx
   exact ⟨c,List.mem_filter.2 ⟨hc,by simpa using hx⟩,I⟩
  ·rintro ⟨c,hc,rfl⟩
   simpa using (List.mem_filter.1 hc).2
theorem refClosure_spec (E : World) (g : PH) (s : Own) (v iv : Value) (l : List Cl) (ids : List Int) (hv : Cells g v l) (hf : Fits l) (hi : Ints g iv ids) (hb : ids.length + costF (tabC l) [] < 1099511627776) :
  Ctr Tryz.prog E 54 #[.agg #[v],iv] g s (fun r g' s'=>s = s' ∧ Le g g' ∧ Ints g' r (closureC l ids)):=by
 have hft:=tabC_fits hf
 have hfl:=hft.1
 have hsrt:=tabC_sorted l
 have hnd:=tabC_nodup l
 rw [closureC_list]
 refine Ctr.of (args:=[.agg #[v],iv]) func54 I ntmps54 (bE I) ?_
 refine SC.sR (SL.bx (bO I) fun b2=>?_)
 refine lA I (SL.nT (SC.sR (lK (qV 0 iT31 zT31 I I I) (lW (cL call102 I (refCells_spec E g _ _ l hv hf)) ?_))))
 rintro v9 g1 _ ⟨rfl,hle,hc⟩
 obtain ⟨rs,hrs,hall⟩:=hc
 have hcs : Cells g1 _ (tabC l):=⟨rs,hrs,hall⟩
 obtain ⟨q,dd,rfl⟩:=hrs.form
 have hrl:=hall.length
 refine lA I (SL.nT (SC.sR (lM I (lM I (lW (cL call112 I (reached_spec E g1 _ _ _ (tabC l) ids hcs (SlA.mono hi hle) hft hsrt hnd hb)) ?_)))))
 rintro v13 g2 _ ⟨rfl,hle2,hfg⟩
 obtain ⟨qf,df,rfl⟩:=SlA.form hfg
 have hrs:=hrs.mono hle2
 have hall:=hall.mono fun _ _=>CellR.mono hle2
 have hle:=hle.trans hle2
 refine lA I (SL.nT (SC.sR (lA I (SL.nT (sQ (SC.sR (lA I (SL.nT (bK ?_)))))))))
 generalize tabC l = A at *
 have hffl : (flags A (closF A ids)).length = A.length:=by simp [flags]
 refine SC.nilRow 3 1 ?_
 refine oP (ι:=Value × Nat) (fun i=>[(5,.slice q rs.length dd),(6,.slice qf (flags A (closF A ids)).length df),(7,i.1),(8,vi i.2)]) (fun _=>g2) (fun i=>rowA encInt 3 i.1 (((A.take i.2).filter fun c=>(closF A ids).contains c.id).map Cl.id) :: pt b2 (.cells #[v] 31 (0,0)) :: s)
  (fun i=>i.2 ≤ A.length) (fun i=>A.length - i.2) (.slice none 0 0,0) sB rfl rfl (Nat.zero_le _) ?_
 rintro ⟨ov,k⟩ hk
 dsimp only at hk ⊢
 refine sQ (SC.sR (lM I (lM I (lU (eN uT29 I) (lU (lS I I) (SL.nT ?_))))))
 refine iP I (fun hlt=>?_) (fun hlt=>?_)
 ·have hkl : k < A.length:=oM
  have hkr : k < rs.length:=oM
  have hb1:=hrs.based oM
  have hb2:=SlA.based hfg oM
  have hcr:=hall.get (gE hkl) (gE hkr)
  have hgr : rs[((k : Nat) : Int).toNat]? = some rs[k]:=gE hkr
  have hgf : (flags A (closF A ids))[((k : Nat) : Int).toNat]? = some ((closF A ids).contains A[k].id):=flags_get (gE hkl)
  have hsucc:=filt_succ hkl (fun c=>(closF A ids).contains c.id) Cl.id
  have hlek:=filt_le A k (fun c=>(closF A ids).contains c.id) Cl.id
  generalize A[k] = x at *
  generalize rs[k] = r at *
  refine kP (tN (sQ (bK (SC.sR (lM I (lM I (lU (iA underlying127 zT4 I I hb2 oM sL) (lK (eB (e:=encBool) isAgg4 I (SlA.rd hfg) hgf I) (SL.nT ?_)))))))))
  refine iQ I (fun hin=>?_) (fun hin=>?_)
  ·refine rG (lM rfl (lM rfl (lM rfl (lU (iA uT29 zT40 rfl rfl hb1 oM sL) (lU (fC uT40 rfl zT3 rfl hb1) (lK (pA (e:=encCell) (o:=0) (u:=vi x.id) iT3 rfl hrs.rd hgr (by rw [← hcr.1]; rfl)) ?_))))))
   refine lW (bS sty27 I I I (szs_mk sB) dC) ?_
   rintro _ _ _ ⟨b30,rfl,rfl,rfl⟩
   refine lW (aP (e:=encInt) 0 x.id sty27 I I I I I oM oM) ?_
   rintro ov' _ _ ⟨rfl,rfl⟩
   refine lA I (nL (bN (tN (rG (lM I (lU (aD I I oM) (lA I (nL ?_))))))))
   refine ST.to (fun w hw=>?_) (g':=g2) (s':=rowA encInt 3 ov' (((A.take (k + 1)).filter fun c=>(closF A ids).contains c.id).map Cl.id) :: pt b2 (.cells #[v] 31 (0,0)) :: s) ?_
   ·rw [hsucc,if_pos hin]; exact hw
   exact gA (ov',k + 1) sB I I (by dsimp only; omega) lN
  ·refine kP (bN (tN (rG (lM I (lU (aD I I oM) (lA I (nL ?_)))))))
   refine ST.to (fun w hw=>?_) (g':=g2) (s':=rowA encInt 3 ov (((A.take (k + 1)).filter fun c=>(closF A ids).contains c.id).map Cl.id) :: pt b2 (.cells #[v] 31 (0,0)) :: s) ?_
   ·rw [hsucc,if_neg (by rw [hin]; decide),List.append_nil]; exact hw
   exact gA (ov,k + 1) sB I I (by dsimp only; omega) lN
 ·have hkk : A.take k = A:=tL oM
  rw [hkk]
  refine xI (tX (tX (bX (tN (SC.sR (lM I (lA I (SL.nT (rE (fT fun g3 hle3 hs3=>?_))))))))))
  refine dR (s':=s) (.cons _ (.refl _)) ?_
  exact ST.ret1 (.inl I) results54 I ⟨I,hle.trans hle3,hs3⟩
theorem refSub_spec (E : World) (g : PH) (s : Own) (v iv : Value) (l : List Cl) (ids : List Int) (hv : Cells g v l) (hf : Fits l) (hi : Ints g iv ids) (hb : ids.length + costF (tabC l) [] < 1099511627776) :
  Ctr Tryz.prog E 55 #[.agg #[v],iv] g s (fun r g' s'=>s = s' ∧ Le g g' ∧ ∃ u,r = .agg #[u] ∧ Cells g' u ((tabC l).filter fun c=>(closF (tabC l) ids).contains c.id)):=by
 have hft:=tabC_fits hf
 have hfl:=hft.1
 have hsrt:=tabC_sorted l
 have hnd:=tabC_nodup l
 refine Ctr.of (args:=[.agg #[v],iv]) func55 I ntmps55 (bE I) ?_
 refine SC.sR (SL.bx (bO I) fun b2=>?_)
 refine SL.bx (aL zeroValue31) fun b4=>?_
 refine SL.nT (SC.sR (lK (qV 1 iT31 zT31 I I I) (lW (cL call102 I (refCells_spec E g _ _ l hv hf)) ?_)))
 rintro v9 g1 _ ⟨rfl,hle,hc⟩
 obtain ⟨rs,hrs,hall⟩:=hc
 have hcs : Cells g1 _ (tabC l):=⟨rs,hrs,hall⟩
 obtain ⟨q,dd,rfl⟩:=hrs.form
 have hrl:=hall.length
 refine lA I (SL.nT (SC.sR (lM I (lM I (lW (cL call112 I (reached_spec E g1 _ _ _ (tabC l) ids hcs (SlA.mono hi hle) hft hsrt hnd hb)) ?_)))))
 rintro v13 g2 _ ⟨rfl,hle2,hfg⟩
 obtain ⟨qf,df,rfl⟩:=SlA.form hfg
 have hrs:=hrs.mono hle2
 have hall:=hall.mono fun _ _=>CellR.mono hle2
 have hle:=hle.trans hle2
 refine lA I (SL.nT (SC.sR (SL.bx (aL zeroValue31) fun b7=>?_)))
 refine SL.nT (sQ (SC.sR (lA I (SL.nT (bK ?_)))))
 generalize tabC l = A at *
 have hffl : (flags A (closF A ids)).length = A.length:=by simp [flags]
 refine SC.nilRow 40 3 ?_
 refine oP (ι:=Value × List Rc × Nat) (fun i=>[(4,pp b4 0),(5,.slice q rs.length dd),(6,.slice qf (flags A (closF A ids)).length df),(7,pp b7 0),(8,vi i.2.2)]) (fun _=>g2)
  (fun i=>rowA encCell 40 i.1 i.2.1 :: pt b7 (.cells #[i.1] 31 (0,0)) :: pt b4 (.cells #[.slice none 0 0] 31 (0,0)) :: pt b2 (.cells #[v] 31 (0,0)) :: s)
  (fun i=>i.2.2 ≤ A.length ∧ All2 (CellR g2) ((A.take i.2.2).filter fun c=>(closF A ids).contains c.id) i.2.1) (fun i=>A.length - i.2.2) (.slice none 0 0,[],0) sB rfl rfl ⟨Nat.zero_le _,trivial⟩ ?_
 rintro ⟨ov,acc,k⟩ ⟨hk,hacc⟩
 dsimp only at hk hacc ⊢
 have hal2:=hacc.length
 have hfl2:=List.length_filter_le (fun c : Cl=>(closF A ids).contains c.id) (A.take k)
 rw [List.length_take] at hfl2
 refine sQ (SC.sR (lM I (lM I (lU (eN uT29 I) (lU (lS I I) (SL.nT ?_))))))
 refine iP I (fun hlt=>?_) (fun hlt=>?_)
 ·have hkl : k < A.length:=oM
  have hkr : k < rs.length:=oM
  have hb1:=hrs.based oM
  have hb2:=SlA.based hfg oM
  have hcr:=hall.get (gE hkl) (gE hkr)
  have hgr : rs[((k : Nat) : Int).toNat]? = some rs[k]:=gE hkr
  have hgf : (flags A (closF A ids))[((k : Nat) : Int).toNat]? = some ((closF A ids).contains A[k].id):=flags_get (gE hkl)
  have htk : A.take (k + 1) = A.take k ++ [A[k]]:=tS hkl
  generalize A[k] = x at *
  generalize rs[k] = r at *
  obtain ⟨xp,xcap,hrx,hxs⟩:=cellR_form hcr
  subst hrx
  refine kP (tN (sQ (bK (SC.sR (lM I (lM I (lU (iA underlying127 zT4 I I hb2 oM sL) (lK (eB (e:=encBool) isAgg4 I (SlA.rd hfg) hgf I) (SL.nT ?_)))))))))
  refine iQ I (fun hin=>?_) (fun hin=>?_)
  ·refine dW [7,8,9] [(0,2),(1,1),(2,2),(3,2),(4,2),(5,1),(6,0),(7,0),(8,0),(9,0)] Tryz.mixed (by kernel_rfl) ?_
   refine pU rfl (fA uT31 rfl zT29 rfl) (pK rfl (qL (v:=ov) iT29 rfl (cO 1 rfl rfl)) (pU rfl (mV rfl) (pU rfl (mV rfl) (pU rfl (iA uT29 zT40 rfl rfl hb1 oM sL) (pK rfl (eA iT40 zT40 rfl hrs.rd hgr) (SP.o rfl (bS sty29 rfl rfl rfl (szs_mk sB) dC) dC (.inr (by rintro _ _ _ ⟨b30,rfl,rfl,rfl⟩; exact ⟨by exact Le.refl _,(by exact .cons _ (.refl _))⟩)) ?_))))))
   rintro _ _ _ ⟨b30,rfl,rfl,rfl⟩
   refine SP.o I (aP (e:=encCell) (l:=acc) 0 ⟨x.id,x.dim,⟨xp,x.sides.length,xcap⟩⟩ sty29 I I I I I oM oM) dC (.inl dC) ?_
   rintro v31 _ _ ⟨rfl,rfl⟩
   refine SP.facts fun ⟨w0,hw0⟩=>?_
   obtain ⟨q9,d9,rfl⟩:=rowA_form (i:=0) hw0 rfl
   clear hw0 w0
   refine oU I (fA uT31 I zT29 I) dC (.inl dC) (SP.on I (sK 1 zT29 I I I I I sB) (.inl dC) ?_)
   rintro _ _ _ ⟨rfl,rfl⟩
   refine pN (bN (tN (rG (lM I (lU (aD I I oM) (lA I (nL ?_)))))))
   refine gA (_,acc ++ [⟨x.id,x.dim,⟨xp,x.sides.length,xcap⟩⟩],k + 1) sB I I ⟨lN,?_⟩ lN
   dsimp only
   rw [htk,List.filter_append]
   simp only [List.filter_cons,hin,if_true,List.filter_nil]
   exact hacc.append ⟨hcr,trivial⟩
  ·refine kP (bN (tN (rG (lM I (lU (aD I I oM) (lA I (nL ?_)))))))
   refine gA (ov,acc,k + 1) sB I I ⟨lN,?_⟩ lN
   dsimp only
   rw [htk,List.filter_append]
   simp only [List.filter_cons,hin,List.filter_nil]
   simpa using hacc
 ·have hkk : A.take k = A:=tL oM
  rw [hkk] at hacc
  refine xI (tX (tX (bX (tN (sQ (fS fun g6 hle6 hs6=>?_))))))
  obtain ⟨q6,d6,rfl⟩:=hs6.form
  refine rG (lK (qV 0 iT31 zT31 I I I) (SL.O2 (sK 1 zT31 I I I I I sB) ?_))
  refine SL.nT (rE ?_)
  exact ST.retCD 1 s (.inl I) results55 I iT31 zT31 I I (.cons _ (.cons _ (.cons _ (.refl _)))) ⟨I,hle.trans hle6,_,I,acc,hs6,hacc.mono fun _ _=>CellR.mono hle6⟩
def Room (L S : Nat) (l : List Cl) : Prop:=l.length ≤ L ∧ ∀ c ∈ l,c.sides.length ≤ S
theorem Small.room {l : List Cl} (h : Small l) : Room 5000 1000000 l:=h
theorem Room.mono {L S L' S' : Nat} {l : List Cl} (h : Room L S l) (h1 : L ≤ L') (h2 : S ≤ S') : Room L' S' l:=⟨Nat.le_trans h.1 h1,fun c hc=>Nat.le_trans (h.2 c hc) h2⟩
theorem Room.fits {L S : Nat} {l : List Cl} (h : Room L S l) (h1 : L < 1099511627776) (h2 : S < 1099511627776) : Fits l:=⟨by have:=h.1; omega,fun c hc=>by have:=h.2 c hc; omega⟩
theorem Room.pick {L S : Nat} {l : List Cl} (h : Room L S l) (n : Int) : (pickC l n).sides.length ≤ S:=by
 unfold pickC
 rw [List.getD_eq_getElem?_getD]
 cases hc : l[(modW n l.length).toNat]? with
 | none=>simp [dflC]
 | some c=>exact h.2 c (List.mem_of_getElem? hc)
theorem Room.set {L S : Nat} {l : List Cl} (h : Room L S l) (k : Nat) {c : Cl} (hc : c.sides.length ≤ 2 * S + 1) : Room (L + 1) (2 * S + 1) (l.set k c):=by
 refine ⟨by rw [List.length_set]; have:=h.1; omega,fun d hd=>?_⟩
 rcases List.mem_or_eq_of_mem_set hd with hd | rfl
 ·have:=h.2 d hd; omega
 ·omega
theorem Room.snoc {L S : Nat} {l : List Cl} (h : Room L S l) {c : Cl} (hc : c.sides.length ≤ 2 * S + 1) : Room (L + 1) (2 * S + 1) (l ++ [c]):=by
 refine ⟨by rw [List.length_append,List.length_singleton]; have:=h.1; omega,fun d hd=>?_⟩
 rcases List.mem_append.1 hd with hd | hd
 ·have:=h.2 d hd; omega
 ·simp at hd; subst hd; omega
theorem room_ite {L S : Nat} {p : Prop} [Decidable p] {a b : List Cl} (ha : Room L S a) (hb : Room L S b) : Room L S (if p then a else b):=by split <;> assumption
theorem spoilC_room {L S : Nat} {l : List Cl} (h : Room L S l) (q0 q1 q2 : Int) : Room (L + 1) (2 * S + 1) (spoilC l q0 q1 q2):=by
 unfold spoilC
 split
 ·exact ⟨by simp,by simp⟩
 ·have hx:=h.pick q1
  have hy:=h.pick q2
  generalize pickC l q1 = x at *
  generalize modW q0 13 = m
  unfold spoilM
  repeat' with_reducible refine room_ite ?_ ?_
  ·exact h.set _ (c:=⟨_,_,x.sides⟩) (by show x.sides.length ≤ _; omega)
  ·exact h.set _ (c:=⟨_,_,x.sides⟩) (by show x.sides.length ≤ _; omega)
  ·exact ⟨by have:=List.length_eraseIdx_le l (modW q1 l.length).toNat; have:=h.1; omega,fun c hc=>by have:=h.2 c (List.mem_of_mem_eraseIdx hc); omega⟩
  ·exact h.set _ (by simp only [withS,List.length_set]; omega)
  ·exact h.set _ (by simp only [withS,List.length_set]; omega)
  ·exact h.set _ (by simp only [withS,List.length_set]; omega)
  ·exact h.set _ (by simp only [withS]; have:=List.length_eraseIdx_le x.sides (sideJ x q2); omega)
  ·exact h.set _ (by simp only [withS,List.length_append,List.length_singleton]; omega)
  ·exact h.snoc (c:=x) oM
  ·exact h.set _ (by simp only [withS,List.length_append]; omega)
  ·exact h.set _ (by simp only [withS,List.length_map]; omega)
  ·exact h.snoc (c:=⟨_,_,x.sides⟩) (by show x.sides.length ≤ _; omega)
  ·exact ⟨by have:=h.1; omega,fun c hc=>by have:=h.2 c hc; omega⟩
theorem tabC_room {L S : Nat} {l : List Cl} (h : Room L S l) : Room L S (tabC l):=by
 refine ⟨by have:=tabC_length l; have:=h.1; omega,fun c hc=>?_⟩
 have hc:=tabC_mem hc
 simp only [canonC,List.mem_map] at hc
 obtain ⟨c0,h0,rfl⟩:=hc
 simp only [normC,sortBy_length]
 exact h.2 c0 ((sortBy_mem l c0).1 h0)
theorem sum_room {S : Nat} {l : List Cl} (h : ∀ c ∈ l,c.sides.length ≤ S) : (l.map fun c=>c.sides.length).sum ≤ l.length * S:=by
 induction l with
 | nil=>simp
 | cons c r ih =>
  have h1:=h c (by simp)
  have h2:=ih fun d hd=>h d (by simp [hd])
  simp only [List.map_cons,List.sum_cons,List.length_cons,Nat.succ_mul]
  omega
theorem Room.cost {L S : Nat} {l : List Cl} (h : Room L S l) : costF (tabC l) [] ≤ L * S:=by
 have ht:=tabC_room h
 have h3:=sum_room ht.2
 have h4 : costF (tabC l) [] = ((tabC l).map fun c=>c.sides.length).sum:=by
  unfold costF
  rw [List.filter_eq_self.2 (by simp)]
 have h5 : (tabC l).length * S ≤ L * S:=Nat.mul_le_mul_right S ht.1
 omega
def Ids64 (l : List Cl) : Prop:=∀ c ∈ l,inI64 c.id
theorem Ids64.pick {l : List Cl} (h : Ids64 l) (n : Int) : inI64 (pickC l n).id:=by
 unfold pickC
 rw [List.getD_eq_getElem?_getD]
 cases hc : l[(modW n l.length).toNat]? with
 | none=>exact ⟨by decide,by decide⟩
 | some c=>exact h c (List.mem_of_getElem? hc)
theorem Ids64.set {l : List Cl} (h : Ids64 l) (k : Nat) {c : Cl} (hc : inI64 c.id) : Ids64 (l.set k c):=fun d hd=>by
 rcases List.mem_or_eq_of_mem_set hd with hd | rfl
 ·exact h d hd
 ·exact hc
theorem Ids64.snoc {l : List Cl} (h : Ids64 l) {c : Cl} (hc : inI64 c.id) : Ids64 (l ++ [c]):=fun d hd=>by
 rcases List.mem_append.1 hd with hd | hd
 ·exact h d hd
 ·simp at hd; subst hd; exact hc
theorem ids64_ite {p : Prop} [Decidable p] {a b : List Cl} (ha : Ids64 a) (hb : Ids64 b) : Ids64 (if p then a else b):=by split <;> assumption
theorem spoilC_ids {l : List Cl} (h : Ids64 l) (q0 q1 q2 : Int) (h1 : inI64 q1) : Ids64 (spoilC l q0 q1 q2):=by
 unfold spoilC
 split
 ·intro c hc
  simp at hc
  subst hc
  exact h1
 ·have hx:=h.pick q1
  have h9:=modW_rangeL q2 9 dC dC
  have h3:=modW_rangeL q2 3 dC dC
  generalize pickC l q1 = x at *
  generalize modW q0 13 = m
  unfold spoilM
  repeat' with_reducible refine ids64_ite ?_ ?_
  ·exact h.set _ (c:=⟨_,_,x.sides⟩) ⟨by dsimp only; omega,by dsimp only; omega⟩
  ·exact h.set _ (c:=⟨_,_,x.sides⟩) hx
  ·exact fun c hc=>h c (List.mem_of_mem_eraseIdx hc)
  ·exact h.set _ hx
  ·exact h.set _ hx
  ·exact h.set _ hx
  ·exact h.set _ hx
  ·exact h.set _ hx
  ·exact h.snoc (c:=x) hx
  ·exact h.set _ hx
  ·exact h.set _ hx
  ·exact h.snoc (c:=⟨_,_,x.sides⟩) ⟨by dsimp only; omega,by dsimp only; omega⟩
  ·exact h
theorem SU.neqB {P : Program} {N : Nat} {f : Fr} {dst : Option Tmp} {ty : TypeId} {pos : String} {af : Array Edge} {gd : Option (Nat × Bool)} {x y : Operand} {T U : TypeId} {m n : Bool} (hT : P.underlying T = some .bool) (hx : ev f x = some (.bool m)) (hy : ev f y = some (.bool n)) :
  SU P N ⟨dst,.binOp .neq T x y U,ty,pos,af,gd⟩ f (.bool (m != n)):=fun a w ha=>by
 have hg : (eqGuard .neq T x y (.bool m) (.bool n)).run P w = .ok () w:=by simp [eqGuard]
 have hb:=run_neq_bool (P:=P) w T m n hT
 simp only [execOp,ha.ev hx,ha.ev hy,Sem.run_bind,hg,Result.andThen_ok,hb]
 rfl
theorem nodiff (n : Int) : (vb (decide (n ≠ n)) : Value) = vb false:=congrArg vb (decide_eq_false (fun h=>h rfl))
theorem lawSame_refl' (E : World) (g : PH) (s : Own) (v u : Value) (l : List Cl) (hv : Cells g v l) (hu : Cells g u l) (hf : Fits l) :
  Ctr Tryz.prog E 15 #[.agg #[v],.agg #[u]] g s (fun r g' s'=>r = vb true ∧ g = g' ∧ s = s') :=
 (lawSame_spec E g s v u l l hv hu hf).mono fun _ _ _ ⟨h1,h2⟩=>⟨by rw [h1,decide_eq_true rfl],h2⟩
theorem ints_refl (E : World) (g : PH) (s : Own) (v u : Value) (l : List Int) (hv : Ints g v l) (hu : Ints g u l) (hl : l.length < 4611686018427387904) : Ctr Tryz.prog E 18 #[v,u] g s (fun r g' s'=>r = vb true ∧ g = g' ∧ s = s') :=
 (ints_spec E g s v u l l hv hu hl).mono fun _ _ _ ⟨h1,h2⟩=>⟨by rw [h1,decide_eq_true rfl],h2⟩
theorem refEqual_refl (E : World) (g : PH) (s : Own) (v u : Value) (l : List Cl) (hv : Cells g v l) (hu : Cells g u l) (hl : Fits l) :
  Ctr Tryz.prog E 43 #[.agg #[v],.agg #[u]] g s (fun r g' s'=>r = vb true ∧ s = s' ∧ Le g g') :=
 (refEqual_spec E g s v u l l hv hu hl hl).mono fun _ _ _ ⟨h1,h2⟩=>⟨by rw [h1,decide_eq_true rfl],h2⟩
theorem sameCell_refl (E : World) (g : PH) (s : Own) (a : Cl) (ra rb : Rc) (ha : CellR g a ra) (hb : CellR g a rb) (hl : a.sides.length < 1099511627776) :
  Ctr Tryz.prog E 52 #[rcv ra,rcv rb] g s (fun r g' s'=>r = vb true ∧ g = g' ∧ s = s') :=
 (sameCell_spec E g s a a ra rb ha hb hl).mono fun _ _ _ ⟨h1,h2⟩=>⟨by rw [h1,decide_eq_true rfl],h2⟩
theorem agrees_spec (E : World) (hE : E.drawn = 0) (g : PH) (s : Own) (v iv : Value) (l : List Cl) (ids : List Int) (hv : Cells g v l) (hr : Room 5002 4000003 l) (h64 : Ids64 l) (hi : Ints g iv ids) (hil : ids.length ≤ 6) :
  Ctr Tryz.prog E 9 #[.agg #[v],iv] g s (fun r g' s'=>r = vb true ∧ s = s' ∧ Le g g'):=by
 have hf : Fits l:=hr.fits dC dC
 have hcost:=hr.cost
 have hft:=tabC_fits hf
 have hfc:=canonC_fits hf
 have hfl:=hft.1
 have htops : (topsC l).length ≤ (tabC l).length:=by unfold topsC; rw [List.length_map]; exact List.length_filter_le _ _
 have hck:=refCheckC_eq l
 obtain ⟨ip,ic,rfl⟩:=SlA.form hi
 refine Ctr.of (args:=[.agg #[v],.slice ip ids.length ic]) func9 I ntmps9 (bE I) ?_
 refine SC.sR (SL.bx (bO I) fun b2=>?_)
 refine lA I (SL.nT (SC.sR (lK (qV 0 iT31 zT31 I I I) (lW (cL call13 I (check_spec E g _ v l hv hf)) ?_))))
 rintro _ _ _ ⟨rfl,rfl,rfl⟩
 refine lM I (lU (xT I I) (lU (xT I I) (lA I (lA I (SL.nT (SC.sR (lK (qV 0 iT31 zT31 I I I) (lW (cL call42 I (refCheck_spec E g _ v l hv hf)) ?_))))))))
 rintro _ g1 _ ⟨rfl,rfl,hle1⟩
 have hv1:=hv.mono hle1
 rw [hck]
 refine lM I (lU (xT I I) (lU (xT I I) (lA I (lA I (SL.nT (sQ (sQ ?_)))))))
 refine dW [] [(0,2),(1,2),(2,2),(3,2),(4,2),(5,2),(6,2),(7,2),(8,2),(9,1),(11,1),(10,0),(12,0),(13,0),(14,2),(15,2),(16,2),(17,1),(19,1),(18,0),(20,0),(21,2),(22,2),(23,2),(24,1),(26,1),(25,0),(27,0),(28,2),(29,2),(30,2),(31,1),(33,1),(32,0),(34,0),(35,0),(36,2),(37,2)] Tryz.mixed (by kernel_rfl) ?_
 refine pU rfl (mV rfl) (pU rfl (mV rfl) (pU rfl (SU.eq (v':=vb false) (nQ rfl rfl) (nodiff _)) (pU rfl (mV rfl) (SP.gu rfl (gT rfl rfl rfl dC) (mV rfl) dC (SP.gu rfl (gT rfl rfl rfl dC) (mV rfl) dC (SP.gu rfl (gT rfl rfl rfl dC) (SU.eq (v':=vb false) (nQ rfl rfl) (nodiff _)) dC (pU rfl (pF rfl rfl) (pU rfl (mV rfl) (SP.gq rfl (gT rfl rfl rfl dC) (qV 0 iT31 zT31 rfl rfl rfl) dC (SP.gq rfl (gT rfl rfl rfl dC) (qV 0 iT31 zT31 rfl rfl rfl) dC (SP.go rfl (gT rfl rfl rfl dC) (cL call16 rfl (canon_spec E g1 _ v l hv1 hf)) dC (.inr (by rintro _ g2 _ ⟨rfl,hle2,u2,rfl,hu2⟩; exact ⟨by assumption,(by exact .refl _)⟩)) ?_)))))))))))
 rintro _ g2 _ ⟨rfl,hle2,u2,rfl,hu2⟩
 have hv2:=hv1.mono hle2
 have hac:=hle2
 refine SP.go rfl (gT rfl rfl rfl dC) (cL call44 rfl (refCanon_spec E g2 _ v l hv2 hf)) dC (.inr (by rintro _ g3 _ ⟨rfl,hle3,u3,rfl,hu3⟩; exact ⟨by exact Le.trans (by assumption) (by assumption),(by exact .refl _)⟩)) ?_
 rintro _ g3 _ ⟨rfl,hle3,u3,rfl,hu3⟩
 have hac:=hac.trans hle3
 have hv3:=hv2.mono hle3
 have hu23:=hu2.mono hle3
 refine SP.go rfl (gT rfl rfl rfl dC) (cL call43 rfl (refEqual_refl E g3 _ _ _ _ hu23 hu3 hfc)) dC (.inr (by rintro _ g4 _ ⟨rfl,rfl,hle4⟩; exact ⟨by exact Le.trans (by assumption) (by assumption),(by exact .refl _)⟩)) ?_
 rintro _ g4 _ ⟨rfl,rfl,hle4⟩
 have hac:=hac.trans hle4
 have hv4:=hv3.mono hle4
 refine SP.gu rfl (gT rfl rfl rfl dC) (SU.not rfl) dC (pU rfl (pF rfl rfl) (pU rfl (mV rfl) (SP.gq rfl (gT rfl rfl rfl dC) (qV 0 iT31 zT31 rfl rfl rfl) dC (SP.gq rfl (gT rfl rfl rfl dC) (qV 0 iT31 zT31 rfl rfl rfl) dC (SP.go rfl (gT rfl rfl rfl dC) (cL call45 rfl (dim_spec E g4 _ v l hv4 hf)) dC (.inr (by rintro _ g5 _ ⟨rfl,rfl,hle5⟩; exact ⟨by exact Le.trans (by assumption) (by assumption),(by exact .refl _)⟩)) ?_)))))
 rintro _ g5 _ ⟨rfl,rfl,hle5⟩
 have hac:=hac.trans hle5
 have hv5:=hv4.mono hle5
 refine SP.go rfl (gT rfl rfl rfl dC) (cL call46 rfl (refDim_spec E g5 _ v l hv5 hf)) dC (.inr (by rintro _ g6 _ ⟨rfl,rfl,hle6⟩; exact ⟨by exact Le.trans (by assumption) (by assumption),(by exact .refl _)⟩)) ?_
 rintro _ g6 _ ⟨rfl,rfl,hle6⟩
 have hac:=hac.trans hle6
 have hv6:=hv5.mono hle6
 refine SP.gu rfl (gT rfl rfl rfl dC) (SU.eq (v':=vb false) (nQ rfl rfl) (nodiff _)) dC (pU rfl (pF rfl rfl) (pU rfl (mV rfl) (SP.gq rfl (gT rfl rfl rfl dC) (qV 0 iT31 zT31 rfl rfl rfl) dC (SP.gq rfl (gT rfl rfl rfl dC) (qV 0 iT31 zT31 rfl rfl rfl) dC (SP.go rfl (gT rfl rfl rfl dC) (cL call33 rfl (euler_spec E g6 _ v l hv6 hf)) dC (.inr (by rintro _ _ _ ⟨rfl,rfl,rfl⟩; exact ⟨by assumption,(by exact .refl _)⟩)) ?_)))))
 rintro _ _ _ ⟨rfl,rfl,rfl⟩
 refine SP.go rfl (gT rfl rfl rfl dC) (cL call47 rfl (refEuler_spec E g6 _ v l hv6 hf)) dC (.inr (by rintro _ g7 _ ⟨rfl,rfl,hle7⟩; exact ⟨by exact Le.trans (by assumption) (by assumption),(by exact .refl _)⟩)) ?_
 rintro _ g7 _ ⟨rfl,rfl,hle7⟩
 have hac:=hac.trans hle7
 have hv7:=hv6.mono hle7
 refine SP.gu rfl (gT rfl rfl rfl dC) (SU.eq (v':=vb false) (nQ rfl rfl) (nodiff _)) dC (pU rfl (pF rfl rfl) (pU rfl (mV rfl) (SP.gq rfl (gT rfl rfl rfl dC) (qV 0 iT31 zT31 rfl rfl rfl) dC (SP.gq rfl (gT rfl rfl rfl dC) (qV 0 iT31 zT31 rfl rfl rfl) dC (SP.go rfl (gT rfl rfl rfl dC) (cL call19 rfl (tops_spec E g7 _ v l hv7 hf)) dC (.inr (by rintro v57 g8 _ ⟨rfl,hle8,ht8⟩; exact ⟨by exact Le.trans (by assumption) (by assumption),(by exact .refl _)⟩)) ?_)))))
 rintro v57 g8 _ ⟨rfl,hle8,ht8⟩
 have hac:=hac.trans hle8
 have hv8:=hv7.mono hle8
 refine SP.go rfl (gT rfl rfl rfl dC) (cL call48 rfl (refTops_spec E g8 _ v l hv8 hf)) dC (.inr (by rintro v59 g9 _ ⟨rfl,hle9,ht9⟩; exact ⟨by exact Le.trans (by assumption) (by assumption),(by exact .refl _)⟩)) ?_
 rintro v59 g9 _ ⟨rfl,hle9,ht9⟩
 have hac:=hac.trans hle9
 have hv9:=hv8.mono hle9
 have ht89:=SlA.mono ht8 hle9
 refine SP.go rfl (gT rfl rfl rfl dC) (cL call18 rfl (ints_refl E g9 _ _ _ _ ht89 ht9 oM)) dC (.inr (by rintro _ _ _ ⟨rfl,rfl,rfl⟩; exact ⟨by assumption,(by exact .refl _)⟩)) ?_
 rintro _ _ _ ⟨rfl,rfl,rfl⟩
 refine SP.gu I (gT I I I dC) (SU.not I) dC (pU I (pF I I) (pN (tN (cF I (kP (tN (sQ (SC.sR (lA I (SL.nT (bK ?_)))))))))))
 have hle : Le g g9:=hle1.trans hac
 clear hle1 hle2 hle3 hle4 hle5 hle6 hle7 hle8 hle9 hac
 refine oP (ι:=PH × Int) (fun i=>[(1,.slice ip ids.length ic),(2,pp b2 0),(9,vi i.2)]) (fun i=>i.1) (fun _=>pt b2 (.cells #[v] 31 (0,0)) :: s)
  (fun i=>Le g i.1 ∧ -1 ≤ i.2 ∧ i.2 ≤ 5) (fun i=>(5 - i.2).toNat) (g9,-1) sB rfl rfl ⟨hle,by dsimp only; omega,by dsimp only; omega⟩ ?_
 clear hle hv1 hv2 hv3 hv4 hv5 hv6 hv7 hv8 hv9 ht8 ht9 ht89 hu2 hu3 hu23
 rintro ⟨g10,d⟩ ⟨hl10,hd1,hd2⟩
 dsimp only at hl10 hd1 hd2 ⊢
 refine sQ (SC.sR (lM I (lU (lS I I) (SL.nT ?_))))
 refine iP I (fun hlt=>?_) (fun hlt=>?_)
 ·have hx10:=hv.mono hl10
  have hdl:=ids_le l d
  refine kP (tN (sQ (bK (sQ ?_))))
  refine dW [] [(0,1),(1,2),(3,1),(4,2),(2,0),(5,0),(6,0),(7,2),(8,2),(9,1),(10,2),(12,1),(13,2),(11,0),(14,0),(15,0),(16,2),(17,2)] Tryz.mixed (by kernel_rfl) ?_
  refine pK rfl (qV 0 iT31 zT31 rfl rfl rfl) (pU rfl (mV rfl) (pK rfl (qV 0 iT31 zT31 rfl rfl rfl) (pU rfl (mV rfl) (SP.o rfl (cL call23 rfl (ids_spec E g10 _ v l d hx10 hf)) dC (.inr (by rintro v69 g11 _ ⟨rfl,hle11,hq11⟩; exact ⟨by assumption,(by exact .refl _)⟩)) ?_))))
  rintro v69 g11 _ ⟨rfl,hle11,hq11⟩
  have hac:=hle11
  have hx11:=hx10.mono hle11
  refine SP.o rfl (cL call49 rfl (refIds_spec E g11 _ v l d hx11 hf)) dC (.inr (by rintro v72 g12 _ ⟨rfl,hle12,hq12⟩; exact ⟨by exact Le.trans (by assumption) (by assumption),(by exact .refl _)⟩)) ?_
  rintro v72 g12 _ ⟨rfl,hle12,hq12⟩
  have hac:=hac.trans hle12
  have hx12:=hx11.mono hle12
  have hq1112:=SlA.mono hq11 hle12
  refine SP.o rfl (cL call18 rfl (ints_refl E g12 _ _ _ _ hq1112 hq12 oM)) dC (.inr (by rintro _ _ _ ⟨rfl,rfl,rfl⟩; exact ⟨by assumption,(by exact .refl _)⟩)) ?_
  rintro _ _ _ ⟨rfl,rfl,rfl⟩
  refine pU rfl (SU.not rfl) (pU rfl (mV rfl) (SP.gq rfl (gT rfl rfl rfl dC) (qV 0 iT31 zT31 rfl rfl rfl) dC (SP.gu rfl (gT rfl rfl rfl dC) (mV rfl) dC (SP.gq rfl (gT rfl rfl rfl dC) (qV 0 iT31 zT31 rfl rfl rfl) dC (SP.gu rfl (gT rfl rfl rfl dC) (mV rfl) dC (SP.go rfl (gT rfl rfl rfl dC) (cL call21 rfl (matrix_spec E g12 _ v l d hx12 hf ⟨oM,oM⟩)) dC (.inr (by rintro v78 g13 _ ⟨rfl,hle13,hm13⟩; exact ⟨by exact Le.trans (by assumption) (by assumption),(by exact .refl _)⟩)) ?_))))))
  rintro v78 g13 _ ⟨rfl,hle13,hm13⟩
  have hac:=hac.trans hle13
  have hx13:=hx12.mono hle13
  refine SP.go rfl (gT rfl rfl rfl dC) (cL call50 rfl (refMatrix_spec E g13 _ v l d hx13 hf ⟨oM,oM⟩)) dC (.inr (by rintro v81 g14 _ ⟨rfl,hle14,hm14⟩; exact ⟨by exact Le.trans (by assumption) (by assumption),(by exact .refl _)⟩)) ?_
  rintro v81 g14 _ ⟨rfl,hle14,hm14⟩
  have hac:=hac.trans hle14
  have hm1314:=hm13.mono hle14
  refine SP.go rfl (gT rfl rfl rfl dC) (cL call20 rfl (matEqual_spec E g14 _ _ _ _ hm1314 hm14 (matRes_ok _ _ _))) dC (.inr (by rintro _ _ _ ⟨rfl,rfl,rfl⟩; exact ⟨by assumption,(by exact .refl _)⟩)) ?_
  rintro _ _ _ ⟨rfl,rfl,rfl⟩
  refine SP.gu I (gT I I I dC) (SU.not I) dC (pU I (pF I I) (pN (tN (cF I (kP (bN (tN (rG (lM I (lU (aD I I oM) (lA I (nL ?_))))))))))))
  exact gA (g14,d + 1) sB I I ⟨hl10.trans (hle11.trans (hle12.trans (hle13.trans hle14))),by dsimp only; omega,by dsimp only; omega⟩ (by dsimp only; omega)
 ·refine xI (tX (tX (bX (tN (sQ (SC.sR (lA I (SL.nT (bK ?_)))))))))
  refine oP (ι:=PH × Nat) (fun i=>[(1,.slice ip ids.length ic),(2,pp b2 0),(10,vi i.2)]) (fun i=>i.1) (fun _=>pt b2 (.cells #[v] 31 (0,0)) :: s)
   (fun i=>Le g i.1 ∧ i.2 ≤ ids.length) (fun i=>ids.length - i.2) (g10,0) sB rfl rfl ⟨hl10,Nat.zero_le _⟩ ?_
  clear hl10 hd1 hd2
  rintro ⟨g11,i⟩ ⟨hl11,hi11⟩
  dsimp only at hl11 hi11 ⊢
  refine sQ (SC.sR (lM I (lM I (lU (eN uT27 I) (lU (lS I I) (SL.nT ?_))))))
  refine iP I (fun hlt2=>?_) (fun hlt2=>?_)
  ·have hil2 : i < ids.length:=oM
   have hin:=SlA.mono hi hl11
   have hb1:=SlA.based hin oM
   have hx11:=hv.mono hl11
   have hgi : ids[((i : Nat) : Int).toNat]? = some ids[i]:=gE hil2
   generalize ids[i] = id at *
   have hfs : ((findC l id).getD zeroC).sides.length < 1099511627776:=by
    cases hfn : findC l id with
    | none=>decide
    | some c=>exact hft.2 c (List.mem_of_find?_eq_some hfn)
   have hab : (aboveC l id).length ≤ (tabC l).length:=by unfold aboveC; rw [List.length_map]; exact List.length_filter_le _ _
   refine kP (tN (sQ (bK ?_)))
   refine SC.cut (ι:=Nat × Rc × PH) (fun q=>[(1,.slice ip ids.length ic),(2,pp b2 0),(10,vi i),(11,pp q.1 0),(12,vb (findC l id).isSome)]) (fun q=>q.2.2)
    (fun q=>pt q.1 (.cells #[vi q.2.1.id,vi q.2.1.dim,.slice q.2.1.sv.p q.2.1.sv.n q.2.1.sv.c] 40 (0,0)) :: pt b2 (.cells #[v] 31 (0,0)) :: s)
    (fun q=>Le g11 q.2.2 ∧ CellR q.2.2 ((findC l id).getD zeroC) q.2.1) ?_ ?_
   ·refine SC.drawX [] Tryz.mixed (by kernel_rfl) ?_
    refine SX.q (i:=0) I (by kernel_rfl) (qV 0 iT31 zT31 I I I) dC (SX.u (i:=1) I (by kernel_rfl) (mV I) dC (SX.u (i:=2) I (by kernel_rfl) (mV I) dC (SX.u (i:=3) I (by kernel_rfl) (iA uT27 zT3 I I hb1 oM sL) dC (SX.q (i:=4) I (by kernel_rfl) (eB iT3 I (SlA.rd hin) hgi I) dC ?_))))
    refine SX.br2 5 9 (by kernel_rfl) ?_ ?_
    ·refine SB.o (i:=5) rfl (cL call27 rfl (find_spec E g11 _ v l id hx11 hf)) dC (.inr (by rintro _ g12 _ ⟨rfl,hle12,⟨xi,xd,xp,xn,xc⟩,rfl,hc12⟩; exact ⟨by assumption,(by exact .refl _)⟩)) ?_
     rintro _ g12 _ ⟨rfl,hle12,⟨xi,xd,xp,xn,xc⟩,rfl,hc12⟩
     refine SX.u (i:=6) I (by kernel_rfl) (mV I) dC (SX.u (i:=7) I (by kernel_rfl) (xT I I) dC (SX.u (i:=8) I (by kernel_rfl) (xT I I) dC ?_))
     refine SX.br1 9 (by kernel_rfl) ?_
     ·refine SB.o (i:=9) rfl (aL zeroValue40) dC (.inr (by rintro _ _ _ ⟨b11,rfl,rfl,rfl⟩; exact ⟨by assumption,(by exact .cons _ (.refl _))⟩)) ?_
      rintro _ _ _ ⟨b11,rfl,rfl,rfl⟩
      refine SX.br1 10 (by kernel_rfl) ?_
      ·refine SB.on (i:=10) rfl (sK 0 zT40 rfl rfl rfl rfl rfl sB) (.inr (by rintro _ _ _ ⟨rfl,rfl⟩; exact ⟨by assumption,(by exact .cons _ (.refl _))⟩)) ?_
       rintro _ _ _ ⟨rfl,rfl⟩
       refine SX.u (i:=11) I (by kernel_rfl) (aS I) dC (SX.nil (by kernel_rfl) ?_)
       exact ST.mid (b11,⟨xi,xd,xp,xn,xc⟩,g12) sB I I ⟨hle12,hc12⟩
    ·refine SB.o (i:=9) rfl (aL zeroValue40) dC (.inr (by rintro _ _ _ ⟨b11,rfl,rfl,rfl⟩; exact ⟨by exact Le.refl _,(by exact .cons _ (.refl _))⟩)) ?_
     rintro _ _ _ ⟨b11,rfl,rfl,rfl⟩
     refine SX.br1 5 (by kernel_rfl) ?_
     ·refine SB.o (i:=5) rfl (cL call27 rfl (find_spec E g11 _ v l id hx11 hf)) dC (.inr (by rintro _ g12 _ ⟨rfl,hle12,⟨xi,xd,xp,xn,xc⟩,rfl,hc12⟩; exact ⟨by assumption,(by exact .cons _ (.refl _))⟩)) ?_
      rintro _ g12 _ ⟨rfl,hle12,⟨xi,xd,xp,xn,xc⟩,rfl,hc12⟩
      refine SX.u (i:=6) I (by kernel_rfl) (mV I) dC (SX.u (i:=7) I (by kernel_rfl) (xT I I) dC (SX.u (i:=8) I (by kernel_rfl) (xT I I) dC ?_))
      refine SX.br1 10 (by kernel_rfl) ?_
      ·refine SB.on (i:=10) rfl (sK 0 zT40 rfl rfl rfl rfl rfl sB) (.inr (by rintro _ _ _ ⟨rfl,rfl⟩; exact ⟨by assumption,(by exact .cons _ (.refl _))⟩)) ?_
       rintro _ _ _ ⟨rfl,rfl⟩
       refine SX.u (i:=11) I (by kernel_rfl) (aS I) dC (SX.nil (by kernel_rfl) ?_)
       exact ST.mid (b11,⟨xi,xd,xp,xn,xc⟩,g12) sB I I ⟨hle12,hc12⟩
   rintro ⟨b11,⟨xi,xd,xp,xn,xc⟩,g12⟩ ⟨hle12,hc12⟩
   dsimp only at hle12 hc12 ⊢
   have hx12:=hx11.mono hle12
   have hin12:=SlA.mono hin hle12
   refine SC.cut (ι:=Nat × Rc × PH) (fun q=>[(1,.slice ip ids.length ic),(2,pp b2 0),(10,vi i),(11,pp b11 0),(12,vb (findC l id).isSome),(13,pp q.1 0),(14,vb (findC l id).isSome)]) (fun q=>q.2.2)
    (fun q=>pt q.1 (.cells #[vi q.2.1.id,vi q.2.1.dim,.slice q.2.1.sv.p q.2.1.sv.n q.2.1.sv.c] 40 (0,0)) :: pt b11 (.cells #[vi xi,vi xd,.slice xp xn xc] 40 (0,0)) :: pt b2 (.cells #[v] 31 (0,0)) :: s)
    (fun q=>Le g12 q.2.2 ∧ CellR q.2.2 ((findC l id).getD zeroC) q.2.1) ?_ ?_
   ·refine SC.drawX [] Tryz.mixed (by kernel_rfl) ?_
    refine SX.q (i:=0) I (by kernel_rfl) (qV 1 iT31 zT31 I I I) dC (SX.u (i:=1) I (by kernel_rfl) (mV I) dC (SX.u (i:=2) I (by kernel_rfl) (mV I) dC (SX.u (i:=3) I (by kernel_rfl) (iA uT27 zT3 I I hb1 oM sL) dC (SX.q (i:=4) I (by kernel_rfl) (eB iT3 I (SlA.rd hin12) hgi I) dC ?_))))
    refine SX.br2 5 9 (by kernel_rfl) ?_ ?_
    ·refine SB.o (i:=5) rfl (cL call51 rfl (refFind_spec E g12 _ v l id hx12 hf)) dC (.inr (by rintro _ g13 _ ⟨rfl,hle13,⟨yi,yd,yp,yn,yc⟩,rfl,hc13⟩; exact ⟨by assumption,(by exact .refl _)⟩)) ?_
     rintro _ g13 _ ⟨rfl,hle13,⟨yi,yd,yp,yn,yc⟩,rfl,hc13⟩
     refine SX.u (i:=6) I (by kernel_rfl) (mV I) dC (SX.u (i:=7) I (by kernel_rfl) (xT I I) dC (SX.u (i:=8) I (by kernel_rfl) (xT I I) dC ?_))
     refine SX.br1 9 (by kernel_rfl) ?_
     ·refine SB.o (i:=9) rfl (aL zeroValue40) dC (.inr (by rintro _ _ _ ⟨b13,rfl,rfl,rfl⟩; exact ⟨by assumption,(by exact .cons _ (.refl _))⟩)) ?_
      rintro _ _ _ ⟨b13,rfl,rfl,rfl⟩
      refine SX.br1 10 (by kernel_rfl) ?_
      ·refine SB.on (i:=10) rfl (sK 0 zT40 rfl rfl rfl rfl rfl sB) (.inr (by rintro _ _ _ ⟨rfl,rfl⟩; exact ⟨by assumption,(by exact .cons _ (.refl _))⟩)) ?_
       rintro _ _ _ ⟨rfl,rfl⟩
       refine SX.u (i:=11) I (by kernel_rfl) (aS I) dC (SX.nil (by kernel_rfl) ?_)
       exact ST.mid (b13,⟨yi,yd,yp,yn,yc⟩,g13) sB I I ⟨hle13,hc13⟩
    ·refine SB.o (i:=9) rfl (aL zeroValue40) dC (.inr (by rintro _ _ _ ⟨b13,rfl,rfl,rfl⟩; exact ⟨by exact Le.refl _,(by exact .cons _ (.refl _))⟩)) ?_
     rintro _ _ _ ⟨b13,rfl,rfl,rfl⟩
     refine SX.br1 5 (by kernel_rfl) ?_
     ·refine SB.o (i:=5) rfl (cL call51 rfl (refFind_spec E g12 _ v l id hx12 hf)) dC (.inr (by rintro _ g13 _ ⟨rfl,hle13,⟨yi,yd,yp,yn,yc⟩,rfl,hc13⟩; exact ⟨by assumption,(by exact .cons _ (.refl _))⟩)) ?_
      rintro _ g13 _ ⟨rfl,hle13,⟨yi,yd,yp,yn,yc⟩,rfl,hc13⟩
      refine SX.u (i:=6) I (by kernel_rfl) (mV I) dC (SX.u (i:=7) I (by kernel_rfl) (xT I I) dC (SX.u (i:=8) I (by kernel_rfl) (xT I I) dC ?_))
      refine SX.br1 10 (by kernel_rfl) ?_
      ·refine SB.on (i:=10) rfl (sK 0 zT40 rfl rfl rfl rfl rfl sB) (.inr (by rintro _ _ _ ⟨rfl,rfl⟩; exact ⟨by assumption,(by exact .cons _ (.refl _))⟩)) ?_
       rintro _ _ _ ⟨rfl,rfl⟩
       refine SX.u (i:=11) I (by kernel_rfl) (aS I) dC (SX.nil (by kernel_rfl) ?_)
       exact ST.mid (b13,⟨yi,yd,yp,yn,yc⟩,g13) sB I I ⟨hle13,hc13⟩
   rintro ⟨b13,⟨yi,yd,yp,yn,yc⟩,g13⟩ ⟨hle13,hc13⟩
   dsimp only at hle13 hc13 ⊢
   have hx13:=hx12.mono hle13
   have hin13:=SlA.mono hin12 hle13
   have hc1213:=CellR.mono hle13 hc12
   refine sQ ?_
   refine dW [] [(0,2),(1,2),(2,2),(3,2),(4,1),(5,1),(6,0),(7,2),(8,2),(9,2),(10,1),(11,2),(12,2),(13,2),(14,1),(16,1),(17,2),(18,2),(19,2),(20,1),(15,0),(21,0),(22,0),(23,2),(24,2)] Tryz.mixed (by kernel_rfl) ?_
   refine pU I (mV I) (pU I (mV I) (pU I (SU.eq (v':=vb false) (SU.neqB uT4 I I) (congrArg vb (by simp))) ?_))
   refine pU rfl (mV rfl) (SP.gq rfl (gT rfl rfl rfl dC) (qV 1 iT40 zT40 rfl rfl rfl) dC (SP.gq rfl (gT rfl rfl rfl dC) (qV 0 iT40 zT40 rfl rfl rfl) dC (SP.go rfl (gT rfl rfl rfl dC) (cL call52 rfl (sameCell_refl E g13 _ _ ⟨xi,xd,xp,xn,xc⟩ ⟨yi,yd,yp,yn,yc⟩ hc1213 hc13 hfs)) dC (.inr (by rintro _ _ _ ⟨rfl,rfl,rfl⟩; exact ⟨by exact Le.refl _,(by exact .refl _)⟩)) ?_)))
   rintro _ _ _ ⟨rfl,rfl,rfl⟩
   refine SP.gu rfl (gT rfl rfl rfl dC) (SU.not rfl) dC (pU rfl (pF rfl rfl) (pU rfl (mV rfl) (SP.gq rfl (gT rfl rfl rfl dC) (qV 2 iT31 zT31 rfl rfl rfl) dC (SP.gu rfl (gT rfl rfl rfl dC) (mV rfl) dC (SP.gu rfl (gT rfl rfl rfl dC) (mV rfl) dC (SP.gu rfl (gT rfl rfl rfl dC) (iA uT27 zT3 rfl rfl hb1 oM sL) dC (SP.gq rfl (gT rfl rfl rfl dC) (eB iT3 rfl (SlA.rd hin13) hgi rfl) dC (SP.gq rfl (gT rfl rfl rfl dC) (qV 2 iT31 zT31 rfl rfl rfl) dC (SP.gu rfl (gT rfl rfl rfl dC) (mV rfl) dC (SP.gu rfl (gT rfl rfl rfl dC) (mV rfl) dC (SP.gu rfl (gT rfl rfl rfl dC) (iA uT27 zT3 rfl rfl hb1 oM sL) dC (SP.gq rfl (gT rfl rfl rfl dC) (eB iT3 rfl (SlA.rd hin13) hgi rfl) dC (SP.go rfl (gT rfl rfl rfl dC) (cL call29 rfl (above_spec E g13 _ v l id hx13 hf)) dC (.inr (by rintro v124 g14 _ ⟨rfl,hle14,ha14⟩; exact ⟨by assumption,(by exact .refl _)⟩)) ?_)))))))))))))
   rintro v124 g14 _ ⟨rfl,hle14,ha14⟩
   have hac:=hle14
   have hx14:=hx13.mono hle14
   have hin14:=SlA.mono hin13 hle14
   refine SP.go rfl (gT rfl rfl rfl dC) (cL call53 rfl (refAbove_spec E g14 _ v l id hx14 hf)) dC (.inr (by rintro v130 g15 _ ⟨rfl,hle15,ha15⟩; exact ⟨by exact Le.trans (by assumption) (by assumption),(by exact .refl _)⟩)) ?_
   rintro v130 g15 _ ⟨rfl,hle15,ha15⟩
   have hac:=hac.trans hle15
   have ha1415:=SlA.mono ha14 hle15
   refine SP.go rfl (gT rfl rfl rfl dC) (cL call18 rfl (ints_refl E g15 _ _ _ _ ha1415 ha15 oM)) dC (.inr (by rintro _ _ _ ⟨rfl,rfl,rfl⟩; exact ⟨by assumption,(by exact .refl _)⟩)) ?_
   rintro _ _ _ ⟨rfl,rfl,rfl⟩
   refine SP.gu I (gT I I I dC) (SU.not I) dC (pU I (pF I I) (pN (tN (cF I (kP (bN (tN (rG (lM I (lU (aD I I oM) (lA I (nL (dR (s':=pt b2 (.cells #[v] 31 (0,0)) :: s) (.cons _ (.cons _ (.refl _))) ?_)))))))))))))
   exact gA (g15,i + 1) sB I I ⟨hl11.trans (hle12.trans (hle13.trans (hle14.trans hle15))),by dsimp only; omega⟩ (by dsimp only; omega)
  ·have hx11:=hv.mono hl11
   have hin:=SlA.mono hi hl11
   have hcl : (closureC l ids).length ≤ (tabC l).length:=by rw [closureC_list,List.length_map]; exact List.length_filter_le _ _
   have hsub : Fits ((tabC l).filter fun c=>(closF (tabC l) ids).contains c.id):=filter_fits _ hft
   refine xI (tX (tX (bX (tN (sQ ?_)))))
   refine dW [] [(0,1),(1,2),(3,1),(4,2),(2,0),(5,0),(6,0),(7,2),(8,1),(9,2),(11,1),(12,2),(10,0),(13,0),(14,0),(15,2),(16,2)] Tryz.mixed (by kernel_rfl) ?_
   refine pK rfl (qV 0 iT31 zT31 rfl rfl rfl) (pU rfl (mV rfl) (pK rfl (qV 0 iT31 zT31 rfl rfl rfl) (pU rfl (mV rfl) (SP.o rfl (cL call30 rfl (closureTop E hE g11 _ v _ l ids hx11 hf hin oM h64)) dC (.inr (by rintro v136 g12 _ ⟨rfl,hle12,hq12⟩; exact ⟨by assumption,(by exact .refl _)⟩)) ?_))))
   rintro v136 g12 _ ⟨rfl,hle12,hq12⟩
   have hac:=hle12
   have hx12:=hx11.mono hle12
   have hin12:=SlA.mono hin hle12
   refine SP.o rfl (cL call54 rfl (refClosure_spec E g12 _ v _ l ids hx12 hf hin12 oM)) dC (.inr (by rintro v139 g13 _ ⟨rfl,hle13,hq13⟩; exact ⟨by exact Le.trans (by assumption) (by assumption),(by exact .refl _)⟩)) ?_
   rintro v139 g13 _ ⟨rfl,hle13,hq13⟩
   have hac:=hac.trans hle13
   have hx13:=hx12.mono hle13
   have hin13:=SlA.mono hin12 hle13
   have hq1213:=SlA.mono hq12 hle13
   refine SP.o rfl (cL call18 rfl (ints_refl E g13 _ _ _ _ hq1213 hq13 oM)) dC (.inr (by rintro _ _ _ ⟨rfl,rfl,rfl⟩; exact ⟨by assumption,(by exact .refl _)⟩)) ?_
   rintro _ _ _ ⟨rfl,rfl,rfl⟩
   refine pU rfl (mV rfl) (SP.gq rfl (gT rfl rfl rfl dC) (qV 0 iT31 zT31 rfl rfl rfl) dC (SP.gu rfl (gT rfl rfl rfl dC) (mV rfl) dC (SP.gq rfl (gT rfl rfl rfl dC) (qV 0 iT31 zT31 rfl rfl rfl) dC (SP.gu rfl (gT rfl rfl rfl dC) (mV rfl) dC (SP.go rfl (gT rfl rfl rfl dC) (cL call17 rfl (sub_spec E g13 _ v _ l ids hx13 hf hin13 oM)) dC (.inr (by rintro _ g14 _ ⟨rfl,hle14,u14,rfl,hu14⟩; exact ⟨by exact Le.trans (by assumption) (by assumption),(by exact .refl _)⟩)) ?_)))))
   rintro _ g14 _ ⟨rfl,hle14,u14,rfl,hu14⟩
   have hac:=hac.trans hle14
   have hx14:=hx13.mono hle14
   have hin14:=SlA.mono hin13 hle14
   refine SP.go rfl (gT rfl rfl rfl dC) (cL call55 rfl (refSub_spec E g14 _ v _ l ids hx14 hf hin14 oM)) dC (.inr (by rintro _ g15 _ ⟨rfl,hle15,u15,rfl,hu15⟩; exact ⟨by exact Le.trans (by assumption) (by assumption),(by exact .refl _)⟩)) ?_
   rintro _ g15 _ ⟨rfl,hle15,u15,rfl,hu15⟩
   have hac:=hac.trans hle15
   have hu1415:=hu14.mono hle15
   refine SP.go rfl (gT rfl rfl rfl dC) (cL call15 rfl (lawSame_refl' E g15 _ _ _ _ hu1415 hu15 hsub)) dC (.inr (by rintro _ _ _ ⟨rfl,rfl,rfl⟩; exact ⟨by assumption,(by exact .refl _)⟩)) ?_
   rintro _ _ _ ⟨rfl,rfl,rfl⟩
   refine pU I (pT I I) (pU I (aS I) (pN (tN (rE (dR (s':=s) (.cons _ (.refl _)) ?_)))))
   exact ST.ret1 (.inl I) results9 I ⟨I,I,hl11.trans (hle12.trans (hle13.trans (hle14.trans hle15)))⟩
theorem cellAt3 {g : PH} {s : Own} {b o : Nat} {cs : Array Value} {T : TypeId} {fr : Nat × Nat} {x y z : Value} (i : Nat) (hs : s[i]? = some (pt b (.cells cs T fr))) (h0 : cs[o]? = some x) (h1 : cs[o + 1]? = some y) (h2 : cs[o + 2]? = some z) :
  ∀ j v,[x,y,z][j]? = some v → CellAt g s ⟨b,o + j,none⟩ v:=fun j v h=>by
 rcases j with _ | _ | _ | j
 ·simp at h; subst h; exact cO i hs h0
 ·simp at h; subst h; exact cO i hs h1
 ·simp at h; subst h; exact cO i hs h2
 ·simp at h
theorem cellsSpoiled_spec (E : World) (hE : E.drawn = 0) (g : PH) (s : Own) (v iv : Value) (kd y : Int) (ls : List (List Int)) (ns : List Int) (a0 a1 a2 b0 b1 b2 : Int) (hv : Lists g v ls) (hi : Ints g iv ns) (ha : inI64 a1) (hb : inI64 b1) :
  Ctr Tryz.prog E 3 #[.agg #[vi kd,v,vi y],.agg #[vi a0,vi a1,vi a2,vi b0,vi b1,vi b2],iv] g s (fun r g' s'=>r = vb true ∧ s = s' ∧ Le g g'):=by
 obtain ⟨p,n,c,rfl⟩ : ∃ p n c,v = .slice p n c:=by
  obtain ⟨rs0,hrs0,_⟩:=hv
  obtain ⟨p,c,rfl⟩:=SlA.form hrs0
  exact ⟨_,_,_,I⟩
 obtain ⟨ip,ic,rfl⟩:=SlA.form hi
 have hrt:=made_right kd ls y
 have hmd:=made_ids kd ls y
 have hsm:=(madeC_small kd ls y).room
 have hmade:=fun g s v hv=>made_spec E g s v kd y ls hv
 generalize madeC kd ls y = M at *
 have hrm : Room 5002 4000003 M:=hsm.mono dC dC
 have hra1:=spoilC_room hsm a0 a1 a2
 have hra : Room 5002 4000003 (spoilC M a0 a1 a2):=hra1.mono dC dC
 have hda:=spoilC_ids hmd a0 a1 a2 ha
 have hspa:=fun g s v hv=>spoiled_spec E g s v M a0 a1 a2 hv (hrm.fits dC dC)
 generalize spoilC M a0 a1 a2 = A at *
 have hrb : Room 5002 4000003 (spoilC A b0 b1 b2):=(spoilC_room hra1 b0 b1 b2).mono dC dC
 have hdb:=spoilC_ids hda b0 b1 b2 hb
 have hspb:=fun g s v hv=>spoiled_spec E g s v A b0 b1 b2 hv (hra.fits dC dC)
 generalize spoilC A b0 b1 b2 = B at *
 have hfm:=hrm.fits dC dC
 have hfa:=hra.fits dC dC
 have hfb:=hrb.fits dC dC
 have hright : (refCheckC M).2 = 0:=by rw [refCheckC_eq,hrt.check]
 refine Ctr.of (args:=[.agg #[vi kd,.slice p n c,vi y],.agg #[vi a0,vi a1,vi a2,vi b0,vi b1,vi b2],.slice ip ns.length ic]) func3 I ntmps3 (bE I) ?_
 refine SC.sR (SL.bx (bO I) fun b3=>?_)
 refine SL.bx (bO I) fun b4=>?_
 refine lA I (SL.nT (SC.sR (lW (cL call6 I (sanity_spec E hE g _)) ?_)))
 rintro _ g1 _ ⟨rfl,rfl,hle1⟩
 have hv1:=hv.mono hle1
 refine lA I (SL.nT (SC.sR (lK (qV 1 isAgg24 sizeOf24 I I I) (lW (cL call7 I (hmade g1 _ _ hv1)) ?_))))
 rintro _ g2 _ ⟨rfl,hle2,xm,rfl,hxm⟩
 obtain ⟨qm,dm,rfl⟩:=hxm.form
 refine SL.bx (aL zeroValue31) fun b8=>?_
 refine SL.O2 (sK 0 zT31 I I I I I sB) ?_
 refine SL.nT (SC.sR (lK (qV 0 iT31 zT31 I I I) (lU (iB underlying26 sizeOf25 I I dC dC) (lK (SQ.loadAggAt (vs:=[vi a0,vi a1,vi a2]) isAgg25 sizeOf25 I I (cellAt3 1 I I I I)) (lW (cL call8 I (hspa g2 _ _ hxm)) ?_)))))
 rintro _ g3 _ ⟨rfl,hle3,xa,rfl,hxa⟩
 obtain ⟨qa,da,rfl⟩:=hxa.form
 have hxm3:=hxm.mono hle3
 refine SL.bx (aL zeroValue31) fun b9=>?_
 refine SL.O2 (sK 0 zT31 I I I I I sB) ?_
 refine SL.nT (SC.sR (lK (qV 0 iT31 zT31 I I I) (lU (iB underlying26 sizeOf25 I I dC dC) (lK (SQ.loadAggAt (vs:=[vi b0,vi b1,vi b2]) isAgg25 sizeOf25 I I (cellAt3 2 I I I I)) (lW (cL call8 I (hspb g3 _ _ hxa)) ?_)))))
 rintro _ g4 _ ⟨rfl,hle4,xb,rfl,hxb⟩
 obtain ⟨qb,db,rfl⟩:=hxb.form
 have hxm4:=hxm3.mono hle4
 have hxa4:=hxa.mono hle4
 have hl4:=hle1.trans (hle2.trans (hle3.trans hle4))
 have hi4:=SlA.mono hi hl4
 clear hle1 hle2 hle3 hle4
 refine SL.bx (aL zeroValue31) fun b10=>?_
 refine SL.O2 (sK 0 zT31 I I I I I sB) ?_
 refine SL.nT (sQ ?_)
 refine dW [5] [(0,1),(1,1),(2,2),(3,0),(4,0),(5,0)] Tryz.mixed (by kernel_rfl) ?_
 refine pK rfl (qV 2 iT31 zT31 rfl rfl rfl) (pK rfl (qV 2 iT31 zT31 rfl rfl rfl) (pU rfl (mV rfl) (SP.o rfl (cL call10 rfl (few_spec E g4 _ _ _ M ns hxm4 hfm hi4)) dC (.inr (by rintro v28 g5 _ ⟨rfl,hle5,hw5⟩; exact ⟨by assumption,(by exact .refl _)⟩)) ?_)))
 rintro v28 g5 _ ⟨rfl,hle5,hw5⟩
 have hxm5:=hxm4.mono hle5
 have hac:=hle5
 refine SP.o rfl (cL call9 rfl (agrees_spec E hE g5 _ _ _ M _ hxm5 hrm hmd hw5 (fewC_length M ns))) dC (.inr (by rintro _ g6 _ ⟨rfl,rfl,hle6⟩; exact ⟨by exact Le.trans (by assumption) (by assumption),(by exact .refl _)⟩)) ?_
 rintro _ g6 _ ⟨rfl,rfl,hle6⟩
 have hl6:=hl4.trans (hle5.trans hle6)
 have hxm6:=hxm5.mono hle6
 have hxa6:=hxa4.mono (hle5.trans hle6)
 have hxb6:=hxb.mono (hle5.trans hle6)
 have hi6:=SlA.mono hi hl6
 refine oU I (aS I) dC (.inl dC) (pN (tN (sQ ?_)))
 refine dW [5] [(0,1),(1,1),(2,2),(3,0),(4,0),(5,0)] Tryz.mixed (by kernel_rfl) ?_
 refine pK rfl (qV 1 iT31 zT31 rfl rfl rfl) (pK rfl (qV 1 iT31 zT31 rfl rfl rfl) (pU rfl (mV rfl) (SP.o rfl (cL call10 rfl (few_spec E g6 _ _ _ A ns hxa6 hfa hi6)) dC (.inr (by rintro v33 g7 _ ⟨rfl,hle7,hw7⟩; exact ⟨by assumption,(by exact .refl _)⟩)) ?_)))
 rintro v33 g7 _ ⟨rfl,hle7,hw7⟩
 have hxa7:=hxa6.mono hle7
 have hac:=hle7
 refine SP.o rfl (cL call9 rfl (agrees_spec E hE g7 _ _ _ A _ hxa7 hra hda hw7 (fewC_length A ns))) dC (.inr (by rintro _ g8 _ ⟨rfl,rfl,hle8⟩; exact ⟨by exact Le.trans (by assumption) (by assumption),(by exact .refl _)⟩)) ?_
 rintro _ g8 _ ⟨rfl,rfl,hle8⟩
 have hl8:=hl6.trans (hle7.trans hle8)
 have hxm8:=hxm6.mono (hle7.trans hle8)
 have hxb8:=hxb6.mono (hle7.trans hle8)
 have hi8:=SlA.mono hi hl8
 refine oU I (aS I) dC (.inl dC) (pN (tN (sQ ?_)))
 refine dW [5] [(0,1),(1,1),(2,2),(3,0),(4,0),(5,0)] Tryz.mixed (by kernel_rfl) ?_
 refine pK rfl (qV 0 iT31 zT31 rfl rfl rfl) (pK rfl (qV 0 iT31 zT31 rfl rfl rfl) (pU rfl (mV rfl) (SP.o rfl (cL call10 rfl (few_spec E g8 _ _ _ B ns hxb8 hfb hi8)) dC (.inr (by rintro v38 g9 _ ⟨rfl,hle9,hw9⟩; exact ⟨by assumption,(by exact .refl _)⟩)) ?_)))
 rintro v38 g9 _ ⟨rfl,hle9,hw9⟩
 have hxb9:=hxb8.mono hle9
 have hac:=hle9
 refine SP.o rfl (cL call9 rfl (agrees_spec E hE g9 _ _ _ B _ hxb9 hrb hdb hw9 (fewC_length B ns))) dC (.inr (by rintro _ g10 _ ⟨rfl,rfl,hle10⟩; exact ⟨by exact Le.trans (by assumption) (by assumption),(by exact .refl _)⟩)) ?_
 rintro _ g10 _ ⟨rfl,rfl,hle10⟩
 have hl10:=hl8.trans (hle9.trans hle10)
 have hxm10:=hxm8.mono (hle9.trans hle10)
 refine oU I (aS I) dC (.inl dC) (pN (tN (SC.sR (lM I (lM I (lY I I I (mV I) (lU (pT I I) (lM I (lY I I I (mV I) (lU (pT I I) (lM I (lY I I I (mV I) (lU (pT I I) (lM I (SL.gq (gT I I I dC) (qV 2 iT31 zT31 I I I) dC (SL.go (gT I I I dC) (cL call11 I (refRight_spec E g10 _ _ M hxm10 hfm)) dC ?_))))))))))))))))
 rintro _ g11 _ ⟨rfl,rfl,hle11⟩
 refine lU (pT I I) (lA I (SL.nT (rE (dR (s':=s) (.cons _ (.cons _ (.cons _ (.cons _ (.cons _ (.refl _)))))) ?_))))
 exact ST.ret1 (.inl I) results3 I ⟨by rw [decide_eq_true hright],I,hl10.trans hle11⟩
open Go.ChangeShapes Go.WideShapes Go.ChangeAt Go.RowKit
set_option maxRecDepth 100000
section
variable {H : Type} {enc : TypeId × Value → H} {W : World} {base : Nat} {spare : Nat → Bool} {hd : Bool}
theorem lit_wf {n : Int} (h : (Lit.int .i64 n).wf = true) : inI64 n:=by
 have h2 : IntKind.i64.min ≤ n ∧ n ≤ IntKind.i64.max:=by simpa [Lit.wf] using h
 have e1 : IntKind.i64.min = -9223372036854775808:=by decide
 have e2 : IntKind.i64.max = 9223372036854775807:=by decide
 unfold inI64
 omega
theorem three_wf {fuel : Nat} {c0 c1 c2 : Value} {x : DataW H × List MemPlace} (h : DataW.trod enc Tryz.prog W base spare hd fuel 25 [c0,c1,c2] = some x) : ∃ a b c : Int,c0 = vi a ∧ c1 = vi b ∧ c2 = vi c ∧ inI64 a ∧ inI64 b ∧ inI64 c:=by
 obtain ⟨y0,y1,y2,n,_,h0,h1,h2⟩:=trod_array3 uT25 cells3 h
 obtain ⟨a,e0,_,w0⟩:=DataW.trod_int uT3 h0
 obtain ⟨b,e1,_,w1⟩:=DataW.trod_int uT3 h1
 obtain ⟨c,e2,_,w2⟩:=DataW.trod_int uT3 h2
 simp at e0 e1 e2
 exact ⟨a,b,c,e0,e1,e2,lit_wf w0,lit_wf w1,lit_wf w2⟩
theorem Tryz.cells26 : Tryz.prog.cellsOf 26 = 6:=by kernel_rfl
theorem six_of {r : Reach} {b0 : Nat} {v : Value} {d : DataW H} {p : List MemPlace} (hv : Value.okWide Tryz.prog W r b0 26 v) (h : DataW.Trod enc Tryz.prog W base spare hd 26 v d p) :
  ∃ a0 a1 a2 c0 c1 c2 : Int,v = .agg #[vi a0,vi a1,vi a2,vi c0,vi c1,vi c2] ∧ inI64 a1 ∧ inI64 c1:=by
 obtain ⟨cs,rfl,hsz⟩:=okWide_array underlying26 hv
 rw [cells26] at hsz
 obtain ⟨l⟩:=cs
 match l,hsz with
 | [c0,c1,c2,c3,c4,c5],_ =>
  obtain ⟨fuel,hf⟩:=h
  obtain ⟨xs,m,_,_,_,hl,hel⟩:=DataW.trod_array underlying26 (show DataW.trod enc Tryz.prog W base spare hd fuel 26 [c0,c1,c2,c3,c4,c5] = some (d,p) by simpa [Value.cells] using hf)
  have h0:=hel 0 dC
  have h1:=hel 1 dC
  rw [cells25,gE oM] at h0 h1
  obtain ⟨a0,a1,a2,rfl,rfl,rfl,_,w1,_⟩:=three_wf (c0:=c0) (c1:=c1) (c2:=c2) h0
  obtain ⟨b0,b1,b2,rfl,rfl,rfl,_,w2,_⟩:=three_wf (c0:=c3) (c1:=c4) (c2:=c5) h1
  exact ⟨a0,a1,a2,b0,b1,b2,I,w1,w2⟩
end
end Go.Proofs.YtkdibcicncjpdaaGreatDoor
namespace Go.Proofs.YtkdibcicncjpdaaGreatDoor.cellsSpoiledDone
open _root_.Go.Proofs.Tryz _root_.Go.Proofs.YtkdibcicncjpdaaGreatDoor.Tryz
open Go Go.Sy Go.Pl Go.Proofs Go.Proofs.YtkdibcicncjpdaaGreatDoor
open Go.ChangeShapes Go.WideShapes Go.ChangeAt Go.RowKit
set_option linter.unusedVariables false
theorem own : ownKnob Tryz.prog.godebug = none:=by kernel_rfl
theorem laidOut : laidOutB Tryz.prog = true:=by kernel_rfl
set_option maxRecDepth 100000 in
theorem lifted (os : Os) (started : os.Started) (H : Type) (enc : TypeId × Value → H) :
  ReturnsInHanded {} Tryz.checked os 3 .any (fun w args=>(Rows.cellsSpoiledSpec.pre enc Tryz.prog f3 Rows.cellsSpoiledRow.domain false w args ∧ laidMetH Tryz.prog Rows.cellsSpoiledRow.laid w) ∧ sizedMet enc Tryz.prog f3 (OpenSpec.ofChange Rows.cellsSpoiledSpec) false w args)
   (Rows.cellsSpoiledSpec.post enc Tryz.prog f3 false true false false):=by
 refine returnsInHanded_of_change_and (C:=Tryz.checked) (X:=fun w _=>laidMetH Tryz.prog Rows.cellsSpoiledRow.laid w) (fun _ _ _ hh h=>h.of_heap hh) own started (by kernel_rfl) func3
  (ChangeSpec.witness_shaped (enc:=enc) (C:=Tryz.checked) (os:=os) (X:=fun w _=>laidMetH Tryz.prog Rows.cellsSpoiledRow.laid w) false (World.laidAll Tryz.prog os Rows.cellsSpoiledRow.laid) #[.agg #[.int .i64 0,.slice none 0 0,.int .i64 0],.agg #[.int .i64 0,.int .i64 0,.int .i64 0,.int .i64 0,.int .i64 0,.int .i64 0],.slice none 0 0] 8 (World.laidAll_os _ _ _)
   (World.shaped_of_ZipB (by kernel_rfl) (by kernel_rfl)) (by kernel_rfl) (by kernel_rfl) (by kernel_rfl)
   (by rw [MakeChecks.laidMetH_plain _ _ _ (by kernel_rfl)]; exact laidMet_laidAll _ (by kernel_rfl) (by kernel_rfl))) ?_
 intro W base args ds gs before hval0 hW hcnd hsz0 hL _
 have hval : ∀ (j : Nat) t v,f3.params[j]? = some t → args[j]? = some v → Value.okWide Tryz.prog W .any base t v:=hval0
 have hW':=hW
 obtain ⟨p,q,hA0,hV,rfl,hfz,hnd⟩:=hW
 have hA : DataW.TrodAll enc Tryz.prog W 0 (fun _=>true) true f3.params.toList args.toList ds p:=hA0
 rw [params3] at hA hval
 obtain ⟨v0,vs0,d0,ds0,p0,q0,hargs,rfl,rfl,h0,r0⟩:=trodAll_cons hA
 obtain ⟨v1,vs1,d1,ds1,p1,q1,rfl,rfl,rfl,h1,r1⟩:=trodAll_cons r0
 obtain ⟨v2,vs2,d2,ds2,p2,q2,rfl,rfl,rfl,h2,r2⟩:=trodAll_cons r1
 obtain ⟨rfl,rfl,rfl⟩:=trodAll_nil r2
 obtain rfl : args = #[v0,v1,v2]:=by cases args; simp_all
 obtain ⟨rfl,rfl⟩:=trodVars_none hV
 have lt0 : ∀ x ∈ p0,x.block < W.heap.size:=by obtain ⟨m,hm⟩:=h0; exact DataW.trod_lt m _ _ _ hm
 have lt1 : ∀ x ∈ p1,x.block < W.heap.size:=by obtain ⟨m,hm⟩:=h1; exact DataW.trod_lt m _ _ _ hm
 have lt2 : ∀ x ∈ p2,x.block < W.heap.size:=by obtain ⟨m,hm⟩:=h2; exact DataW.trod_lt m _ _ _ hm
 obtain ⟨kd,y,u,ls,e0,hls⟩:=shape_of (hval 0 24 v0 rfl rfl) h0
 obtain ⟨a0,a1,a2,b0,b1,b2,e1,wa,wb⟩:=six_of (hval 1 26 v1 rfl rfl) h1
 clear hA0 hval0
 have walk : Calls Tryz.prog 3 #[v0,v1,v2] W fun e w'=>e = .returned (.bool true) ∧ Below W.heap.size W w':=by
  obtain ⟨a3,n3,c3,rfl⟩:=okWide_slice uT27 (hval 2 27 v2 rfl rfl)
  obtain ⟨f2,hf2⟩:=h2
  obtain ⟨ns,r,hr,hns⟩:=ints_of (v:=.slice a3 n3 c3) hf2
  rw [e0,e1]
  refine (cellsSpoiled_spec (E0 W) I (held W) [] u _ kd y ls ns a0 a1 a2 b0 b1 b2 hls hns wa wb W (at_start W)).mono ?_
  rintro e w' ⟨v,g',s',rfl,hat,rfl,rfl,hle⟩
  exact ⟨I,at_below hat hle⟩
 refine walk.mono fun e W' ⟨he,bel⟩=>?_
 subst he
 exact ⟨_,I,_,_,_,[],_,[],hW',trodAll_mk1 (shut_bool uT4 _),(trodAll_cons_mk (Below.trod laidOut (by kernel_rfl) (of_decide_eq_true (by kernel_rfl)) h0 bel lt0) (trodAll_cons_mk (Below.trod laidOut (by kernel_rfl) (of_decide_eq_true (by kernel_rfl)) h1 bel lt1) (trodAll_cons_mk (Below.trod laidOut (by kernel_rfl) (of_decide_eq_true (by kernel_rfl)) h2 bel lt2) trodAll_mk0))),I,bel.frame _,fun h=>by cases h⟩
theorem over : Rows.cellsSpoiledRow.holds Tryz.pinned (OpenSpec.ofChange Rows.cellsSpoiledSpec) :=
 OpenClaim.holds_of_wide 3 f3 rfl rfl rfl rfl rfl rfl rfl ⟨rfl,rfl,rfl,rfl,rfl⟩ rfl rfl rfl rfl rfl (by kernel_rfl) func3 (by kernel_rfl)
  (of_decide_eq_true (by kernel_rfl)) (by unfold Func.isWrapper; first | (rw [if_pos (by decide +kernel)]; kernel_rfl) | (rw [if_neg (by decide +kernel)]; exact ⟨rfl,rfl⟩))
  (fun os started H enc _=>lifted os started H enc)
theorem proved : Rows.CellsSpoiledCardSaid :=
 Claim7.holds_tied_plain_at .later [] [.data,.pinned] true (true, "45ba0e11d175ab82e67e4e45093b06b162f1c5a1c8aff8897be8b5aecdf887bb") false
  over (fun _ h=>by cases h) (by kernel_rfl) (fun _ h=>by cases h) cellsSpoiled_row_tie rfl ⟨rfl,rfl⟩ (by kernel_rfl) rfl
  (fun f fn hf hfn=>by
   obtain rfl : f = 3:=Option.some.inj ((show Tryz.prog.funcNamed "cocycle/cocyclelaw06.CellsSpoiled" = some 3 by kernel_rfl).symm.trans hf) |>.symm
   obtain rfl : fn = f3:=(Option.some.inj (func3.symm.trans hfn)).symm
   exact ⟨by kernel_rfl,fun j t ht=>by
    rw [params3] at ht
    have hm : t ∈ [24,26,27]:=by simpa using Array.mem_of_getElem? ht
    have hall : ([24,26,27].all fun u=>!Tryz.prog.wantsStandIn u) = true:=by kernel_rfl
    exact (show Tryz.prog.wantsStandIn t = false by simpa using List.all_eq_true.1 hall t hm)⟩)
  (by kernel_rfl)
#print axioms proved
end Go.Proofs.YtkdibcicncjpdaaGreatDoor.cellsSpoiledDone
