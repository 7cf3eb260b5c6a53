/- Mtx5 Frm3 Wid6 Wid7 Wid8 Wid9 WidA Mtx7 MtxD MtxM Bnd -/
import Derived.Test.YtkdibcicncjpdaaGreatDoorCl11
import Derived.Test.YtkdibcicncjpdaaGreatDoorCl10
import Derived.Test.YtkdibcicncjpdaaGreatDoorCl06
import Derived.Test.YtkdibcicncjpdaaGreatDoorCl04
set_option linter.unusedSimpArgs false
set_option linter.unusedVariables false
namespace Go.Proofs.YtkdibcicncjpdaaGreatDoor
open _root_.Go.Proofs.Tryz _root_.Go.Proofs.YtkdibcicncjpdaaGreatDoor.Tryz
open Go Go.Sy Go.Pl Go.Proofs
set_option maxRecDepth 100000
set_option maxHeartbeats 1000000
theorem own_get {S : Own} {vs : List Sv} {M : List (List Int)} {i : Nat} {v : Sv} {r : List Int} (h1 : vs[i]? = some v) (h2 : M[i]? = some r) : (ownR vs M ++ S)[i]? = some (rowI v r):=by
 have h:=ownR_get h1 h2
 rw [List.getElem?_append_left (List.getElem?_eq_some_iff.1 h).1]
 exact h
theorem own_set {S : Own} {vs : List Sv} {M : List (List Int)} {i : Nat} {v : Sv} (r : List Int) (h1 : vs[i]? = some v) (hl : vs.length = M.length) : (ownR vs M ++ S).set i (rowI v r) = ownR vs (M.set i r) ++ S:=by
 have h : i < (ownR vs M).length:=by rw [ownR_length hl,← hl]; exact (List.getElem?_eq_some_iff.1 h1).1
 rw [List.set_append_left _ _ h,ownR_set r h1 hl]
theorem modify_set {α : Type} {f : α → α} : ∀ {l : List α} {i : Nat} {a : α},l[i]? = some a → l.modify i f = l.set i (f a)
 | [],_,_,h=>by simp at h
 | x :: t,0,a,h=>by simp at h; subst h; rfl
 | x :: t,i + 1,a,h=>by
  simp at h
  have:=modify_set (f:=f) h
  simp [List.modify_cons,this]
theorem addAt_set {M : List (List Int)} {i k : Nat} {z a : Int} {r : List Int} (h1 : M[i]? = some r) (h2 : r[k]? = some a) : addAt M i k z = M.set i (r.set k (IntKind.i64.wrap (a + z))):=by
 unfold addAt
 rw [modify_set h1,modify_set h2]
def VG (vs : List Sv) (C : Nat) : Prop:=∀ v ∈ vs,∃ b,v = ⟨some ⟨b,0,none⟩,C,C⟩
theorem VG.get {vs : List Sv} {C i : Nat} (h : VG vs C) (hi : i < vs.length) : ∃ b,vs[i]? = some ⟨some ⟨b,0,none⟩,C,C⟩:=by
 obtain ⟨b,hb⟩:=h _ (gM hi)
 exact ⟨b,by rw [gE hi,hb]⟩
theorem Tryz.buildE55 (w : World) : (Instr.build 55 #[]).run Tryz.prog w = .ok (.agg #[vi 0,vi 0,.slice none 0 0]) w:=by
 simp [Instr.build,Instr.fill]
 rfl
theorem matR_nil (g : PH) (C : Nat) : MatR g (.agg #[vi (0 : Nat),vi C,.slice none 0 0]) (0,C,[]):=⟨none,0,rfl,Sl.nil g _⟩
theorem lb_get {l : List Int} {x : Int} (hs : l.Pairwise (· < ·)) (h : l.contains x = true) : lbI l x < l.length:=by
 rw [List.contains_iff_mem] at h
 obtain ⟨k,hk,rfl⟩:=List.getElem_of_mem h
 rw [lbI_self hk hs]
 exact hk
theorem ids_mem {l : List Cl} {d x : Int} (h : x ∈ idsC l d) : ∃ c ∈ tabC l,c.id = x:=by
 unfold idsC at h
 obtain ⟨c,hc,e⟩:=List.mem_map.1 h
 exact ⟨c,(List.mem_filter.1 hc).1,e⟩
theorem matrix_spec (E : World) (g : PH) (s : Own) (v : Value) (l : List Cl) (d : Int) (hv : Cells g v l) (hf : Fits l) (hd : -100 ≤ d ∧ d ≤ 100) :
  Ctr Tryz.prog E 21 #[.agg #[v],vi d] g s (fun x g' s'=>s = s' ∧ Le g g' ∧ MatR g' x (matRes (tabC l) (idsC l (d - 1)) (idsC l d))):=by
 have hft:=tabC_fits hf
 have hfl:=hft.1
 have hR0:=ids_le l (d - 1)
 have hC0:=ids_le l d
 have hasc:=ids_asc l (d - 1)
 refine Ctr.of (args:=[.agg #[v],vi d]) func21 I ntmps21 (bE I) ?_
 refine SC.sR (SL.bx (bO I) fun b2=>?_)
 refine SL.bx (aL zeroValue55) fun b4=>?_
 refine SL.nT (SC.sR (lK (qV 1 iT31 zT31 I I I) (lW (cL kT56 I (of_spec E g _ v l hv hf)) ?_)))
 rintro tv g1 _ ⟨rfl,hle1,ht⟩
 obtain ⟨b,m,iv,rs,rfl,hb,hm,hI,hall⟩:=ht
 refine lA I (SL.nT (sQ ?_))
 refine dW [7,8] [(0,1),(1,2),(2,2),(4,1),(5,2),(3,0),(6,0),(7,0),(8,0)] Tryz.mixed (by kernel_rfl) ?_
 refine pK I (qV 1 iT31 zT31 I I I) (pU I (mV I) (pU I (sU I I ⟨oM,oM⟩) ?_))
 refine pK rfl (qV 1 iT31 zT31 rfl rfl rfl) (pU rfl (mV rfl) (SP.o rfl (cL call23 rfl (ids_spec E g1 _ v l (d - 1) (hv.mono hle1) hf)) dC (.inr (by rintro v1 g2 _ ⟨rfl,hle2,hr1⟩; exact ⟨by assumption,(by exact .refl _)⟩)) ?_))
 rintro v1 g2 _ ⟨rfl,hle2,hr1⟩
 refine SP.o rfl (cL call23 rfl (ids_spec E g2 _ v l d (hv.mono (hle1.trans hle2)) hf)) dC (.inr (by rintro v2 g3 _ ⟨rfl,hle3,hr2⟩; exact ⟨by exact Le.trans (by assumption) (by assumption),(by exact .refl _)⟩)) ?_
 rintro v2 g3 _ ⟨rfl,hle3,hr2⟩
 have hr1:=SlA.mono hr1 hle3
 obtain ⟨p1,c1,rfl⟩:=SlA.form hr1
 obtain ⟨p2,c2,rfl⟩:=SlA.form hr2
 have hle:=hle1.trans (hle2.trans hle3)
 have hall:=hall.mono fun _ _ h=>CellR.mono (hle2.trans hle3) h
 have hb:=hle3 _ _ (hle2 _ _ hb)
 have hm:=hm.mono (hle2.trans hle3)
 clear hle1 hle2 hle3 hI
 refine oU I (aS I) dC (.inl dC) (oU I (aS I) dC (.inl dC) (pN (tN (sQ ?_))))
 refine SC.cutB 32 (decide (((idsC l (d - 1)).length : Int) > 200) || decide (((idsC l d).length : Int) > 200)) ?_ ?_
 ·refine rG (lM I (lU (eN uT27 I) (lU (gR I I) (lM I ?_))))
  refine sP ?_ ?_
  ·intro h28
   refine lZ I I I (lZ I I I (lZ I I I (lU (pT I I) (nL ?_))))
   exact ST.mid1 (by (simp_all [get?]; done)) mI
  ·intro h28
   refine lY I I I (mV I) (lY I I I (eN uT27 I) (lY I I I (gR I I) (lU (pF I I) (nL ?_))))
   exact ST.mid1 (by (simp_all [get?]; omega)) mI
 have hres : matRes (tabC l) (idsC l (d - 1)) (idsC l d) = if decide (((idsC l (d - 1)).length : Int) > 200) || decide (((idsC l d).length : Int) > 200) then (0,0,[]) else if (idsC l (d - 1)).length = 0 then (0,(idsC l d).length,[]) else ((idsC l (d - 1)).length,(idsC l d).length,(matTo (tabC l) (idsC l (d - 1)) (idsC l d) (idsC l d).length).flatten):=rfl
 rw [hres]
 clear hres
 generalize idsC l (d - 1) = RL at *
 have hmem : ∀ x ∈ idsC l d,∃ c ∈ tabC l,c.id = x:=fun x hx=>ids_mem hx
 generalize idsC l d = CL at *
 have hsides : ∀ c ∈ tabC l,c.sides.length < 1099511627776:=hft.2
 generalize tabC l = A at *
 refine iQ I (fun hbig=>?_) (fun hbig=>?_)
 ·refine SC.sR (lU (SU.build I (buildE55)) (SL.O2 (sK 0 zT55 I I I I I sB) ?_))
  refine SL.nT (rE (tR ?_))
  rw [if_pos hbig]
  exact ST.retCD 0 s (.inl I) results21 I iT55 zT55 I I (.cons _ (.cons _ (.refl _))) ⟨I,hle,matR_nil _ 0⟩
 ·rw [if_neg (by rw [hbig]; decide)]
  rw [Bool.or_eq_false_iff,decide_eq_false_iff_not,decide_eq_false_iff_not] at hbig
  refine kP (tN (sQ (SC.sR (lM I (lU (eN uT27 I) (lU (eQ I I) (SL.nT ?_)))))))
  refine iP I (fun hz=>?_) (fun hz=>?_)
  ·have hz0 : RL.length = 0:=oM
   rw [if_pos hz0]
   have h0C : 0 * CL.length = 0:=Nat.zero_mul _
   refine SC.sR (lM I (lU (eN uT27 I) (lW (cL call25 I (zero_own E g3 _ 0 CL.length oM oM)) ?_)))
   rintro _ _ _ ⟨rfl,zp,zk,rfl,rfl⟩
   refine SL.O2 (sK 1 zT55 I I I I I sB) ?_
   refine SL.nT (rE (tR (fT fun g4 hle4 hs4=>?_)))
   rw [h0C] at hs4 ⊢
   exact ST.retCD 0 s (.inl I) results21 I iT55 zT55 I I (.cons _ (.cons _ (.refl _))) ⟨I,hle.trans hle4,zp,zk,I,hs4⟩
  ·rw [if_neg oM]
   refine kP (tN (SC.sR (lM I (lU (eN uT27 I) (lW (mK encSv ⟨none,0,0⟩ sty22 I I I oM oM) ?_)))))
   rintro _ _ _ ⟨b42,rfl,rfl,rfl⟩
   refine lA I (SL.nT (sQ (SC.sR (lM I (lU (eN uT22 I) (lM I (SL.nT (bK ?_))))))))
   refine SC.to (fun w hw=>hw) (g':=g3) (s':=rowA encSv 27 (.slice (some ⟨b42,0,none⟩) RL.length RL.length) ([] ++ List.replicate (RL.length - 0) ⟨none,0,0⟩) :: (ownR [] (List.replicate 0 (List.replicate CL.length 0)) ++ (pt b4 (.cells #[vi 0,vi 0,.slice none 0 0] 55 (0,0)) :: pt b2 (.cells #[v] 31 (0,0)) :: s))) ?_
   refine oP (ι:=List Sv) (fun vs=>[(2,pp b2 0),(4,pp b4 0),(5,pp b 0),(6,.slice p1 RL.length c1),(7,.slice p2 CL.length c2),(8,.slice (some ⟨b42,0,none⟩) RL.length RL.length),(43,.slice (some ⟨b42,0,none⟩) RL.length RL.length),(44,vi RL.length),(45,vi vs.length)]) (fun _=>g3)
    (fun vs=>rowA encSv 27 (.slice (some ⟨b42,0,none⟩) RL.length RL.length) (vs ++ List.replicate (RL.length - vs.length) ⟨none,0,0⟩) :: (ownR vs (List.replicate vs.length (List.replicate CL.length 0)) ++ (pt b4 (.cells #[vi 0,vi 0,.slice none 0 0] 55 (0,0)) :: pt b2 (.cells #[v] 31 (0,0)) :: s)))
    (fun vs=>vs.length ≤ RL.length ∧ VG vs CL.length) (fun vs=>RL.length - vs.length) [] sB rfl rfl ⟨Nat.zero_le _,fun _ h=>by simp at h⟩ ?_
   rintro vs ⟨hvl,hvg⟩
   refine SC.sR (lU (lS I I) (SL.nT (sQ ?_)))
   refine iP I (fun hlt=>?_) (fun hlt=>?_)
   ·have hlt' : vs.length < RL.length:=oM
    have hrep : List.replicate (RL.length - vs.length) (⟨none,0,0⟩ : Sv) = ⟨none,0,0⟩ :: List.replicate (RL.length - (vs.length + 1)) ⟨none,0,0⟩:=by
     rw [show RL.length - vs.length = (RL.length - (vs.length + 1)) + 1 by omega,List.replicate_succ]
    have hll : (vs ++ List.replicate (RL.length - vs.length) (⟨none,0,0⟩ : Sv)).length = RL.length:=by simp; omega
    refine kP (tN (sQ (bK (SC.sR (lM I (lA I (SL.nT (rG (lM I (lM I (lM I (lU (eN uT27 I) (lW (mK encInt 0 sty27 I I I oM oM) ?_)))))))))))))
    rintro _ _ _ ⟨b52,rfl,rfl,rfl⟩
    refine lU (iA uT22 zT27 I I I oM sL) (SL.O2 (sT (a:=⟨some ⟨b52,0,none⟩,CL.length,CL.length⟩) 1 zT27 I I I (by rw [hll]; omega) I) ?_)
    refine nL (bN (tN (rG (lU (aD I I oM) (lM I (nL ?_))))))
    refine ST.to (fun w hw=>?_) (g':=g3) (s':=rowA encSv 27 (.slice (some ⟨b42,0,none⟩) RL.length RL.length) ((vs ++ [⟨some ⟨b52,0,none⟩,CL.length,CL.length⟩]) ++ List.replicate (RL.length - (vs.length + 1)) ⟨none,0,0⟩) :: (ownR (vs ++ [⟨some ⟨b52,0,none⟩,CL.length,CL.length⟩]) (List.replicate vs.length (List.replicate CL.length 0) ++ [List.replicate CL.length 0]) ++ (pt b4 (.cells #[vi 0,vi 0,.slice none 0 0] 55 (0,0)) :: pt b2 (.cells #[v] 31 (0,0)) :: s))) ?_
    ·have hs : (vs ++ List.replicate (RL.length - vs.length) (⟨none,0,0⟩ : Sv)).set ((vs.length : Nat) : Int).toNat ⟨some ⟨b52,0,none⟩,CL.length,CL.length⟩ = (vs ++ [⟨some ⟨b52,0,none⟩,CL.length,CL.length⟩]) ++ List.replicate (RL.length - (vs.length + 1)) ⟨none,0,0⟩:=by
      rw [hrep,set_mid (by simp)]; simp
     rw [ownR_append _ _ (by simp),← hs,List.append_assoc]
     refine hw.perm ?_
     refine (List.Perm.swap _ _ _).trans (List.Perm.cons _ ?_)
     exact List.perm_middle.symm
    exact gA (vs ++ [⟨some ⟨b52,0,none⟩,CL.length,CL.length⟩]) ⟨rfl,rfl,rfl,rfl,rfl,rfl,rfl,rfl,by rw [List.length_append]; rfl,trivial⟩ rfl (by simp [List.replicate_succ']) ⟨by simp; omega,fun x hx=>by
     rcases List.mem_append.1 hx with h | h
     ·exact hvg x h
     ·simp at h; exact ⟨b52,h⟩⟩ (by simp; omega)
   ·have hvR : vs.length = RL.length:=oM
    refine xI (tX (tX (bX (tN (sQ (SC.sR (lM I (lU (eN uT27 I) (lM I (SL.nT (bK ?_)))))))))))
    have hvs0 : vs ++ List.replicate (RL.length - vs.length) ⟨none,0,0⟩ = vs:=by rw [hvR]; simp
    rw [hvs0,hvR]
    have hRp : 0 < RL.length:=oM
    clear hvs0
    refine oP (ι:=Nat) (fun k=>[(2,pp b2 0),(4,pp b4 0),(5,pp b 0),(6,.slice p1 RL.length c1),(7,.slice p2 CL.length c2),(8,.slice (some ⟨b42,0,none⟩) RL.length RL.length),(55,.slice p2 CL.length c2),(56,vi CL.length),(57,vi k)]) (fun _=>g3)
     (fun k=>rowA encSv 27 (.slice (some ⟨b42,0,none⟩) RL.length RL.length) vs :: (ownR vs (matTo A RL CL k) ++ (pt b4 (.cells #[vi 0,vi 0,.slice none 0 0] 55 (0,0)) :: pt b2 (.cells #[v] 31 (0,0)) :: s)))
     (fun k=>k ≤ CL.length) (fun k=>CL.length - k) 0 sB rfl rfl (Nat.zero_le _) ?_
    rintro k hk
    refine SC.sR (lU (lS I I) (SL.nT (sQ ?_)))
    refine iP I (fun hlt2=>?_) (fun hlt2=>?_)
    ·have hkl : k < CL.length:=oM
     have hb1:=SlA.based hr2 oM
     have hgx : CL[((k : Nat) : Int).toNat]? = some CL[k]:=gE hkl
     have hgd : CL.getD k 0 = CL[k]:=by rw [List.getD_eq_getElem?_getD,gE hkl]; rfl
     have hsucc : matTo A RL CL (k + 1) = (cellAt A CL[k]).sides.foldl (colStep RL k) (matTo A RL CL k):=by rw [matTo,hgd]
     have hsh:=matTo_shape A RL CL k
     generalize matTo A RL CL k = M at *
     generalize CL[k] = id at *
     obtain ⟨x,hx1,hx2,hx3⟩:=all2_look hall zeroCR id
     have hcs : (cellAt A id).sides.length < 1099511627776:=by
      unfold cellAt
      cases hfn : findT A id with
      | none=>decide
      | some c=>exact hsides c (findT_mem hfn).1
     have hx3 : CellR g3 (cellAt A id) x:=hx3
     generalize cellAt A id = co at *
     obtain ⟨xi,xd,xp,xn,xc⟩:=x
     have hsv : SlA encSide g3 (.slice xp xn xc) co.sides:=hx3.2.2
     have hxn : xn = co.sides.length:=by obtain ⟨q,cc,hq⟩:=SlA.form hsv; simp at hq; exact hq.2.1
     subst hxn
     refine kP (tN (sQ (bK (SC.sR (lM I (lU (iA uT27 zT3 I I hb1 oM sL) (lK (eB iT3 I (SlA.rd hr2) hgx I) (lA I (lA I (SL.nT (SC.sR (lM I (lU (nC I) (lU (fA uT90 I zT88 I) (lK (qL isAgg88 I (cK hb I)) (lM I (lK (SQ.eq (v':=rcv ⟨xi,xd,xp,co.sides.length,xc⟩) (SQ.lookup mty88 I I (MapAt.known hm)) hx1) (lU (SU.field uT40 I iT38 I I) (lU (eN uT38 I) (lM I (SL.nT (bK ?_))))))))))))))))))))))
     refine oP (ι:=Nat) (fun j=>[(2,pp b2 0),(4,pp b4 0),(5,pp b 0),(6,.slice p1 RL.length c1),(7,.slice p2 CL.length c2),(8,.slice (some ⟨b42,0,none⟩) RL.length RL.length),(10,vi k),(55,.slice p2 CL.length c2),(56,vi CL.length),(57,vi k),(68,.slice xp co.sides.length xc),(69,vi co.sides.length),(70,vi j)]) (fun _=>g3)
      (fun j=>rowA encSv 27 (.slice (some ⟨b42,0,none⟩) RL.length RL.length) vs :: (ownR vs ((co.sides.take j).foldl (colStep RL k) M) ++ (pt b4 (.cells #[vi 0,vi 0,.slice none 0 0] 55 (0,0)) :: pt b2 (.cells #[v] 31 (0,0)) :: s)))
      (fun j=>j ≤ co.sides.length) (fun j=>co.sides.length - j) 0 sB rfl rfl (Nat.zero_le _) ?_
     rintro j hj
     refine SC.sR (lU (lS I I) (SL.nT (sQ ?_)))
     refine iP I (fun hlt3=>?_) (fun hlt3=>?_)
     ·have hjl : j < co.sides.length:=oM
      have hb2:=SlA.based hsv oM
      have hgj : co.sides[((j : Nat) : Int).toNat]? = some co.sides[j]:=gE hjl
      have hts : (co.sides.take (j + 1)).foldl (colStep RL k) M = colStep RL k ((co.sides.take j).foldl (colStep RL k) M) co.sides[j]:=by
       rw [tS hjl,List.foldl_append]; rfl
      have hsh2:=Shape.fold RL k (co.sides.take j) hsh
      generalize (co.sides.take j).foldl (colStep RL k) M = M2 at *
      generalize co.sides[j] = z at *
      refine kP (tN (sQ (bK (SC.sR (lU (iA uT38 zT42 I I hb2 oM sL) (lK (eA iT42 zT42 I hsv.rd hgj) (SL.bx (aL zeroValue42) fun b13=>?_)))))))
      refine SL.O2 (sK 0 zT42 I I I I I sB) ?_
      refine SL.nT (SC.sR (lM I (lU (fA uT42 I zT3 I) (lK (qL iT3 I (cO 0 I I)) (lW (cL call71 I (binSearch_spec E g3 _ _ RL z.cell hr1 oM (hasc.imp Int.le_of_lt))) ?_)))))
      rintro _ _ _ ⟨rfl,rfl,rfl⟩
      refine lM I (lU (xT I I) (lU (xT I I) (lA I (lA I (SL.nT (SC.sR (lM I (SL.nT ?_))))))))
      refine iQ I (fun hcon=>?_) (fun hcon=>?_)
      ·have hi:=lb_get hasc hcon
       have hvi : lbI RL z.cell < vs.length:=oM
       obtain ⟨bv,hgv⟩:=hvg.get hvi
       have hMi : lbI RL z.cell < M2.length:=by rw [hsh2.1]; exact hi
       have hgM : M2[lbI RL z.cell]? = some M2[lbI RL z.cell]:=gE hMi
       have hrl:=(hsh2.2 _ (gM hMi)).1
       have hgv' : vs[((lbI RL z.cell : Nat) : Int).toNat]? = some ⟨some ⟨bv,0,none⟩,CL.length,CL.length⟩:=hgv
       have hstep : colStep RL k M2 z = addAt M2 (lbI RL z.cell) k z.sign:=by unfold colStep; rw [if_pos hcon]
       generalize M2[lbI RL z.cell] = r at *
       generalize lbI RL z.cell = i at *
       have hgk : r[((k : Nat) : Int).toNat]? = some (r[k]'oM):=gE _
       have hadd:=addAt_set (k:=k) (z:=z.sign) hgM hgk
       generalize r[k]'oM = a at *
       refine dW [11] [(0,2),(1,2),(2,2),(3,1),(4,2),(5,2),(6,1),(7,2),(8,1),(9,2),(10,2),(11,0)] Tryz.mixed (by kernel_rfl) ?_
       refine pU I (mV I) (pU I (mV I) (pU I (iA uT22 zT27 I I I oM sL) (pK I (eB (u:=.slice (some ⟨bv,0,none⟩) CL.length CL.length) iT27 I (Rd.rowA 1 I) hgv' I) (pU I (mV I) (pU I (iA uT27 zT3 I I I oM sL) (pK I (eB iT3 I (Rd.rowA (i + 2) (own_get hgv hgM)) hgk I) (pU I (fA uT42 I zT3 I) (pK I (qL iT3 I (cO 0 I I)) (pU I (SU.addW I I) (pU I (iA uT27 zT3 I I I oM sL) (SP.on I (sT (a:=IntKind.i64.wrap (a + z.sign)) (i + 2) zT3 I I (own_get hgv hgM) oM I) (.inl dC) ?_)))))))))))
       rintro _ _ _ ⟨rfl,rfl⟩
       refine pN (bN (tN (rG (lU (aD I I oM) (lM I (nL ?_))))))
       refine ST.to (fun w hw=>?_) (g':=g3) (s':=rowA encSv 27 (.slice (some ⟨b42,0,none⟩) RL.length RL.length) vs :: (ownR vs (colStep RL k M2 z) ++ (pt b4 (.cells #[vi 0,vi 0,.slice none 0 0] 55 (0,0)) :: pt b2 (.cells #[v] 31 (0,0)) :: s))) ?_
       ·have hst:=own_set (S:=pt b4 (.cells #[vi 0,vi 0,.slice none 0 0] 55 (0,0)) :: pt b2 (.cells #[v] 31 (0,0)) :: s) (r.set k (IntKind.i64.wrap (a + z.sign))) hgv (by rw [hvR,hsh2.1] : vs.length = M2.length)
        rw [hstep,hadd,← hst]
        exact hw.sublist (.cons _ (.refl _))
       exact gA (j + 1) sB I (by rw [hts]) oM oM
      ·have hstep : colStep RL k M2 z = M2:=by unfold colStep; rw [hcon]; rfl
       refine kP (bN (tN (rG (lU (aD I I oM) (lM I (nL (dR (.cons _ (.refl _)) ?_)))))))
       exact gA (j + 1) sB I (by rw [hts,hstep]) oM oM
     ·have hjj : co.sides.take j = co.sides:=tL oM
      rw [hjj,← hsucc]
      refine xI (tX (tX (bX (bN (tN (rG (lU (aD I I oM) (lM I (nL ?_)))))))))
      exact gA (k + 1) sB I I oM oM
    ·have hkk : k = CL.length:=oM
     subst hkk
     have hsh:=matTo_shape A RL CL CL.length
     refine SC.freezeLs (by rw [hvR,hsh.1]) (fun x hx r hr=>by obtain ⟨bb,rfl⟩:=hvg x hx; exact ((hsh.2 r hr).1).symm) fun g4 hle4 hls=>?_
     refine xI (tX (tX (bX (tN (SC.sR (lM I (lW (cL call72 I (of_mat E g4 _ _ _ CL.length hls (hsh.rows hRp oM oM))) ?_)))))))
     rintro _ g5 _ ⟨rfl,hle5,mp,mk,rfl,hmr⟩
     refine SL.O2 (sK 0 zT55 I I I I I sB) ?_
     refine SL.nT (rE ?_)
     rw [hsh.1] at hmr ⊢
     exact ST.retCD 0 s (.inl I) results21 I iT55 zT55 I I (.cons _ (.cons _ (.refl _))) ⟨I,hle.trans (hle4.trans hle5),mp,mk,I,hmr⟩
open Go.ChangeShapes Go.WideShapes Go.ChangeAt Go.RowKit
set_option maxRecDepth 100000
section
variable {H : Type} {enc : TypeId × Value → H} {W : World} {base : Nat} {spare : Nat → Bool} {hd : Bool}
end
theorem or_nat (a b : Nat) (ha : a < 18446744073709551616) (hb : b < 18446744073709551616) : IntKind.u64.wrap ((BitVec.ofInt 64 (a : Int) ||| BitVec.ofInt 64 (b : Int)).toNat : Int) = ((a ||| b : Nat) : Int):=by
 have h : (BitVec.ofInt 64 (a : Int) ||| BitVec.ofInt 64 (b : Int)).toNat = a ||| b:=by
  rw [BitVec.toNat_or,BitVec.ofInt_natCast,BitVec.ofInt_natCast,BitVec.toNat_ofNat,BitVec.toNat_ofNat,Nat.mod_eq_of_lt ha,Nat.mod_eq_of_lt hb]
 rw [h]
 have h2 : a ||| b < 18446744073709551616:=Nat.or_lt_two_pow (n:=64) ha hb
 rw [u64w]
 omega
theorem or_add {A b j : Nat} (hb : b < 256) (hj : j ≤ 3) (hA : A * 256 ^ (j + 1) < 4294967296) : IntKind.u64.wrap ((BitVec.ofInt 64 ((A * 256 ^ (j + 1) : Nat) : Int) ||| BitVec.ofInt 64 ((b * 256 ^ j : Nat) : Int)).toNat : Int) = (((A * 256 + b) * 256 ^ j : Nat) : Int):=by
 have e : 256 ^ (j + 1) = 2 ^ (8 * (j + 1)):=by rw [Nat.pow_mul]
 have hlt : b * 256 ^ j < 256 ^ (j + 1):=by
  rw [Nat.pow_succ,Nat.mul_comm (256 ^ j)]
  exact Nat.mul_lt_mul_of_pos_right hb (Nat.pow_pos dC)
 have hle : 256 ^ (j + 1) ≤ 4294967296:=Nat.le_trans (Nat.pow_le_pow_right (n:=256) dC (show j + 1 ≤ 4 by omega)) dC
 have hor : A * 256 ^ (j + 1) ||| b * 256 ^ j = A * 256 ^ (j + 1) + b * 256 ^ j:=by
  rw [e] at hlt ⊢
  rw [Nat.mul_comm A]
  exact (Nat.two_pow_add_eq_or_of_lt hlt A).symm
 have hsum : A * 256 ^ (j + 1) + b * 256 ^ j = (A * 256 + b) * 256 ^ j:=by
  rw [Nat.add_mul,Nat.pow_succ,Nat.mul_assoc,Nat.mul_comm 256]
 clear e
 rw [or_nat _ _ oM oM,hor,hsum]
theorem trimZ_one (n : Nat) : trimZ [(n : Int)] = limb n:=by
 unfold limb
 split
 ·rename_i h; subst h; rfl
 ·rename_i h
  have : ((n : Int) == 0) = false:=by simpa using h
  simp [trimZ,this]
def accL (B : List UInt8) (i : Nat) : List Int:=List.replicate ((B.length + 3) / 4) ((beN (B.take i) * 256 ^ (B.length - i) : Nat) : Int)
theorem beN_bound (l : List UInt8) : beN l < 256 ^ l.length:=by
 obtain ⟨r,rfl⟩ : ∃ r,l = List.reverse r:=⟨l.reverse,by simp⟩
 induction r with
 | nil=>exact Nat.zero_lt_one
 | cons b t ih =>
  rw [List.reverse_cons,beN_snoc,List.length_append,List.length_singleton,Nat.pow_succ]
  have:=b.toNat_lt
  have h : (beN t.reverse + 1) * 256 ≤ 256 ^ t.reverse.length * 256:=Nat.mul_le_mul_right _ ih
  omega
theorem pow256 {k : Nat} (h : k ≤ 4) : 256 ^ k ≤ 4294967296:=Nat.le_trans (Nat.pow_le_pow_right dC h) dC
theorem accL_end {B : List UInt8} (h : B.length ≤ 4) : trimZ (accL B B.length) = limb (beN B):=by
 unfold accL
 rw [List.take_length,Nat.sub_self,Nat.pow_zero,Nat.mul_one]
 by_cases h0 : B = []
 ·subst h0; rfl
 ·have h1 : 0 < B.length:=List.length_pos_iff.2 h0
  rw [show (B.length + 3) / 4 = 1 by omega]
  exact trimZ_one _
theorem shlB (b j : Nat) (hb : b < 256) (hj : j ≤ 3) : IntKind.u64.wrap ((b : Int) * 2 ^ min (8 * (j : Int)).toNat IntKind.u64.bits) = ((b * 256 ^ j : Nat) : Int):=by
 rcases (by omega : j = 0 ∨ j = 1 ∨ j = 2 ∨ j = 3) with rfl | rfl | rfl | rfl
 ·rw [show (2 : Int) ^ min (8 * ((0 : Nat) : Int)).toNat IntKind.u64.bits = 1 by decide,show (256 : Nat) ^ 0 = 1 by decide,u64w]; omega
 ·rw [show (2 : Int) ^ min (8 * ((1 : Nat) : Int)).toNat IntKind.u64.bits = 256 by decide,show (256 : Nat) ^ 1 = 256 by decide,u64w]; omega
 ·rw [show (2 : Int) ^ min (8 * ((2 : Nat) : Int)).toNat IntKind.u64.bits = 65536 by decide,show (256 : Nat) ^ 2 = 65536 by decide,u64w]; omega
 ·rw [show (2 : Int) ^ min (8 * ((3 : Nat) : Int)).toNat IntKind.u64.bits = 16777216 by decide,show (256 : Nat) ^ 3 = 16777216 by decide,u64w]; omega
theorem abs_spec (E : World) (g : PH) (s : Own) (ng : Bool) (B : List UInt8) (hB : B.length ≤ 4) :
  Ctr Tryz.prog E 130 #[.agg #[vb ng,txt B]] g s (fun r g' s'=>s = s' ∧ Le g g' ∧ SlA encU g' r (limb (beN B))):=by
 obtain ⟨q,hq⟩ : ∃ q,q = (B.length + 3) / 4:=⟨_,rfl⟩
 refine Ctr.of (args:=[.agg #[vb ng,txt B]]) func130 I ntmps130 (bE I) ?_
 refine SC.sR (SL.bx (bO I) fun b1=>?_)
 refine lA I (SL.nT (SC.sR (lU (fA uT94 I zT9 I) (lK (qL isAgg9 I (cO 0 I I)) (lU (SU.lenTxt uT9 I) (lU (aD I I oM) (lU (sU I I oM) (lU (SU.eq (v':=vi (q : Nat)) (SU.quo I I dC) (congrArg vi (by rw [Int.tdiv_eq_ediv_of_nonneg oM,IntWalk.i64_in _ oM]; omega))) ?_))))))))
 refine lW (mK encU 0 sty144 I I I oM oM) ?_
 rintro _ _ _ ⟨b12,rfl,rfl,rfl⟩
 refine lA I (SL.nT (sQ (SC.sR (lU (fA uT94 I zT9 I) (lK (qL isAgg9 I (cO 1 I I)) (lU (SU.lenTxt uT9 I) (lM I (SL.nT (bK ?_)))))))))
 refine oP (ι:=Nat) (fun i=>[(1,pp b1 0),(3,.slice (some ⟨b12,0,none⟩) q q),(15,vi B.length),(16,vi i)]) (fun _=>g) (fun i=>rowA encU 158 (.slice (some ⟨b12,0,none⟩) q q) (accL B i) :: pt b1 (.cells #[vb ng,txt B] 94 (0,0)) :: s) (fun i=>i ≤ B.length) (fun i=>B.length - i) 0
  sB rfl (by unfold accL; rw [hq]; simp [beN]; rfl) (Nat.zero_le _) ?_
 intro i hi
 refine SC.sR (lU (lS I I) (SL.nT (sQ ?_)))
 refine iP I (fun hlt=>?_) (fun hlt=>?_)
 ·have hlt : i < B.length:=oM
  have hq1 : q = 1:=oM
  obtain ⟨k,hk⟩ : ∃ k,k = B.length - 1 - i:=⟨_,rfl⟩
  have hk3 : k ≤ 3:=oM
  have hx : B[((i : Nat) : Int).toNat]? = some B[i]:=gE hlt
  have hacc : accL B i = [((beN (B.take i) * 256 ^ (k + 1) : Nat) : Int)]:=by
   unfold accL
   rw [← hq,hq1,show B.length - i = k + 1 by omega]
   rfl
  have hacc' : accL B (i + 1) = [(((beN (B.take i) * 256 + B[i].toNat) * 256 ^ k : Nat) : Int)]:=by
   unfold accL
   rw [← hq,hq1,show B.length - (i + 1) = k by omega,tS hlt,beN_snoc]
   rfl
  have hA : beN (B.take i) * 256 ^ (k + 1) < 4294967296:=by
   have h1:=beN_bound (B.take i)
   rw [List.length_take,Nat.min_eq_left oM] at h1
   have h2 : beN (B.take i) * 256 ^ (k + 1) < 256 ^ i * 256 ^ (k + 1):=Nat.mul_lt_mul_of_pos_right h1 (Nat.pow_pos dC)
   rw [← Nat.pow_add] at h2
   exact Nat.lt_of_lt_of_le h2 (pow256 oM)
  have hb:=B[i].toNat_lt
  have hor:=or_add (A:=beN (B.take i)) (b:=B[i].toNat) hb hk3 hA
  rw [hacc]
  generalize B[i] = b at *
  subst hq1
  refine kP (tN (sQ (bK (SC.sR (lM I (lA I (SL.nT (SC.sR (lU (fA uT94 I zT9 I) (lK (qL isAgg9 I (cO 1 I I)) (lU (SU.lenTxt uT9 I) (lU (sU I I oM) (lM I (lU (SU.eq (v':=vi (k : Nat)) (sU I I oM) (congrArg vi oM)) (lA I (SL.nT ?_))))))))))))))))
  refine dW [16] [(0,2),(1,2),(2,2),(3,2),(4,1),(5,2),(6,1),(7,2),(8,2),(9,2),(10,2),(11,2),(12,2),(13,2),(14,2),(15,2),(16,0)] Tryz.mixed (by kernel_rfl) ?_
  refine pU I (mV I) (pU I (mV I) (pU I (SU.eq (v':=vi (0 : Nat)) (SU.quo I I dC) (congrArg vi (by rw [Int.tdiv_eq_ediv_of_nonneg oM,IntWalk.i64_in _ oM]; omega))) ?_))
  refine pU I (iA uT144 zT158 I I I oM (by simp [slen])) ?_
  refine pK I (eB iT158 I (Rd.rowA 0 I) (j:=0) I I) (pU I (fA uT94 I zT9 I) (pK I (qL isAgg9 I (cO 1 I I)) (pU I (mV I) (pU I (SU.txtAt uT9 I I oM hx) (pU I (SU.eq (v':=.int .u64 (b.toNat : Int)) (SU.convert uT5 uT158 I) (congrArg (Value.int .u64) (by rw [u64w]; omega))) ?_)))))
  refine pU I (mV I) (pU I (SU.eq (v':=vi (k : Nat)) (SU.rem I I dC) (congrArg vi (by rw [Int.tmod_eq_emod_of_nonneg oM]; omega))) ?_)
  refine pU I (SU.mul I I oM) (pU I (SU.eq (v':=.int .u64 ((b.toNat * 256 ^ k : Nat) : Int)) (SU.shl I I oM) (congrArg (Value.int .u64) (shlB _ _ hb hk3))) (pU I (SU.eq (v':=.int .u64 (((beN (B.take i) * 256 + b.toNat) * 256 ^ k : Nat) : Int)) (SU.or I I) (congrArg (Value.int .u64) hor)) (pU I (iA uT144 zT158 I I I oM (by simp [slen])) ?_)))
  refine SP.on I (sT (e:=encU) (a:=(((beN (B.take i) * 256 + b.toNat) * 256 ^ k : Nat) : Int)) (j:=0) 0 zT158 I I I (bE I) I) (.inl dC) ?_
  rintro _ _ _ ⟨rfl,rfl⟩
  refine pN (bN (tN (rG (lU (aD I I oM) (lM I (nL ?_))))))
  exact gA (i + 1) ⟨rfl,rfl,rfl,getVi rfl oM,trivial⟩ rfl (by rw [hacc']; rfl) oM oM
 ·have hi' : i = B.length:=oM
  subst hi'
  have hlen : (accL B B.length).length = q:=by unfold accL; rw [List.length_replicate,hq]
  refine xI (tX (tX (bX (tN (sQ (fS fun g1 hle hs=>?_))))))
  refine rG (lM I (lW (cL call154 I (norm_spec E g1 _ _ (accL B B.length) hs oM)) ?_))
  rintro v43 _ _ ⟨rfl,rfl,hm⟩
  refine lA I (SL.nT (rE ?_))
  rw [accL_end hB] at hm
  refine dR (s':=s) (.cons _ (.refl _)) ?_
  exact ST.ret1 (.inl I) results130 I ⟨I,hle,hm⟩
theorem limb_cases (n : Nat) : limb n = [] ∧ n = 0 ∨ limb n = [(n : Int)] ∧ n ≠ 0:=by
 unfold limb
 split
 ·exact .inl ⟨I,by assumption⟩
 ·exact .inr ⟨I,by assumption⟩
theorem trimZ_one0 (n : Nat) : trimZ [(n : Int),0] = limb n:=by
 rw [← trimZ_one n]
 simp [trimZ]
theorem shr_small (m : Nat) (k : Int) (hk : 32 ≤ k) (hk2 : k ≤ 64) (h : m < 4294967296) : (m : Int).fdiv (2 ^ min k.toNat IntKind.u64.bits) = 0:=by
 have h1 : min k.toNat IntKind.u64.bits = k.toNat:=Nat.min_eq_left (by simp only [IntKind.bits]; omega)
 have h2 : (2 : Int) ^ k.toNat = ((2 ^ k.toNat : Nat) : Int):=by simp
 rw [h1,h2,fdiv_nat]
 have h3 : 2 ^ 32 ≤ 2 ^ k.toNat:=Nat.pow_le_pow_right dC oM
 have h4 : (2 : Nat) ^ 32 = 4294967296:=by decide
 rw [h4] at h3
 rw [Nat.div_eq_of_lt oM]
 rfl
theorem u64n {n : Int} (h : 0 ≤ n ∧ n < 18446744073709551616) : IntKind.u64.wrap n = n:=by rw [u64w]; omega
def addO (la : List Int) (n : Nat) (i : Nat) : List Int:=if i = 0 then List.replicate (la.length + 1) 0 else [(n : Int),0]
theorem natAdd_spec (E : World) (g : PH) (s : Own) (v u : Value) (n m : Nat) (hv : SlA encU g v (limb n)) (hu : SlA encU g u (limb m)) (h : n + m < 4294967296) :
  Ctr Tryz.prog E 131 #[v,u] g s (fun r g' s'=>s = s' ∧ Le g g' ∧ SlA encU g' r (limb (n + m))):=by
 obtain ⟨p1,c1,rfl⟩:=SlA.form hv
 obtain ⟨p2,c2,rfl⟩:=SlA.form hu
 have hl0 : ∀ k,(limb k).length ≤ 1:=fun k=>by rcases limb_cases k with ⟨h,-⟩ | ⟨h,-⟩ <;> rw [h] <;> simp
 have hl1:=hl0 n
 have hl2:=hl0 m
 refine Ctr.of (args:=[.slice p1 (limb n).length c1,.slice p2 (limb m).length c2]) func131 I ntmps131 (bE I) ?_
 refine SC.sR (lA I (SL.nT ?_))
 refine SC.cut (ι:=Value × Value × Nat × Nat) (fun q=>[(0,q.1),(1,q.2.1)]) (fun _=>g) (fun _=>s) (fun q=>SlA encU g q.1 (limb q.2.2.1) ∧ SlA encU g q.2.1 (limb q.2.2.2) ∧ q.2.2.1 + q.2.2.2 = n + m ∧ (limb q.2.2.2).length ≤ (limb q.2.2.1).length) ?_ ?_
 ·refine SC.sR (lM I (lU (eN uT144 I) (lM I (lU (eN uT144 I) (lU (lS I I) (SL.nT ?_))))))
  refine iP I (fun hlt=>?_) (fun hlt=>?_)
  ·refine rG (lM I (lM I (lA I (lA I (nL ?_)))))
   exact ST.mid (_,_,m,n) sB I I ⟨hu,hv,Nat.add_comm _ _,by dsimp only; omega⟩
  ·refine kP ?_
   exact ST.mid (_,_,n,m) sB I I ⟨hv,hu,I,by dsimp only; omega⟩
 clear hv hu hl1 hl2 p1 p2 c1 c2
 rintro ⟨v,u,a,b⟩ ⟨hv,hu,hab,hle⟩
 dsimp only at hv hu hab hle ⊢
 rw [← hab] at h ⊢
 clear hab n m
 obtain ⟨p1,c1,rfl⟩:=SlA.form hv
 obtain ⟨p2,c2,rfl⟩:=SlA.form hu
 have hl1:=hl0 a
 have hl2:=hl0 b
 have hca:=limb_cases a
 have hcb:=limb_cases b
 generalize limb a = la at *
 generalize limb b = lb at *
 refine SC.sR (lM I (lU (eN uT144 I) (lU (SU.eq (v':=vi ((la.length + 1 : Nat))) (aD I I oM) (congrArg vi oM)) (lW (mK encU 0 sty144 I I I oM oM) ?_))))
 rintro _ _ _ ⟨b19,rfl,rfl,rfl⟩
 refine lA I (SL.nT (SC.sR (lA I (SL.nT (sQ (SC.sR (lM I (lU (eN uT144 I) (lM I (SL.nT (bK ?_)))))))))))
 refine oP (ι:=Nat) (fun i=>[(0,.slice p1 la.length c1),(1,.slice p2 lb.length c2),(5,.slice (some ⟨b19,0,none⟩) (la.length + 1) (la.length + 1)),(6,.int .u64 0),(21,vi la.length),(22,vi i)]) (fun _=>g) (fun i=>rowA encU 158 (.slice (some ⟨b19,0,none⟩) (la.length + 1) (la.length + 1)) (addO la (a + b) i) :: s) (fun i=>i ≤ la.length) (fun i=>la.length - i) 0
  sB rfl rfl (Nat.zero_le _) ?_
 intro i hi
 refine SC.sR (lU (lS I I) (SL.nT (sQ ?_)))
 refine iP I (fun hlt=>?_) (fun hlt=>?_)
 ·rcases hca with ⟨rfl,ha⟩ | ⟨rfl,ha⟩
  ·exact absurd hlt (by simp)
  obtain rfl : i = 0:=by simp at hi hlt; omega
  have hb1:=SlA.based hv Nat.zero_lt_one
  refine kP (tN (sQ (bK (SC.sR (lM I (lA I (SL.nT (SC.sR (lM I (lM I (lU (iA uT144 zT158 I I hb1 dC (by simp [slen])) ?_)))))))))))
  refine lK (eB iT158 I (SlA.rd hv) (j:=0) I I) (lM I (lU (SU.eq (v':=.int .u64 (a : Int)) (SU.addW I I) (congrArg (Value.int .u64) (by rw [u64n oM]; omega))) ?_))
  refine lA I (SL.nT (sQ (SC.sR (lM I (lM I (lU (eN uT144 I) (lU (lS I I) (SL.nT ?_))))))))
  refine iP I (fun hl=>?_) (fun hl=>?_)
  ·rcases hcb with ⟨rfl,hb⟩ | ⟨rfl,hb⟩
   ·exact absurd hl (by simp)
   have hb2:=SlA.based hu Nat.zero_lt_one
   refine rG (lM I (lM I (lM I (lU (iA uT144 zT158 I I hb2 dC (by simp [slen])) ?_))))
   refine lK (eB iT158 I (SlA.rd hu) (j:=0) I I) (lU (SU.eq (v':=.int .u64 ((a + b : Nat) : Int)) (SU.addW I I) (congrArg (Value.int .u64) (by rw [u64n oM]; omega))) ?_)
   refine lA I (SL.nT (rG (lM I (lM I (lM I (lU (SU.eq (v':=.int .u64 ((a + b : Nat) : Int)) (SU.and I I) (congrArg (Value.int .u64) (by rw [mask32 _ oM,Nat.mod_eq_of_lt h]))) ?_))))))
   refine lM I (lU (SU.eq (v':=.int .u64 0) (SU.shr I I dC) (congrArg (Value.int .u64) (shr_small _ _ dC dC h))) (lU (iA uT144 zT158 I I I dC (by simp [slen])) ?_))
   refine SL.O2 (sT (e:=encU) (a:=((a + b : Nat) : Int)) (j:=0) 0 zT158 I I I (bE I) I) (lA I (nL (bN (tN (rG (lU (aD I I oM) (lM I (nL ?_))))))))
   exact gA 1 sB I I (lR _) Nat.zero_lt_one
  ·rcases hcb with ⟨rfl,hb⟩ | ⟨rfl,hb⟩
   rotate_left
   ·exact absurd hl (by simp)
   subst hb
   rw [Nat.add_zero] at h ⊢
   refine kP (tN (rG (lM I (lM I (lM I (lU (SU.eq (v':=.int .u64 ((a : Nat) : Int)) (SU.and I I) (congrArg (Value.int .u64) (by rw [mask32 _ oM,Nat.mod_eq_of_lt h]))) ?_))))))
   refine lM I (lU (SU.eq (v':=.int .u64 0) (SU.shr I I dC) (congrArg (Value.int .u64) (shr_small _ _ dC dC h))) (lU (iA uT144 zT158 I I I dC (by simp [slen])) ?_))
   refine SL.O2 (sT (e:=encU) (a:=((a : Nat) : Int)) (j:=0) 0 zT158 I I I (bE I) I) (lA I (nL (bN (tN (rG (lU (aD I I oM) (lM I (nL ?_))))))))
   exact gA 1 sB I I (lR _) Nat.zero_lt_one
 ·obtain rfl : i = la.length:=oM
  have hlen : (addO la (a + b) la.length).length = la.length + 1:=by
   unfold addO
   split
   ·simp
   ·simp; omega
  have hfin : trimZ ((addO la (a + b) la.length).set la.length 0) = limb (a + b):=by
   rcases hca with ⟨rfl,ha⟩ | ⟨rfl,ha⟩
   ·rcases hcb with ⟨rfl,hb⟩ | ⟨rfl,hb⟩
    ·subst ha hb; rfl
    ·simp at hle
   ·exact trimZ_one0 _
  refine xI (tX (tX (bX (tN (SC.sR (lM I (lM I (lU (eN uT144 I) (lM I (lU (iA uT144 zT158 I I I oM sL) (SL.O2 (sT (e:=encU) (a:=0) (j:=la.length) 0 zT158 I I I oM I) (SL.nT (sQ ?_)))))))))))))
  refine SC.to (g':=g) (s':=rowA encU 158 (.slice (some ⟨b19,0,none⟩) (la.length + 1) (la.length + 1)) ((addO la (a + b) la.length).set la.length 0) :: s) (fun w hw=>hw) ?_
  refine fS fun g1 hle1 hs1=>?_
  refine rG (lM I (lW (cL call154 I (norm_spec E g1 _ _ ((addO la (a + b) la.length).set la.length 0) (by unfold SlA; rw [List.length_set,hlen]; rw [List.length_set,hlen] at hs1; exact hs1) (by rw [List.length_set]; omega))) ?_))
  rintro v55 _ _ ⟨rfl,rfl,hm⟩
  refine lA I (SL.nT (rE ?_))
  rw [hfin] at hm
  exact ST.ret1 (.inl I) results131 I ⟨I,hle1,hm⟩
def cmpN (a b : Nat) : Int:=if a < b then -1 else if b < a then 1 else 0
theorem natCmp_spec (E : World) (g : PH) (s : Own) (v u : Value) (n m : Nat) (hv : SlA encU g v (limb n)) (hu : SlA encU g u (limb m)) :
  Ctr Tryz.prog E 133 #[v,u] g s (fun r g' s'=>r = vi (cmpN n m) ∧ g = g' ∧ s = s'):=by
 obtain ⟨p1,c1,rfl⟩:=SlA.form hv
 obtain ⟨p2,c2,rfl⟩:=SlA.form hu
 rcases limb_cases n with ⟨h1,ha⟩ | ⟨h1,ha⟩
 ·rcases limb_cases m with ⟨h2,hb⟩ | ⟨h2,hb⟩
  ·rw [h1] at hv ⊢
   rw [h2] at hu ⊢
   subst ha hb
   refine Ctr.of (args:=[.slice p1 0 c1,.slice p2 0 c2]) func133 I ntmps133 (bE I) ?_
   refine SC.sR (lA I (SL.nT (sQ (bK (SC.sR (lM I (lU (eN uT144 I) (lM I (lU (eN uT144 I) (lU (lS I I) (lA I (SL.nT (cF I (SC.sR (lM I (lU (eN uT144 I) (lM I (lU (eN uT144 I) (lU (gR I I) (lA I (SL.nT (cF I (kP ?_)))))))))))))))))))))))
   refine bN (tN (sQ (SC.sR (lM I (lU (eN uT144 I) (lU (sU I I oM) (lA I (SL.nT (bK ?_)))))))))
   refine oP (ι:=Unit) (fun _=>[(5,vi (-1))]) (fun _=>g) (fun _=>s) (fun _=>True) (fun _=>0) () ⟨I,trivial⟩ I I trivial ?_
   intro _ _
   refine sQ (SC.sR (lM I (lU (gQ I I) (SL.nT (cF I (xI (tX (tX (bX (tN (SC.sR (lA I (SL.nT (rE ?_))))))))))))))
   exact ST.ret1 (.inl I) results133 I ⟨I,I,I⟩
  ·rw [h1] at hv ⊢
   rw [h2] at hu ⊢
   subst ha
   refine Ctr.of (args:=[.slice p1 0 c1,.slice p2 1 c2]) func133 I ntmps133 (bE I) ?_
   refine SC.sR (lA I (SL.nT (sQ (bK (SC.sR (lM I (lU (eN uT144 I) (lM I (lU (eN uT144 I) (lU (lS I I) (lA I (SL.nT (cT I (SC.sR (lA I (SL.nT (rE (bR (tR ?_)))))))))))))))))))
   exact ST.ret1 (.inl I) results133 I ⟨congrArg vi (by unfold cmpN; rw [if_pos oM]),I,I⟩
 ·rcases limb_cases m with ⟨h2,hb⟩ | ⟨h2,hb⟩
  ·rw [h1] at hv ⊢
   rw [h2] at hu ⊢
   subst hb
   refine Ctr.of (args:=[.slice p1 1 c1,.slice p2 0 c2]) func133 I ntmps133 (bE I) ?_
   refine SC.sR (lA I (SL.nT (sQ (bK (SC.sR (lM I (lU (eN uT144 I) (lM I (lU (eN uT144 I) (lU (lS I I) (lA I (SL.nT (cF I (SC.sR (lM I (lU (eN uT144 I) (lM I (lU (eN uT144 I) (lU (gR I I) (lA I (SL.nT (cT I (sQ ?_)))))))))))))))))))))))
   refine rG (lA I (SL.nT (rE (bR (tR ?_)))))
   exact ST.ret1 (.inl I) results133 I ⟨congrArg vi (by unfold cmpN; rw [if_neg oM,if_pos oM]),I,I⟩
  ·rw [h1] at hv ⊢
   rw [h2] at hu ⊢
   have hb1:=SlA.based hv Nat.zero_lt_one
   have hb2:=SlA.based hu Nat.zero_lt_one
   refine Ctr.of (args:=[.slice p1 1 c1,.slice p2 1 c2]) func133 I ntmps133 (bE I) ?_
   refine SC.sR (lA I (SL.nT (sQ (bK (SC.sR (lM I (lU (eN uT144 I) (lM I (lU (eN uT144 I) (lU (lS I I) (lA I (SL.nT (cF I (SC.sR (lM I (lU (eN uT144 I) (lM I (lU (eN uT144 I) (lU (gR I I) (lA I (SL.nT (cF I (kP ?_)))))))))))))))))))))))
   refine bN (tN (sQ (SC.sR (lM I (lU (eN uT144 I) (lU (sU I I oM) (lA I (SL.nT (bK ?_)))))))))
   refine oP (ι:=Nat) (fun i=>[(0,.slice p1 1 c1),(1,.slice p2 1 c2),(5,vi ((i : Int) - 1))]) (fun _=>g) (fun _=>s) (fun i=>i ≤ 1 ∧ (i = 0 → n = m)) (fun i=>i) 1 sB I I ⟨lR _,fun h=>absurd h dC⟩ ?_
   rintro i ⟨hi,hz⟩
   refine sQ (SC.sR (lM I (lU (gQ I I) (SL.nT ?_))))
   refine iP I (fun hge=>?_) (fun hge=>?_)
   ·obtain rfl : i = 1:=oM
    refine kP (tN (sQ (bK (bK (sQ ?_)))))
    refine dW [] [(0,2),(1,2),(2,2),(3,1),(4,2),(5,2),(6,2),(7,1),(8,2),(9,2)] Tryz.mixed (by kernel_rfl) ?_
    refine pU I (mV I) (pU I (mV I) (pU I (iA uT144 zT158 I I hb1 dC (by simp [slen])) ?_))
    refine pK I (eB iT158 I (SlA.rd hv) (j:=0) I I) (pU I (mV I) (pU I (mV I) (pU I (iA uT144 zT158 I I hb2 dC (by simp [slen])) ?_)))
    refine pK I (eB iT158 I (SlA.rd hu) (j:=0) I I) (pU I (lS I I) (pU I (aS I) (pN (tN ?_))))
    refine iP I (fun hlt=>?_) (fun hlt=>?_)
    ·refine SC.sR (lA I (SL.nT (rE (bR (bR (tR (tR (bR (tR ?_)))))))))
     exact ST.ret1 (.inl I) results133 I ⟨congrArg vi (by unfold cmpN; rw [if_pos oM]),I,I⟩
    ·refine sQ ?_
     refine dW [] [(0,2),(1,2),(2,2),(3,1),(4,2),(5,2),(6,2),(7,1),(8,2),(9,2)] Tryz.mixed (by kernel_rfl) ?_
     refine pU I (mV I) (pU I (mV I) (pU I (iA uT144 zT158 I I hb1 dC (by simp [slen])) ?_))
     refine pK I (eB iT158 I (SlA.rd hv) (j:=0) I I) (pU I (mV I) (pU I (mV I) (pU I (iA uT144 zT158 I I hb2 dC (by simp [slen])) ?_)))
     refine pK I (eB iT158 I (SlA.rd hu) (j:=0) I I) (pU I (gR I I) (pU I (aS I) (pN (tN ?_))))
     refine iP I (fun hgt=>?_) (fun hgt=>?_)
     ·refine SC.sR (lA I (SL.nT (rE (bR (bR (tR (tR (bR (tR ?_)))))))))
      exact ST.ret1 (.inl I) results133 I ⟨congrArg vi (by unfold cmpN; rw [if_neg oM,if_pos oM]),I,I⟩
     ·refine kP (bN (bN (tN (rG (lM I (lU (sU I I oM) (lA I (nL ?_))))))))
      exact gA 0 sB I I ⟨by decide,fun _=>by omega⟩ dC
   ·refine xI (tX (tX (bX (tN (SC.sR (lA I (SL.nT (rE ?_))))))))
    have hnm:=hz oM
    exact ST.ret1 (.inl I) results133 I ⟨congrArg vi (by unfold cmpN; rw [if_neg oM,if_neg oM]),I,I⟩
def subO (la : List Int) (n : Nat) (i : Nat) : List Int:=if i = 0 then List.replicate la.length 0 else [(n : Int)]
theorem natSub_spec (E : World) (g : PH) (s : Own) (v u : Value) (a b : Nat) (hv : SlA encU g v (limb a)) (hu : SlA encU g u (limb b)) (hab : b ≤ a) (h : a < 4294967296) :
  Ctr Tryz.prog E 134 #[v,u] g s (fun r g' s'=>s = s' ∧ Le g g' ∧ SlA encU g' r (limb (a - b))):=by
 obtain ⟨p1,c1,rfl⟩:=SlA.form hv
 obtain ⟨p2,c2,rfl⟩:=SlA.form hu
 have hl0 : ∀ k,(limb k).length ≤ 1:=fun k=>by rcases limb_cases k with ⟨h,-⟩ | ⟨h,-⟩ <;> rw [h] <;> simp
 have hl1:=hl0 a
 have hl2:=hl0 b
 have hca:=limb_cases a
 have hcb:=limb_cases b
 generalize limb a = la at *
 generalize limb b = lb at *
 refine Ctr.of (args:=[.slice p1 la.length c1,.slice p2 lb.length c2]) func134 I ntmps134 (bE I) ?_
 refine SC.sR (lA I (SL.nT (SC.sR (lM I (lU (eN uT144 I) (lW (mK encU 0 sty144 I I I oM oM) ?_))))))
 rintro _ _ _ ⟨b11,rfl,rfl,rfl⟩
 refine lA I (SL.nT (SC.sR (lA I (SL.nT (sQ (SC.sR (lM I (lU (eN uT144 I) (lM I (SL.nT (bK ?_)))))))))))
 refine oP (ι:=Nat) (fun i=>[(0,.slice p1 la.length c1),(1,.slice p2 lb.length c2),(5,.slice (some ⟨b11,0,none⟩) la.length la.length),(6,.int .u64 0),(13,vi la.length),(14,vi i)]) (fun _=>g) (fun i=>rowA encU 158 (.slice (some ⟨b11,0,none⟩) la.length la.length) (subO la (a - b) i) :: s) (fun i=>i ≤ la.length) (fun i=>la.length - i) 0
  sB rfl rfl (Nat.zero_le _) ?_
 intro i hi
 refine SC.sR (lU (lS I I) (SL.nT (sQ ?_)))
 refine iP I (fun hlt=>?_) (fun hlt=>?_)
 ·rcases hca with ⟨rfl,ha⟩ | ⟨rfl,ha⟩
  ·exact absurd hlt (by simp)
  obtain rfl : i = 0:=by simp at hi hlt; omega
  have hb1:=SlA.based hv Nat.zero_lt_one
  refine kP (tN (sQ (bK (SC.sR (lM I (lA I (SL.nT (SC.sR (lM I (lM I (lU (iA uT144 zT158 I I hb1 dC (by simp [slen])) ?_)))))))))))
  refine lK (eB iT158 I (SlA.rd hv) (j:=0) I I) (lM I (lU (SU.eq (v':=.int .u64 (a : Int)) (SU.subW I I) (congrArg (Value.int .u64) (by rw [u64n oM]; omega))) ?_))
  refine lA I (SL.nT (sQ (SC.sR (lM I (lM I (lU (eN uT144 I) (lU (lS I I) (SL.nT ?_))))))))
  refine iP I (fun hl=>?_) (fun hl=>?_)
  ·rcases hcb with ⟨rfl,hb⟩ | ⟨rfl,hb⟩
   ·exact absurd hl (by simp)
   have hb2:=SlA.based hu Nat.zero_lt_one
   have hs : a - b < 4294967296:=oM
   refine rG (lM I (lM I (lM I (lU (iA uT144 zT158 I I hb2 dC (by simp [slen])) ?_))))
   refine lK (eB iT158 I (SlA.rd hu) (j:=0) I I) (lU (SU.eq (v':=.int .u64 ((a - b : Nat) : Int)) (SU.subW I I) (congrArg (Value.int .u64) (by rw [u64n oM]; omega))) ?_)
   refine lA I (SL.nT (rG (lM I (lM I (lM I (lU (SU.eq (v':=.int .u64 ((a - b : Nat) : Int)) (SU.and I I) (congrArg (Value.int .u64) (by rw [mask32 _ oM,Nat.mod_eq_of_lt hs]))) ?_))))))
   refine lM I (lU (SU.eq (v':=.int .u64 0) (SU.shr I I dC) (congrArg (Value.int .u64) (shr_small _ _ dC dC hs))) (lU (iA uT144 zT158 I I I dC (by simp [slen])) ?_))
   refine SL.O2 (sT (e:=encU) (a:=((a - b : Nat) : Int)) (j:=0) 0 zT158 I I I (bE I) I) (lA I (nL (bN (tN (rG (lU (aD I I oM) (lM I (nL ?_))))))))
   exact gA 1 sB I I (lR _) Nat.zero_lt_one
  ·rcases hcb with ⟨rfl,hb⟩ | ⟨rfl,hb⟩
   rotate_left
   ·exact absurd hl (by simp)
   subst hb
   rw [Nat.sub_zero]
   refine kP (tN (rG (lM I (lM I (lM I (lU (SU.eq (v':=.int .u64 ((a : Nat) : Int)) (SU.and I I) (congrArg (Value.int .u64) (by rw [mask32 _ oM,Nat.mod_eq_of_lt h]))) ?_))))))
   refine lM I (lU (SU.eq (v':=.int .u64 0) (SU.shr I I dC) (congrArg (Value.int .u64) (shr_small _ _ dC dC h))) (lU (iA uT144 zT158 I I I dC (by simp [slen])) ?_))
   refine SL.O2 (sT (e:=encU) (a:=((a : Nat) : Int)) (j:=0) 0 zT158 I I I (bE I) I) (lA I (nL (bN (tN (rG (lU (aD I I oM) (lM I (nL ?_))))))))
   exact gA 1 sB I I (lR _) Nat.zero_lt_one
 ·obtain rfl : i = la.length:=oM
  have hlen : (subO la (a - b) la.length).length = la.length:=by
   unfold subO
   split
   ·simp
   ·simp; omega
  have hfin : trimZ (subO la (a - b) la.length) = limb (a - b):=by
   rcases hca with ⟨rfl,ha⟩ | ⟨rfl,ha⟩
   ·subst ha
    rw [Nat.zero_sub]; rfl
   ·exact trimZ_one _
  refine xI (tX (tX (bX (tN (sQ (fS fun g1 hle1 hs1=>?_))))))
  refine rG (lM I (lW (cL call154 I (norm_spec E g1 _ _ (subO la (a - b) la.length) (by unfold SlA; rw [hlen]; rw [hlen] at hs1; exact hs1) oM)) ?_))
  rintro v42 _ _ ⟨rfl,rfl,hm⟩
  refine lA I (SL.nT (rE ?_))
  rw [hfin] at hm
  exact ST.ret1 (.inl I) results134 I ⟨I,hle1,hm⟩
def mulO (la lb : List Int) (n : Nat) (i : Nat) : List Int:=if i = 0 then List.replicate (la.length + lb.length) 0 else if lb = [] then [0] else [(n : Int),0]
def mulI (lb : List Int) (n : Nat) (i : Nat) : List Int:=if i = 0 then List.replicate (1 + lb.length) 0 else [(n : Int),0]
theorem natMul_spec (E : World) (g : PH) (s : Own) (v u : Value) (a b : Nat) (hv : SlA encU g v (limb a)) (hu : SlA encU g u (limb b)) (h : a * b < 4294967296) :
  Ctr Tryz.prog E 135 #[v,u] g s (fun r g' s'=>s = s' ∧ Le g g' ∧ SlA encU g' r (limb (a * b))):=by
 obtain ⟨p1,c1,rfl⟩:=SlA.form hv
 obtain ⟨p2,c2,rfl⟩:=SlA.form hu
 have hl0 : ∀ k,(limb k).length ≤ 1:=fun k=>by rcases limb_cases k with ⟨h,-⟩ | ⟨h,-⟩ <;> rw [h] <;> simp
 have hl1:=hl0 a
 have hl2:=hl0 b
 have hca:=limb_cases a
 have hcb:=limb_cases b
 obtain ⟨n,hn⟩ : ∃ n,n = a * b:=⟨_,rfl⟩
 rw [← hn] at h ⊢
 generalize limb a = la at *
 generalize limb b = lb at *
 refine Ctr.of (args:=[.slice p1 la.length c1,.slice p2 lb.length c2]) func135 I ntmps135 (bE I) ?_
 refine SC.sR (lA I (SL.nT (SC.sR (lM I (lU (eN uT144 I) (lM I (lU (eN uT144 I) (lU (SU.eq (v':=vi ((la.length + lb.length : Nat))) (aD I I oM) (congrArg vi oM)) (lW (mK encU 0 sty144 I I I oM oM) ?_)))))))))
 rintro _ _ _ ⟨b17,rfl,rfl,rfl⟩
 refine lA I (SL.nT (sQ (SC.sR (lM I (lU (eN uT144 I) (lM I (SL.nT (bK ?_))))))))
 refine oP (ι:=Nat) (fun i=>[(0,.slice p1 la.length c1),(1,.slice p2 lb.length c2),(5,.slice (some ⟨b17,0,none⟩) (la.length + lb.length) (la.length + lb.length)),(18,.slice p1 la.length c1),(19,vi la.length),(20,vi i)]) (fun _=>g) (fun i=>rowA encU 158 (.slice (some ⟨b17,0,none⟩) (la.length + lb.length) (la.length + lb.length)) (mulO la lb n i) :: s) (fun i=>i ≤ la.length) (fun i=>la.length - i) 0
  sB rfl rfl (Nat.zero_le _) ?_
 intro i hi
 refine SC.sR (lU (lS I I) (SL.nT (sQ ?_)))
 refine iP I (fun hlt=>?_) (fun hlt=>?_)
 ·rcases hca with ⟨rfl,ha⟩ | ⟨rfl,ha⟩
  ·exact absurd hlt (by simp)
  obtain rfl : i = 0:=by simp at hi hlt; omega
  have hb1:=SlA.based hv Nat.zero_lt_one
  refine kP (tN (sQ (bK (SC.sR (lM I (lU (iA uT144 zT158 I I hb1 dC (by simp [slen])) ?_))))))
  refine lK (eB iT158 I (SlA.rd hv) (j:=0) I I) (lA I (lA I (SL.nT (SC.sR (lA I (SL.nT (sQ (SC.sR (lM I (lU (eN uT144 I) (lM I (SL.nT (bK ?_)))))))))))))
  refine oP (ι:=Nat) (fun i=>[(0,.slice p1 1 c1),(1,.slice p2 lb.length c2),(5,.slice (some ⟨b17,0,none⟩) (1 + lb.length) (1 + lb.length)),(18,.slice p1 1 c1),(19,vi 1),(20,vi 0),(6,vi 0),(7,.int .u64 (a : Int)),(8,.int .u64 0),(25,.slice p2 lb.length c2),(26,vi lb.length),(27,vi i)]) (fun _=>g) (fun i=>rowA encU 158 (.slice (some ⟨b17,0,none⟩) (1 + lb.length) (1 + lb.length)) (mulI lb n i) :: s) (fun i=>i ≤ lb.length) (fun i=>lb.length - i) 0
   sB rfl rfl (Nat.zero_le _) ?_
  intro k hk
  refine SC.sR (lU (lS I I) (SL.nT (sQ ?_)))
  refine iP I (fun hkl=>?_) (fun hkl=>?_)
  ·rcases hcb with ⟨rfl,hb⟩ | ⟨rfl,hb⟩
   ·exact absurd hkl (by simp)
   obtain rfl : k = 0:=by simp at hk hkl; omega
   have hb2:=SlA.based hu Nat.zero_lt_one
   refine kP (tN (sQ (bK (SC.sR (lM I (lU (iA uT144 zT158 I I hb2 dC (by simp [slen])) ?_))))))
   refine lK (eB iT158 I (SlA.rd hu) (j:=0) I I) (lA I (lA I (SL.nT (SC.sR (lM I (lM I (lM I (lU (aD I I oM) (lU (iA uT144 zT158 I I I dC (by simp [slen])) ?_)))))))))
   refine lK (eB iT158 I (Rd.rowA 0 I) (j:=0) I I) (lM I (lM I (lU (SU.eq (v':=.int .u64 (n : Int)) (SU.mulW I I) (congrArg (Value.int .u64) (by rw [← Int.natCast_mul,← hn,u64n oM]))) ?_)))
   refine lU (SU.eq (v':=.int .u64 (n : Int)) (SU.addW I I) (congrArg (Value.int .u64) (by rw [u64n oM]; omega))) ?_
   refine lM I (lU (SU.eq (v':=.int .u64 (n : Int)) (SU.addW I I) (congrArg (Value.int .u64) (by rw [u64n oM]; omega))) ?_)
   refine lA I (SL.nT (rG (lM I (lM I (lM I (lU (aD I I oM) (lM I (lU (SU.eq (v':=.int .u64 (n : Int)) (SU.and I I) (congrArg (Value.int .u64) (by rw [mask32 _ oM,Nat.mod_eq_of_lt h]))) ?_))))))))
   refine lM I (lU (SU.eq (v':=.int .u64 0) (SU.shr I I dC) (congrArg (Value.int .u64) (shr_small _ _ dC dC h))) (lU (iA uT144 zT158 I I I dC (by simp [slen])) ?_))
   refine SL.O2 (sT (e:=encU) (a:=(n : Int)) (j:=0) 0 zT158 I I I (bE I) I) (lA I (nL (bN (tN (rG (lU (aD I I oM) (lM I (nL ?_))))))))
   exact gA 1 sB I I (lR _) Nat.zero_lt_one
  ·obtain rfl : k = lb.length:=oM
   have hlen : (mulI lb n lb.length).length = 1 + lb.length:=by
    unfold mulI
    split
    ·simp
    ·simp; omega
   have hset : (mulI lb n lb.length).set lb.length 0 = mulO [(a : Int)] lb n 1:=by
    rcases hcb with ⟨rfl,hb⟩ | ⟨rfl,hb⟩
    ·rfl
    ·rfl
   refine xI (tX (tX (bX (tN (rG (lM I (lM I (lM I (lU (eN uT144 I) (lU (SU.eq (v':=vi (lb.length : Nat)) (aD I I oM) (congrArg vi oM)) (lM I (lU (iA uT144 zT158 I I I oM sL) (SL.O2 (sT (e:=encU) (a:=0) (j:=lb.length) 0 zT158 I I I oM I) (nL (bN (tN (rG (lU (aD I I oM) (lM I (nL ?_))))))))))))))))))))
   exact gA 1 sB rfl (by rw [← hset]; rfl) (lR _) Nat.zero_lt_one
 ·obtain rfl : i = la.length:=oM
  have hlen : (mulO la lb n la.length).length = la.length + lb.length:=by
   rcases hca with ⟨rfl,ha⟩ | ⟨rfl,ha⟩ <;> rcases hcb with ⟨rfl,hb⟩ | ⟨rfl,hb⟩ <;> rfl
  have hfin : trimZ (mulO la lb n la.length) = limb n:=by
   rcases hca with ⟨rfl,ha⟩ | ⟨rfl,ha⟩
   ·subst ha
    rw [Nat.zero_mul] at hn
    subst hn
    rcases hcb with ⟨rfl,hb⟩ | ⟨rfl,hb⟩ <;> rfl
   ·rcases hcb with ⟨rfl,hb⟩ | ⟨rfl,hb⟩
    ·subst hb
     rw [Nat.mul_zero] at hn
     subst hn
     rfl
    ·exact trimZ_one0 _
  refine xI (tX (tX (bX (tN (sQ (fS fun g1 hle1 hs1=>?_))))))
  refine rG (lM I (lW (cL call154 I (norm_spec E g1 _ _ (mulO la lb n la.length) (by unfold SlA; rw [hlen]; rw [hlen] at hs1; exact hs1) oM)) ?_))
  rintro v63 _ _ ⟨rfl,rfl,hm⟩
  refine lA I (SL.nT (rE ?_))
  rw [hfin] at hm
  exact ST.ret1 (.inl I) results135 I ⟨I,hle1,hm⟩
theorem wordsT_limb {k : Nat} (h : k < 4294967296) : wordsT (limb k) = magB k:=by
 have h1:=words_bytes (k : Int) (by rw [Int.natAbs_natCast]; omega)
 rw [Int.natAbs_natCast] at h1
 rw [← h1]
 have h2 : words (k : Int) = [(k : Int),0]:=by
  unfold words
  rw [Int.natAbs_natCast,Nat.mod_eq_of_lt h,Nat.div_eq_of_lt h]
  rfl
 have h3 : trimZ (limb k) = limb k:=by
  rcases limb_cases k with ⟨e,h0⟩ | ⟨e,h0⟩
  ·rw [e]; rfl
  ·rw [← trimZ_one k,trimZ_one k,e,trimZ_one k,e]
 unfold wordsT
 rw [h3,h2,trimZ_one0]
theorem magB_nil' {k : Nat} (h : k < 18446744073709551616) : magB k = [] ↔ k = 0:=by
 refine ⟨fun e=>?_,fun e=>by subst e; rfl⟩
 have:=beN_magB h
 rw [e] at this
 exact this.symm
theorem wideV_eq {neg : Bool} {k : Nat} {z : Int} (hk : k = z.natAbs) (h : k < 4294967296) (hn : k ≠ 0 → neg = decide (z < 0)) : wideV neg (wordsT (limb k)) = wideN z:=by
 rw [wordsT_limb h]
 subst hk
 show Value.agg #[vb (neg && decide (magB z.natAbs ≠ [])),txt (magB z.natAbs)] = Value.agg #[vb (decide (z < 0) && decide (magB z.natAbs ≠ [])),txt (magB z.natAbs)]
 by_cases h0 : z.natAbs = 0
 ·have : magB z.natAbs = []:=(magB_nil' oM).2 h0
  rw [this]
  simp
 ·rw [hn h0]
theorem wideN_sign {z : Int} (h : z.natAbs < 4294967296) : wideN z = .agg #[vb (decide (z < 0)),txt (magB z.natAbs)]:=by
 show Value.agg #[vb (decide (z < 0) && decide (magB z.natAbs ≠ [])),txt (magB z.natAbs)] = _
 by_cases h0 : z.natAbs = 0
 ·have : ¬ z < 0:=oM
  simp [this]
 ·have : magB z.natAbs ≠ []:=fun e=>h0 ((magB_nil' oM).1 e)
  simp [this]
theorem SU.neqB {P : Program} {N : Nat} {f : Fr} {dst : Option Tmp} {ty : TypeId} {pos : String} {af : Array Edge} {gd : Option (Nat × Bool)} {x y : Operand} {T U : TypeId} {a b : Bool} (hT : P.underlying T = some .bool) (hx : ev f x = some (vb a)) (hy : ev f y = some (vb b)) :
  SU P N ⟨dst,.binOp .neq T x y U,ty,pos,af,gd⟩ f (.bool (!(a == b))):=fun ac w ha=>by
 have hg : (eqGuard .neq T x y (.bool a) (.bool b)).run P w = .ok () w:=by simp [eqGuard]
 have hb:=run_neq_bool (P:=P) w T a b hT
 simp only [execOp,ha.ev hx,ha.ev hy,Sem.run_bind,hg,Result.andThen_ok,hb]
 rfl
theorem SU.eqlB' {P : Program} {N : Nat} {f : Fr} {dst : Option Tmp} {ty : TypeId} {pos : String} {af : Array Edge} {gd : Option (Nat × Bool)} {x y : Operand} {T U : TypeId} {a b : Bool} (hT : P.underlying T = some .bool) (hx : ev f x = some (vb a)) (hy : ev f y = some (vb b)) :
  SU P N ⟨dst,.binOp .eql T x y U,ty,pos,af,gd⟩ f (.bool (a == b)):=fun ac w ha=>by
 have hg : (eqGuard .eql T x y (.bool a) (.bool b)).run P w = .ok () w:=by simp [eqGuard]
 have hb:=run_eql_bool (P:=P) w T a b hT
 simp only [execOp,ha.ev hx,ha.ev hy,Sem.run_bind,hg,Result.andThen_ok,hb]
 rfl
theorem wideMul_spec (E : World) (g : PH) (s : Own) (n m : Int) (hn : n.natAbs < 4294967296) (hm : m.natAbs < 4294967296) (h : (n * m).natAbs < 4294967296) :
  Ctr Tryz.prog E 77 #[wideN n,wideN m] g s (fun r g' s'=>r = wideN (n * m) ∧ s = s' ∧ Le g g'):=by
 have hfin : wideV (decide (n < 0) != decide (m < 0)) (wordsT (limb (n.natAbs * m.natAbs))) = wideN (n * m):=by
  refine wideV_eq (Int.natAbs_mul n m).symm (by rwa [Int.natAbs_mul] at h) fun h0=>?_
  have h1 : n ≠ 0:=by rintro rfl; simp at h0
  have h2 : m ≠ 0:=by rintro rfl; simp at h0
  rcases Int.lt_or_gt_of_ne h1 with a | a <;> rcases Int.lt_or_gt_of_ne h2 with b | b
  ·have:=Int.mul_pos_of_neg_of_neg a b
   rw [decide_eq_true a,decide_eq_true b,decide_eq_false oM]; rfl
  ·have:=Int.mul_neg_of_neg_of_pos a b
   rw [decide_eq_true a,decide_eq_false oM,decide_eq_true this]; rfl
  ·have:=Int.mul_neg_of_pos_of_neg a b
   rw [decide_eq_false oM,decide_eq_true b,decide_eq_true this]; rfl
  ·have:=Int.mul_pos a b
   rw [decide_eq_false oM,decide_eq_false oM,decide_eq_false oM]; rfl
 rw [Int.natAbs_mul] at h
 rw [← hfin,wideN_sign hn,wideN_sign hm]
 have e1:=beN_magB (m:=n.natAbs) oM
 have e2:=beN_magB (m:=m.natAbs) oM
 have l1:=magB_len hn
 have l2:=magB_len hm
 generalize magB n.natAbs = B at *
 generalize magB m.natAbs = C at *
 generalize decide (n < 0) = x at *
 generalize decide (m < 0) = y at *
 rw [← e1,← e2] at h ⊢
 clear e1 e2 hfin hn hm n m
 rw [show (x != y) = !(x == y) from rfl]
 refine Ctr.of (args:=[.agg #[vb x,txt B],.agg #[vb y,txt C]]) func77 I ntmps77 (bE I) ?_
 refine SC.sR (SL.bx (bO I) fun b2=>?_)
 refine SL.bx (bO I) fun b3=>?_
 refine SL.bx (aL zeroValue94) fun b4=>?_
 refine SL.nT (sQ ?_)
 refine dW [11] [(0,1),(2,1),(5,2),(6,1),(7,2),(8,1),(9,2),(1,0),(3,0),(4,0),(10,0),(11,0)] Tryz.mixed (by kernel_rfl) ?_
 refine pK rfl (qV 2 iT94 zT94 rfl rfl rfl) (pK rfl (qV 1 iT94 zT94 rfl rfl rfl) (pU rfl (fA uT94 rfl zT4 rfl) (pK rfl (qL isAgg4 rfl (cO 2 rfl rfl)) (pU rfl (fA uT94 rfl zT4 rfl) (pK rfl (qL isAgg4 rfl (cO 1 rfl rfl)) (pU rfl (SU.neqB uT4 rfl rfl) (SP.o rfl (cL call130 rfl (abs_spec E _ _ x B l1)) dC (.inr (by rintro v6 g1 _ ⟨rfl,hle1,hs1⟩; exact ⟨by assumption,(by exact .refl _)⟩)) ?_)))))))
 rintro v6 g1 _ ⟨rfl,hle1,hs1⟩
 refine SP.o rfl (cL call130 rfl (abs_spec E _ _ y C l2)) dC (.inr (by rintro v8 g2 _ ⟨rfl,hle2,hs2⟩; exact ⟨by exact Le.trans (by assumption) (by assumption),(by exact .refl _)⟩)) ?_
 rintro v8 g2 _ ⟨rfl,hle2,hs2⟩
 have h12:=hle1.trans hle2
 refine SP.o rfl (cL call135 rfl (natMul_spec E _ _ v6 v8 (beN B) (beN C) (SlA.mono hs1 hle2) hs2 h)) dC (.inr (by rintro v9 g3 _ ⟨rfl,hle3,hs3⟩; exact ⟨by exact Le.trans (by assumption) (by assumption),(by exact .refl _)⟩)) ?_
 rintro v9 g3 _ ⟨rfl,hle3,hs3⟩
 have h13:=h12.trans hle3
 refine SP.o rfl (cL call132 rfl (natWide_spec E _ _ v9 _ _ hs3 (by rcases limb_cases (beN B * beN C) with ⟨e,-⟩ | ⟨e,-⟩ <;> rw [e] <;> simp))) dC (.inr (by rintro _ g4 _ ⟨rfl,rfl,hle4⟩; exact ⟨by exact Le.trans (by assumption) (by assumption),(by exact .refl _)⟩)) ?_
 rintro _ g4 _ ⟨rfl,rfl,hle4⟩
 refine SP.on I (sK 0 zT94 I I I I I sB) (.inl dC) ?_
 rintro _ _ _ ⟨rfl,rfl⟩
 refine pN (tN (rE ?_))
 exact ST.retCD 0 s (.inl I) results77 I iT94 zT94 I I (.cons _ (.cons _ (.cons _ (.refl _)))) ⟨I,I,hle1.trans (hle2.trans (hle3.trans hle4))⟩
theorem limb_len (k : Nat) : (limb k).length < 1099511627776:=by rcases limb_cases k with ⟨e,-⟩ | ⟨e,-⟩ <;> rw [e] <;> simp
def addV (x : Bool) (b : Nat) (y : Bool) (c : Nat) : Value:=if (x == y) = true then wideV x (wordsT (limb (b + c))) else if b < c then wideV y (wordsT (limb (c - b))) else wideV x (wordsT (limb (b - c)))
theorem cmpN_neg (b c : Nat) : cmpN b c < 0 ↔ b < c:=by
 unfold cmpN
 split
 ·simp; omega
 ·split <;> simp <;> omega
theorem wideAdd_raw (E : World) (g : PH) (s : Own) (x y : Bool) (B C : List UInt8) (l1 : B.length ≤ 4) (l2 : C.length ≤ 4) (h : beN B + beN C < 4294967296) :
  Ctr Tryz.prog E 76 #[.agg #[vb x,txt B],.agg #[vb y,txt C]] g s (fun r g' s'=>r = addV x (beN B) y (beN C) ∧ s = s' ∧ Le g g'):=by
 obtain ⟨V,hV⟩ : ∃ V,V = addV x (beN B) y (beN C):=⟨_,rfl⟩
 rw [← hV]
 unfold addV at hV
 refine Ctr.of (args:=[.agg #[vb x,txt B],.agg #[vb y,txt C]]) func76 I ntmps76 (bE I) ?_
 refine SC.sR (SL.bx (bO I) fun b2=>?_)
 refine SL.bx (bO I) fun b3=>?_
 refine SL.bx (aL zeroValue94) fun b4=>?_
 refine SL.nT (sQ ?_)
 refine dW [] [(0,1),(2,1),(1,0),(3,0),(4,2),(5,2)] Tryz.mixed (by kernel_rfl) ?_
 refine pK rfl (qV 2 iT94 zT94 rfl rfl rfl) (pK rfl (qV 1 iT94 zT94 rfl rfl rfl) (SP.o rfl (cL call130 rfl (abs_spec E _ _ x B l1)) dC (.inr (by rintro v6 g1 _ ⟨rfl,hle1,hs1⟩; exact ⟨by assumption,(by exact .refl _)⟩)) ?_))
 rintro v6 g1 _ ⟨rfl,hle1,hs1⟩
 refine SP.o rfl (cL call130 rfl (abs_spec E _ _ y C l2)) dC (.inr (by rintro v8 g2 _ ⟨rfl,hle2,hs2⟩; exact ⟨by exact Le.trans (by assumption) (by assumption),(by exact .refl _)⟩)) ?_
 rintro v8 g2 _ ⟨rfl,hle2,hs2⟩
 have h12:=hle1.trans hle2
 have hs1:=SlA.mono hs1 hle2
 refine pU I (aS I) (pU I (aS I) (pN (tN (sQ (bK (SC.sR (lU (fA uT94 I zT4 I) (lK (qL isAgg4 I (cO 2 I I)) (lU (fA uT94 I zT4 I) (lK (qL isAgg4 I (cO 1 I I)) (lU (SU.eqlB' uT4 I I) (lA I (SL.nT ?_)))))))))))))
 refine iQ I (fun hxy=>?_) (fun hxy=>?_)
 ·rw [if_pos hxy] at hV
  subst hV
  refine sQ ?_
  refine dW [6] [(0,2),(1,2),(3,2),(4,1),(2,0),(5,0),(6,0)] Tryz.mixed (by kernel_rfl) ?_
  refine pU rfl (mV rfl) (pU rfl (mV rfl) (pU rfl (fA uT94 rfl zT4 rfl) (pK rfl (qL isAgg4 rfl (cO 2 rfl rfl)) (SP.o rfl (cL call131 rfl (natAdd_spec E _ _ v6 v8 (beN B) (beN C) hs1 hs2 h)) dC (.inr (by rintro v9 g3 _ ⟨rfl,hle3,hs3⟩; exact ⟨by assumption,(by exact .refl _)⟩)) ?_))))
  rintro v9 g3 _ ⟨rfl,hle3,hs3⟩
  have h13:=h12.trans hle3
  refine SP.o rfl (cL call132 rfl (natWide_spec E _ _ v9 _ _ hs3 (limb_len _))) dC (.inr (by rintro _ g4 _ ⟨rfl,rfl,hle4⟩; exact ⟨by exact Le.trans (by assumption) (by assumption),(by exact .refl _)⟩)) ?_
  rintro _ g4 _ ⟨rfl,rfl,hle4⟩
  have h14:=h13.trans hle4
  refine SP.on I (sK 0 zT94 I I I I I sB) (.inl dC) ?_
  rintro _ _ _ ⟨rfl,rfl⟩
  refine pN (tN (rE (bR (tR ?_))))
  exact ST.retCD 0 s (.inl I) results76 I iT94 zT94 I I (.cons _ (.cons _ (.cons _ (.refl _)))) ⟨I,I,h14⟩
 ·rw [if_neg (by rw [hxy]; decide)] at hV
  refine SC.sR (lM I (lM I (lW (cL call133 I (natCmp_spec E _ _ v6 v8 (beN B) (beN C) hs1 hs2)) ?_)))
  rintro _ _ _ ⟨rfl,rfl,rfl⟩
  refine lU (lS I I) (lA I (SL.nT ?_))
  refine iP I (fun hc=>?_) (fun hc=>?_)
  ·rw [cmpN_neg] at hc
   rw [if_pos hc] at hV
   subst hV
   refine sQ ?_
   refine dW [6] [(0,2),(1,2),(3,2),(4,1),(2,0),(5,0),(6,0)] Tryz.mixed (by kernel_rfl) ?_
   refine pU rfl (mV rfl) (pU rfl (mV rfl) (pU rfl (fA uT94 rfl zT4 rfl) (pK rfl (qL isAgg4 rfl (cO 1 rfl rfl)) (SP.o rfl (cL call134 rfl (natSub_spec E _ _ v8 v6 (beN C) (beN B) hs2 hs1 oM oM)) dC (.inr (by rintro v9 g3 _ ⟨rfl,hle3,hs3⟩; exact ⟨by assumption,(by exact .refl _)⟩)) ?_))))
   rintro v9 g3 _ ⟨rfl,hle3,hs3⟩
   have h13:=h12.trans hle3
   refine SP.o rfl (cL call132 rfl (natWide_spec E _ _ v9 _ _ hs3 (limb_len _))) dC (.inr (by rintro _ g4 _ ⟨rfl,rfl,hle4⟩; exact ⟨by exact Le.trans (by assumption) (by assumption),(by exact .refl _)⟩)) ?_
   rintro _ g4 _ ⟨rfl,rfl,hle4⟩
   have h14:=h13.trans hle4
   refine SP.on I (sK 0 zT94 I I I I I sB) (.inl dC) ?_
   rintro _ _ _ ⟨rfl,rfl⟩
   refine pN (tN (rE (bR (tR ?_))))
   exact ST.retCD 0 s (.inl I) results76 I iT94 zT94 I I (.cons _ (.cons _ (.cons _ (.refl _)))) ⟨I,I,h14⟩
  ·rw [cmpN_neg] at hc
   rw [if_neg hc] at hV
   subst hV
   refine kP (bN (tN (sQ ?_)))
   refine dW [6] [(0,2),(1,2),(3,2),(4,1),(2,0),(5,0),(6,0)] Tryz.mixed (by kernel_rfl) ?_
   refine pU rfl (mV rfl) (pU rfl (mV rfl) (pU rfl (fA uT94 rfl zT4 rfl) (pK rfl (qL isAgg4 rfl (cO 2 rfl rfl)) (SP.o rfl (cL call134 rfl (natSub_spec E _ _ v6 v8 (beN B) (beN C) hs1 hs2 oM oM)) dC (.inr (by rintro v9 g3 _ ⟨rfl,hle3,hs3⟩; exact ⟨by assumption,(by exact .refl _)⟩)) ?_))))
   rintro v9 g3 _ ⟨rfl,hle3,hs3⟩
   have h13:=h12.trans hle3
   refine SP.o rfl (cL call132 rfl (natWide_spec E _ _ v9 _ _ hs3 (limb_len _))) dC (.inr (by rintro _ g4 _ ⟨rfl,rfl,hle4⟩; exact ⟨by exact Le.trans (by assumption) (by assumption),(by exact .refl _)⟩)) ?_
   rintro _ g4 _ ⟨rfl,rfl,hle4⟩
   have h14:=h13.trans hle4
   refine SP.on I (sK 0 zT94 I I I I I sB) (.inl dC) ?_
   rintro _ _ _ ⟨rfl,rfl⟩
   refine pN (tN (rE ?_))
   exact ST.retCD 0 s (.inl I) results76 I iT94 zT94 I I (.cons _ (.cons _ (.cons _ (.refl _)))) ⟨I,I,h14⟩
theorem addV_eq {n m : Int} (h : n.natAbs + m.natAbs < 4294967296) : addV (decide (n < 0)) n.natAbs (decide (m < 0)) m.natAbs = wideN (n + m):=by
 unfold addV
 split
 ·rename_i e
  have e:=eq_of_beq e
  have e' : (n < 0 ↔ m < 0):=by simpa [decide_eq_decide] using e
  refine wideV_eq oM h fun h0=>?_
  rw [decide_eq_decide]
  omega
 ·rename_i e
  have e' : ¬ (n < 0 ↔ m < 0):=by simpa [decide_eq_decide] using e
  split
  ·refine wideV_eq oM oM fun h0=>?_
   rw [decide_eq_decide]
   omega
  ·refine wideV_eq oM oM fun h0=>?_
   rw [decide_eq_decide]
   omega
theorem wideAdd_spec (E : World) (g : PH) (s : Own) (n m : Int) (h : n.natAbs + m.natAbs < 4294967296) :
  Ctr Tryz.prog E 76 #[wideN n,wideN m] g s (fun r g' s'=>r = wideN (n + m) ∧ s = s' ∧ Le g g'):=by
 rw [← addV_eq h,wideN_sign oM,wideN_sign oM]
 have e1:=beN_magB (m:=n.natAbs) oM
 have e2:=beN_magB (m:=m.natAbs) oM
 have:=wideAdd_raw E g s (decide (n < 0)) (decide (m < 0)) (magB n.natAbs) (magB m.natAbs) (magB_len oM) (magB_len oM) (by rw [e1,e2]; exact h)
 rwa [e1,e2] at this
theorem canP (E : World) (g : PH) (s : Own) (p : Bool × List UInt8) (hc : CanW p) : CallV Tryz.prog E (.func (.func 153) #[] #[]) [.agg (encW.enc p).toArray] g s (fun x g' s'=>x = vb false ∧ g = g' ∧ s = s'):=by
 refine CallV.mk (cap:=[]) call153 ?_
 obtain ⟨b,mg⟩:=p
 cases mg with
 | nil =>
  have hb0 : b = false:=hc.1 rfl
  subst hb0
  refine Ctr.of (args:=[.agg #[vb false,txt []]]) func153 I ntmps153 (bE I) ?_
  refine SC.sR (SL.bx (bO I) fun b1=>?_)
  refine lA I (SL.nT (SC.sR (lU (fA uT94 I zT9 I) (lK (qL isAgg9 I (cO 0 I I)) (lU (SU.eq (v':=vb true) (SU.eqlT I I) I) (lM I (lY I I I (fA uT94 I zT4 I) (SL.gq (gT I I I dC) (qL isAgg4 I (cO 0 I I)) dC (lU (pT I I) (lM I (lY I I I (fA uT94 I zT9 I) (SL.gq (gT I I I dC) (qL isAgg9 I (cO 0 I I)) dC (lY I I I (SU.eq (v':=vb false) (SU.neqT I I) I) (lY I I I (mV I) (lZ I I I (lZ I I I (lZ I I I (lZ I I I (lY I I I (pF I I) (lU (pF I I) (lA I (SL.nT (rE (dR (s':=s) (.cons _ (.refl _)) ?_))))))))))))))))))))))))
  exact ST.ret1 (.inl I) results153 I ⟨I,I,I⟩
 | cons x r =>
  have hx0 : x ≠ 0:=hc.2 x r rfl
  have hxi : ¬ (x.toNat : Int) = 0:=fun e=>hx0 (UInt8.toNat.inj (by simpa using e))
  refine Ctr.of (args:=[.agg #[vb b,txt (x :: r)]]) func153 I ntmps153 (bE I) ?_
  refine SC.sR (SL.bx (bO I) fun b1=>?_)
  refine lA I (SL.nT (SC.sR (lU (fA uT94 I zT9 I) (lK (qL isAgg9 I (cO 0 I I)) (lU (SU.eq (v':=vb false) (SU.eqlT I I) I) (lM I (lZ I I I (lZ I I I (lU (pF I I) (lM I (lY I I I (fA uT94 I zT9 I) (SL.gq (gT I I I dC) (qL isAgg9 I (cO 0 I I)) dC (lY I I I (SU.eq (v':=vb true) (SU.neqT I I) I) (lY I I I (mV I) (lY I I I (fA uT94 I zT9 I) (SL.gq (gT I I I dC) (qL isAgg9 I (cO 0 I I)) dC (lY I I I (SU.idxT uT9 I) (lY I I I (SU.eq (v':=vb false) (eQ I I) (congrArg vb (decide_eq_false hxi))) (lY I I I (pT I I) (lU (pF I I) (lA I (SL.nT (rE (dR (s':=s) (.cons _ (.refl _)) ?_))))))))))))))))))))))))
  exact ST.ret1 (.inl I) results153 I ⟨I,I,I⟩
theorem indexFuncW (E : World) (g : PH) (s : Own) (v : Value) (l : List (Bool × List UInt8)) (hv : SlA encW g v l) (hl : l.length < 1099511627776) (hc : ∀ p ∈ l,CanW p) :
  Ctr Tryz.prog E 182 #[v,.func (.func 153) #[] #[]] g s (fun r g' s'=>r = vi (-1) ∧ g = g' ∧ s = s'):=by
 obtain ⟨p,c,rfl⟩:=SlA.form hv
 refine Ctr.of (args:=[.slice p l.length c,.func (.func 153) #[] #[]]) func182 I ntmps182 (bE I) ?_
 refine SC.sR (lA I (SL.nT (sQ (SC.sR (lM I (lU (eN uT53 I) (lM I (SL.nT (bK ?_)))))))))
 refine oP (ι:=Nat) (fun k=>[(0,.slice p l.length c),(1,.func (.func 153) #[] #[]),(7,vi l.length),(8,vi k)]) (fun _=>g) (fun _=>s) (fun k=>k ≤ l.length) (fun k=>l.length - k) 0
  sB rfl rfl (Nat.zero_le _) ?_
 rintro k hk
 refine SC.sR (lU (lS I I) (SL.nT (sQ ?_)))
 refine iP I (fun hlt=>?_) (fun hlt=>?_)
 ·have hkl : k < l.length:=oM
  have hb1:=SlA.based hv oM
  refine kP (tN (sQ (bK (SC.sR (lM I (lA I (SL.nT (SC.sR (lM I (lM I (lM I (lU (iA uT53 zT94 I I hb1 oM sL) ?_))))))))))))
  refine SL.q (eA iT94 zT94 I (SlA.rd hv) (gE hkl)) dC ?_
  refine lW (SO.callV I I (canP E g _ l[k] (hc _ (gM hkl)))) ?_
  rintro _ _ _ ⟨rfl,rfl,rfl⟩
  refine SL.nT (cF I (kP (bN (tN (rG (lU (aD I I oM) (lM I (nL ?_))))))))
  exact gA (k + 1) sB I I oM oM
 ·refine xI (tX (tX (bX (tN (SC.sR (lA I (SL.nT (rE ?_))))))))
  exact ST.ret1 (.inl I) results182 I ⟨I,I,I⟩
theorem containsFuncW (E : World) (g : PH) (s : Own) (v : Value) (l : List (Bool × List UInt8)) (hv : SlA encW g v l) (hl : l.length < 1099511627776) (hc : ∀ p ∈ l,CanW p) :
  Ctr Tryz.prog E 152 #[v,.func (.func 153) #[] #[]] g s (fun r g' s'=>r = vb false ∧ g = g' ∧ s = s'):=by
 refine Ctr.of (args:=[v,.func (.func 153) #[] #[]]) func152 I ntmps152 (bE I) ?_
 refine SC.sR (lA I (SL.nT (SC.sR (lM I (lM I (lW (cL call182 I (indexFuncW E g _ v l hv hl hc)) ?_))))))
 rintro _ _ _ ⟨rfl,rfl,rfl⟩
 refine lU (gQ I I) (lA I (SL.nT (rE ?_)))
 exact ST.ret1 (.inl I) results152 I ⟨I,I,I⟩
theorem progCanonical_spec (E : World) (g : PH) (s : Own) (v : Value) (l : List (Bool × List UInt8)) (hv : SlA encW g v l) (hl : l.length < 1099511627776) (hc : ∀ p ∈ l,CanW p) :
  Ctr Tryz.prog E 128 #[v] g s (fun r g' s'=>r = vb true ∧ g = g' ∧ s = s'):=by
 refine Ctr.of (args:=[v]) func128 I ntmps128 (bE I) ?_
 refine SC.sR (lA I (SL.nT (SC.sR (lM I (lW (cL call152 I (containsFuncW E g _ v l hv hl hc)) ?_)))))
 rintro _ _ _ ⟨rfl,rfl,rfl⟩
 refine lU (SU.not I) (lA I (SL.nT (rE ?_)))
 exact ST.ret1 (.inl I) results128 I ⟨I,I,I⟩
theorem progRight_spec (E : World) (g : PH) (s : Own) (v : Value) (m : Nat × Nat × List Int) (hv : MatR g v m) (hm : MatOk m) :
  Ctr Tryz.prog E 73 #[v] g s (fun x g' s'=>x = vb true ∧ g = g' ∧ s = s'):=by
 obtain ⟨R,C,l⟩:=m
 obtain ⟨p,c,rfl,hs⟩:=hv
 obtain ⟨h1,h2,h3⟩:=hm
 dsimp only at h1 h2 h3 hs ⊢
 have hml:=mul_le h1 h2
 refine Ctr.of (args:=[.agg #[vi R,vi C,.slice p l.length c]]) func73 I ntmps73 (bE I) ?_
 refine SC.sR (SL.bx (bO I) fun b1=>?_)
 refine lA I (SL.nT (SC.sR (lU (fA uT55 I zT3 I) (lK (qL iT3 I (cO 0 I I)) (lU (fA uT55 I zT3 I) (lK (qL iT3 I (cO 0 I I)) (lW (cL call81 I (fits_spec E g _ R C h1 h2)) ?_)))))))
 rintro _ _ _ ⟨rfl,rfl,rfl⟩
 refine lM I (lY I I I (fA uT55 I sizeOf53 I) (SL.gq (gT I I I dC) (qL isAgg53 I (cO 0 I I)) dC (lY I I I (eN uT53 I) (lY I I I (fA uT55 I zT3 I) (SL.gq (gT I I I dC) (qL iT3 I (cO 0 I I)) dC (lY I I I (fA uT55 I zT3 I) (SL.gq (gT I I I dC) (qL iT3 I (cO 0 I I)) dC (lY I I I (SU.eq (v':=vi ((R * C : Nat))) (SU.mulW I I) (congrArg vi (by rw [← Int.natCast_mul]; exact IntWalk.i64_in _ oM))) ?_))))))))
 refine lY I I I (SU.eq (v':=vb true) (eQ I I) (congrArg vb (decide_eq_true (by rw [h3])))) ?_
 refine lU (pT rfl rfl) (lM rfl (lY rfl rfl rfl (fA uT55 rfl sizeOf53 rfl) (SL.gq (gT rfl rfl rfl dC) (qL isAgg53 rfl (cO 0 rfl rfl)) dC (SL.go (gT rfl rfl rfl dC) (cL call128 rfl (progCanonical_spec E g _ (.slice p l.length c) (l.map wd) hs (by rw [List.length_map]; omega) (fun q hq=>by obtain ⟨n,_,rfl⟩:=List.mem_map.1 hq; exact can_wd n))) dC ?_))))
 rintro _ _ _ ⟨rfl,rfl,rfl⟩
 refine lU (pT I I) (lA I (SL.nT (rE (dR (s':=s) (.cons _ (.refl _)) ?_))))
 exact ST.ret1 (.inl I) results73 I ⟨I,I,I⟩
theorem alike_spec (E : World) (g : PH) (s : Own) (v u : Value) (R C : Nat) (l m : List Int) (hv : MatR g v (R,C,l)) (hu : MatR g u (R,C,m)) (hm : MatOk (R,C,l)) (hn : MatOk (R,C,m)) :
  Ctr Tryz.prog E 79 #[v,u] g s (fun x g' s'=>x = vb true ∧ g = g' ∧ s = s'):=by
 have hv0:=hv
 have hu0:=hu
 obtain ⟨p,c,rfl,hs⟩:=hv
 obtain ⟨q,d,rfl,ht⟩:=hu
 dsimp only at hs ht hv0 hu0 ⊢
 refine Ctr.of (args:=[.agg #[vi R,vi C,.slice p l.length c],.agg #[vi R,vi C,.slice q m.length d]]) func79 I ntmps79 (bE I) ?_
 refine SC.sR (SL.bx (bO I) fun b2=>?_)
 refine SL.bx (bO I) fun b3=>?_
 refine lA I (SL.nT (SC.sR (lK (qV 1 iT55 zT55 I I I) (lW (cL call73 I (progRight_spec E g _ _ (R,C,l) hv0 hm)) ?_))))
 rintro _ _ _ ⟨rfl,rfl,rfl⟩
 refine lM I (SL.gq (gT I I I dC) (qV 0 iT55 zT55 I I I) dC (SL.go (gT I I I dC) (cL call73 I (progRight_spec E g _ _ (R,C,m) hu0 hn)) dC ?_))
 rintro _ _ _ ⟨rfl,rfl,rfl⟩
 refine lU (pT I I) (lM I (lY I I I (fA uT55 I zT3 I) (SL.gq (gT I I I dC) (qL (v:=vi R) iT3 I (cO 1 I I)) dC (lY I I I (fA uT55 I zT3 I) (SL.gq (gT I I I dC) (qL (v:=vi R) iT3 I (cO 0 I I)) dC (lY I I I (SU.eq (v':=vb true) (eQ I I) (congrArg vb (decide_eq_true I))) (lU (pT I I) (lM I (lY I I I (fA uT55 I zT3 I) (SL.gq (gT I I I dC) (qL (v:=vi C) iT3 I (cO 1 I I)) dC (lY I I I (fA uT55 I zT3 I) (SL.gq (gT I I I dC) (qL (v:=vi C) iT3 I (cO 0 I I)) dC (lY I I I (SU.eq (v':=vb true) (eQ I I) (congrArg vb (decide_eq_true I))) (lU (pT I I) (lA I (SL.nT (rE (dR (s':=s) (.cons _ (.cons _ (.refl _))) ?_))))))))))))))))))
 exact ST.ret1 (.inl I) results79 I ⟨I,I,I⟩
theorem equalWides (E : World) (g : PH) (s : Own) (v u : Value) (l : List (Bool × List UInt8)) (hv : SlA encW g v l) (hu : SlA encW g u l) (hl : l.length < 1099511627776) :
  Ctr Tryz.prog E 80 #[v,u] g s (fun r g' s'=>r = vb true ∧ g = g' ∧ s = s'):=by
 obtain ⟨p,c,rfl⟩:=SlA.form hv
 obtain ⟨q,d,rfl⟩:=SlA.form hu
 refine Ctr.of (args:=[.slice p l.length c,.slice q l.length d]) func80 I ntmps80 (bE I) ?_
 refine SC.sR (lA I (SL.nT (sQ (SC.sR (lM I (lU (eN uT53 I) (lM I (lU (eN uT53 I) (lU (SU.eq (v':=vb false) (nQ I I) (congrArg vb (decide_eq_false (by simp)))) ?_)))))))))
 refine SL.nT (cF I (kP (tN (sQ (SC.sR (lM I (lU (eN uT53 I) (lM I (SL.nT (bK ?_))))))))))
 refine oP (ι:=Nat) (fun k=>[(0,.slice p l.length c),(1,.slice q l.length d),(12,vi l.length),(13,vi k)]) (fun _=>g) (fun _=>s) (fun k=>k ≤ l.length) (fun k=>l.length - k) 0
  sB rfl rfl (Nat.zero_le _) ?_
 rintro k hk
 refine SC.sR (lU (lS I I) (SL.nT (sQ ?_)))
 refine iP I (fun hlt=>?_) (fun hlt=>?_)
 ·have hkl : k < l.length:=oM
  have hb1:=SlA.based hv oM
  have hb2:=SlA.based hu oM
  refine kP (tN (sQ (bK (SC.sR (lM I (lA I (SL.nT (sQ ?_))))))))
  refine dW [] [(0,2),(1,2),(2,2),(3,1),(4,2),(5,2),(6,2),(7,1),(8,2)] Tryz.mixed (by kernel_rfl) ?_
  refine pU I (mV I) (pU I (mV I) (pU I (iA uT53 zT94 I I hb1 oM sL) ?_))
  refine pQ I (eA iT94 zT94 I (SlA.rd hv) (gE hkl)) dC ?_
  refine pU I (mV I) (pU I (mV I) (pU I (iA uT53 zT94 I I hb2 oM sL) ?_))
  refine pQ I (eA iT94 zT94 I (SlA.rd hu) (gE hkl)) dC ?_
  refine pU I (SU.eq (v':=vb false) (SU.neqW I I) (congrArg vb (decide_eq_false (by simp)))) ?_
  refine pN (tN (cF I (kP (bN (tN (rG (lU (aD I I oM) (lM I (nL ?_)))))))))
  exact gA (k + 1) sB I I oM oM
 ·refine xI (tX (tX (bX (tN (SC.sR (lA I (SL.nT (rE ?_))))))))
  exact ST.ret1 (.inl I) results80 I ⟨I,I,I⟩
theorem progEqual_spec (E : World) (g : PH) (s : Own) (v u : Value) (m : Nat × Nat × List Int) (hv : MatR g v m) (hu : MatR g u m) (hm : MatOk m) :
  Ctr Tryz.prog E 24 #[v,u] g s (fun x g' s'=>x = vb true ∧ g = g' ∧ s = s'):=by
 have hv0:=hv
 have hu0:=hu
 have hm0:=hm
 obtain ⟨R,C,l⟩:=m
 obtain ⟨p,c,rfl,hs⟩:=hv
 obtain ⟨q,d,rfl,ht⟩:=hu
 obtain ⟨h1,h2,h3⟩:=hm
 dsimp only at h1 h2 h3 hs ht hv0 hu0 ⊢
 have hml:=mul_le h1 h2
 refine Ctr.of (args:=[.agg #[vi R,vi C,.slice p l.length c],.agg #[vi R,vi C,.slice q l.length d]]) func24 I ntmps24 (bE I) ?_
 refine SC.sR (SL.bx (bO I) fun b2=>?_)
 refine SL.bx (bO I) fun b3=>?_
 refine lA I (SL.nT (SC.sR (lK (qV 1 iT55 zT55 I I I) (lK (qV 0 iT55 zT55 I I I) (lW (cL call79 I (alike_spec E g _ _ _ R C l l hv0 hu0 hm0 hm0)) ?_)))))
 rintro _ _ _ ⟨rfl,rfl,rfl⟩
 refine lM I (lY I I I (fA uT55 I sizeOf53 I) (SL.gq (gT I I I dC) (qL (v:=.slice p l.length c) isAgg53 I (cO 1 I I)) dC (lY I I I (fA uT55 I sizeOf53 I) (SL.gq (gT I I I dC) (qL (v:=.slice q l.length d) isAgg53 I (cO 0 I I)) dC (SL.go (gT I I I dC) (cL call80 I (equalWides E g _ _ _ (l.map wd) hs ht (by rw [List.length_map]; omega))) dC ?_)))))
 rintro _ _ _ ⟨rfl,rfl,rfl⟩
 refine lU (pT I I) (lA I (SL.nT (rE (dR (s':=s) (.cons _ (.cons _ (.refl _))) ?_))))
 exact ST.ret1 (.inl I) results24 I ⟨I,I,I⟩
theorem matZero_spec (E : World) (g : PH) (s : Own) (n : Int) (hn : n.natAbs < 4294967296) :
  Ctr Tryz.prog E 75 #[wideN n] g s (fun x g' s'=>x = vb (decide (n = 0)) ∧ g = g' ∧ s = s'):=by
 have h0 : decide (n = 0) = decide (magB n.natAbs = []):=by
  rw [decide_eq_decide,magB_nil' oM]
  omega
 rw [h0,wideN_sign hn]
 generalize magB n.natAbs = B
 generalize decide (n < 0) = x
 refine Ctr.of (args:=[.agg #[vb x,txt B]]) func75 I ntmps75 (bE I) ?_
 refine SC.sR (SL.bx (bO I) fun b1=>?_)
 refine lA I (SL.nT (SC.sR (lU (fA uT94 I zT9 I) (lK (qL isAgg9 I (cO 0 I I)) (lU (SU.eqlT I I) (lA I (SL.nT (rE (dR (s':=s) (.cons _ (.refl _)) ?_)))))))))
 exact ST.ret1 (.inl I) results75 I ⟨I,I,I⟩
theorem rows_spec (E : World) (g : PH) (s : Own) (R C n c : Nat) (p : Option Addr) :
  Ctr Tryz.prog E 74 #[.agg #[vi R,vi C,.slice p n c]] g s (fun r g' s'=>s = s' ∧ Le g g' ∧ ∃ b,r = .func (.func 129) #[] #[pp b 0] ∧ g' b = some (.cells #[vi R,vi C,.slice p n c] 55 (0,0))):=by
 refine Ctr.of (args:=[.agg #[vi R,vi C,.slice p n c]]) func74 I ntmps74 (bE I) ?_
 refine SC.sR (SL.bx (bO I) fun b1=>?_)
 refine lA I (SL.nT (SC.sR (lU (SU.mkFunc I) (lA I (SL.nT (rE (ST.freeze fun g1 hle hb=>?_)))))))
 exact ST.ret1 (.inl I) results74 I ⟨I,hle,_,I,hb⟩
theorem rows_gives (E : World) (g0 : PH) (b R C n c : Nat) (p : Option Addr) (hb : g0 b = some (.cells #[vi R,vi C,.slice p n c] 55 (0,0))) (hn : n = R * C) (hc : n ≤ c) (hR : R ≤ 200) (hC : C ≤ 200) :
  Gives Tryz.prog E 129 [pp b 0] (fun i : Nat=>[vi i,sliced p (i * C) ((i + 1) * C) c 2]) (List.range R) g0:=by
 intro k ι G S J i0 h0 hmono hY sx
 refine Ctr.ofX (args:=[.func (.yield k) #[] #[],pp b 0]) func129 I ntmps129 (bE I) ?_
 refine XC.seq ?_
 refine XC.region ?_
 refine XL.u (fA uT55 I zT3 I) dC ?_
 refine XL.q (qL (v:=vi R) iT3 I (cK (hmono _ _ h0 _ _ hb) I)) dC ?_
 refine XL.u (mV I) dC ?_
 refine XL.nil ?_
 refine XT.thenN ?_
 refine XC.block ?_
 refine XC.loop (ι:=ι × Nat) (fun i=>[(0,.func (.yield k) #[] #[]),(1,pp b 0),(5,vi R),(6,vi i.2)]) (fun i=>G i.1) (fun i=>S i.1 ++ sx) (fun i=>i.2 ≤ R ∧ J (List.range i.2) i.1) (fun i=>R - i.2) (i0,0)
  sB rfl rfl ⟨Nat.zero_le _,h0⟩ ?_
 rintro ⟨j,i⟩ ⟨hi,hJ⟩
 dsimp only at hi hJ ⊢
 have hle:=hmono _ _ hJ
 refine XC.seq ?_
 refine XC.region ?_
 refine XL.u (lS I I) dC ?_
 refine XL.nil ?_
 refine XT.thenN ?_
 refine XC.seq ?_
 refine XC.ifP I (fun hlt=>?_) (fun hlt=>?_)
 ·have hlt : i < R:=oM
  have hsp : List.range R = List.range i ++ i :: (List.range R).drop (i + 1):=by
   have h1 : i < (List.range R).length:=by simpa using hlt
   have h2 : (List.range R)[i] = i:=by simp
   have e1 : (List.range R).take i = List.range i:=by rw [List.take_range,Nat.min_eq_left oM]
   have e2:=List.getElem_cons_drop h1
   rw [h2] at e2
   rw [e2,← e1,List.take_append_drop]
  have hy:=hY _ _ _ j sx hsp hJ
  have hb2:=hle _ _ hb
  have m1 : i * C ≤ 40000:=mul_le oM hC
  have m2 : (i + 1) * C ≤ 40000:=mul_le oM hC
  have m3 : (i + 1) * C ≤ n:=by rw [hn]; exact Nat.mul_le_mul_right _ hlt
  have m4 : i * C ≤ (i + 1) * C:=Nat.mul_le_mul_right _ (Nat.le_succ _)
  dsimp only at hy
  refine XC.skip ?_
  refine XT.thenN ?_
  refine XC.seq ?_
  refine XC.block ?_
  refine XC.seq ?_
  refine XC.region ?_
  refine XL.u (mV I) dC ?_
  refine XL.u (aS I) dC ?_
  refine XL.nil ?_
  refine XT.thenN ?_
  refine XC.seq ?_
  refine XC.region ?_
  refine XL.u (mV I) dC ?_
  refine XL.u (mV I) dC ?_
  refine XL.u (fA uT55 I sizeOf53 I) dC ?_
  refine XL.q (qL (v:=.slice p n c) isAgg53 I (cK hb2 I)) dC ?_
  refine XL.u (mV I) dC ?_
  refine XL.u (fA uT55 I zT3 I) dC ?_
  refine XL.q (qL (v:=vi C) iT3 I (cK hb2 I)) dC ?_
  refine XL.u (SU.eq (v':=vi ((i * C : Nat))) (SU.mulW I I) (congrArg vi (by rw [← Int.natCast_mul]; exact IntWalk.i64_in _ oM))) dC ?_
  refine XL.u (mV I) dC ?_
  refine XL.u (SU.eq (v':=vi ((i + 1 : Nat))) (aD I I oM) (congrArg vi oM)) dC ?_
  refine XL.u (fA uT55 I zT3 I) dC ?_
  refine XL.q (qL (v:=vi C) iT3 I (cK hb2 I)) dC ?_
  refine XL.u (SU.eq (v':=vi (((i + 1) * C : Nat))) (SU.mulW I I) (congrArg vi (by rw [← Int.natCast_mul]; exact IntWalk.i64_in _ oM))) dC ?_
  refine XL.u (SU.sliceLH uT53 zT94 I I I oM oM oM) dC ?_
  refine XL.x (XO.yield I I hy) dC ?_
  rintro _ _ _ ⟨rfl,j',hJ',rfl,rfl⟩
  refine XL.u (SU.not I) dC ?_
  refine XL.nil ?_
  refine XT.thenN ?_
  refine XC.condF I ?_
  refine XC.skip ?_
  refine XT.blockN ?_
  refine XT.thenN ?_
  refine XC.region ?_
  refine XL.u (aD I I oM) dC ?_
  refine XL.u (mV I) dC ?_
  refine XL.nil ?_
  exact XT.again (j',i + 1) sB I I ⟨by dsimp only; omega,by dsimp only; rw [List.range_succ]; exact hJ'⟩ (by dsimp only; omega)
 ·have hn0 : i = R:=oM
  subst hn0
  refine XC.exit ?_
  refine XT.thenX ?_
  refine XT.thenX ?_
  refine XT.blockX ?_
  exact XT.leave0 (.inr I) (ST.ret0 (.inr I) results129 ⟨j,hJ,I,I⟩)
def dot (A B : List Int) (K C i j : Nat) : Nat → Int
 | 0=>0
 | k + 1=>dot A B K C i j k + A.getD (i * K + k) 0 * B.getD (k * C + j) 0
theorem getD_le {A : List Int} (h : ∀ n ∈ A,n.natAbs ≤ 1) (x : Nat) : (A.getD x 0).natAbs ≤ 1:=by
 rw [List.getD_eq_getElem?_getD]
 rcases hx : A[x]? with _ | a
 ·decide
 ·exact h a (List.mem_of_getElem? hx)
theorem mul_one {a b : Int} (h1 : a.natAbs ≤ 1) (h2 : b.natAbs ≤ 1) : (a * b).natAbs ≤ 1:=by
 rw [Int.natAbs_mul]
 exact Nat.mul_le_mul h1 h2
theorem dot_le {A B : List Int} (h1 : ∀ n ∈ A,n.natAbs ≤ 1) (h2 : ∀ n ∈ B,n.natAbs ≤ 1) (K C i j : Nat) : ∀ k,(dot A B K C i j k).natAbs ≤ k
 | 0=>lR _
 | k + 1=>by
  have ih:=dot_le h1 h2 K C i j k
  have:=mul_one (getD_le h1 (i * K + k)) (getD_le h2 (k * C + j))
  have h3:=Int.natAbs_add_le (dot A B K C i j k) (A.getD (i * K + k) 0 * B.getD (k * C + j) 0)
  rw [dot]
  omega
def Part (A B : List Int) (R K C : Nat) (L : List Int) (i k j : Nat) : Prop:=L.length = R * C ∧ ∀ i' < R,∀ j' < C,L.getD (i' * C + j') 0 = if i' < i then dot A B K C i' j' K else if i' = i then (if j' < j then dot A B K C i' j' (k + 1) else dot A B K C i' j' k) else 0
theorem idx_inj {C i j i' j' : Nat} (h1 : j < C) (h2 : j' < C) (h : i' * C + j' = i * C + j) : i' = i ∧ j' = j:=by
 have a1 : (i * C + j) / C = i:=by rw [Nat.mul_comm,Nat.mul_add_div oM,Nat.div_eq_of_lt h1,Nat.add_zero]
 have a2 : (i' * C + j') / C = i':=by rw [Nat.mul_comm,Nat.mul_add_div oM,Nat.div_eq_of_lt h2,Nat.add_zero]
 have a3 : i' = i:=by rw [← a1,← a2,h]
 subst a3
 exact ⟨I,oM⟩
theorem flat_lt {R C i j : Nat} (h1 : i < R) (h2 : j < C) : i * C + j < R * C:=by
 have : (i + 1) * C ≤ R * C:=Nat.mul_le_mul_right _ h1
 rw [Nat.add_mul,Nat.one_mul] at this
 omega
section
variable {A B : List Int} {R K C : Nat} {L : List Int} {i k j : Nat}
theorem Part.zero : Part A B R K C (List.replicate (R * C) 0) 0 0 0:=⟨by simp,fun i' hi' j' hj'=>by
 have h0 : (List.replicate (R * C) (0 : Int)).getD (i' * C + j') 0 = 0:=by
  rw [List.getD_eq_getElem?_getD,List.getElem?_replicate]
  split <;> rfl
 rw [h0,if_neg oM]
 split
 ·rw [if_neg oM]; rfl
 ·rfl⟩
theorem Part.col (h : Part A B R K C L i k C) : Part A B R K C L i (k + 1) 0:=⟨h.1,fun i' hi' j' hj'=>by
 rw [h.2 i' hi' j' hj']
 split
 ·rfl
 ·split
  ·rw [if_neg oM]
  ·rfl⟩
theorem Part.row (h : Part A B R K C L i K 0) : Part A B R K C L (i + 1) 0 0:=⟨h.1,fun i' hi' j' hj'=>by
 rw [h.2 i' hi' j' hj']
 split
 ·rw [if_pos oM]
 ·split
  ·rename_i e
   subst e
   rw [if_neg oM,if_pos oM]
  ·rw [if_neg oM]
   split
   ·rw [if_neg oM]; rfl
   ·rfl⟩
theorem Part.skip0 (h : Part A B R K C L i k 0) (ha : A.getD (i * K + k) 0 = 0) : Part A B R K C L i (k + 1) 0:=⟨h.1,fun i' hi' j' hj'=>by
 rw [h.2 i' hi' j' hj']
 split
 ·rfl
 ·split
  ·rename_i e
   subst e
   rw [if_neg oM,if_neg oM,dot,ha,Int.zero_mul,Int.add_zero]
  ·rfl⟩
theorem Part.skip (h : Part A B R K C L i k j) (hb : B.getD (k * C + j) 0 = 0) : Part A B R K C L i k (j + 1):=⟨h.1,fun i' hi' j' hj'=>by
 rw [h.2 i' hi' j' hj']
 split
 ·rfl
 ·split
  ·by_cases e : j' = j
   ·subst e
    rw [if_neg oM,if_pos oM,dot,hb,Int.mul_zero,Int.add_zero]
   ·by_cases e2 : j' < j
    ·rw [if_pos e2,if_pos oM]
    ·rw [if_neg e2,if_neg oM]
  ·rfl⟩
theorem Part.val (h : Part A B R K C L i k j) (hi : i < R) (hj : j < C) : L.getD (i * C + j) 0 = dot A B K C i j k:=by
 rw [h.2 i hi j hj,if_neg oM,if_pos rfl,if_neg oM]
theorem Part.set (h : Part A B R K C L i k j) (hi : i < R) (hj : j < C) : Part A B R K C (L.set (i * C + j) (dot A B K C i j (k + 1))) i k (j + 1):=⟨by rw [List.length_set]; exact h.1,fun i' hi' j' hj'=>by
 have hlt : i * C + j < L.length:=by rw [h.1]; exact flat_lt hi hj
 by_cases e : i' * C + j' = i * C + j
 ·obtain ⟨rfl,rfl⟩:=idx_inj hj hj' e
  rw [List.getD_eq_getElem?_getD,List.getElem?_set_self hlt,if_neg oM,if_pos rfl,if_pos oM]
  rfl
 ·rw [List.getD_eq_getElem?_getD,List.getElem?_set_ne (Ne.symm e),← List.getD_eq_getElem?_getD,h.2 i' hi' j' hj']
  split
  ·rfl
  ·split
   ·rename_i e1
    subst e1
    have e2 : j' ≠ j:=fun e3=>e (by rw [e3])
    by_cases e3 : j' < j
    ·rw [if_pos e3,if_pos oM]
    ·rw [if_neg e3,if_neg oM]
   ·rfl⟩
theorem Part.done (h : Part A B R K C L R 0 0) : L.length = R * C ∧ ∀ i < R,∀ j < C,L.getD (i * C + j) 0 = dot A B K C i j K:=⟨h.1,fun i hi j hj=>by rw [h.2 i hi j hj,if_pos hi]⟩
end
theorem cptr_row {b x y : Nat} (h : x = y) : Value.pointer (some ⟨b,x,none⟩) = Value.pointer (some ⟨b,y,none⟩):=by rw [h]
theorem sliced_row {b i C c : Nat} (hC : 0 < C) (hc : (i + 1) * C ≤ c) : sliced (some ⟨b,0,none⟩) (i * C) ((i + 1) * C) c 2 = .slice (some ⟨b,i * C * 2,none⟩) C (c - i * C):=by
 have h1 : (i + 1) * C = i * C + C:=by rw [Nat.add_mul,Nat.one_mul]
 unfold sliced
 rw [if_neg oM,h1,Nat.add_sub_cancel_left]
 simp [Addr.add]
 exact fun h=>h.symm
set_option maxHeartbeats 2000000
theorem cut_get {A : List Int} {K i k : Nat} (hA : (i + 1) * K ≤ A.length) (hk : k < K) : (((A.map wd).drop (i * K)).take ((i + 1) * K - i * K))[k]? = some (wd (A.getD (i * K + k) 0)):=by
 have h1 : (i + 1) * K = i * K + K:=by rw [Nat.add_mul,Nat.one_mul]
 rw [List.getElem?_take_of_lt oM,List.getElem?_drop,List.getElem?_map,List.getD_eq_getElem?_getD,gE oM]
 rfl
theorem cut_len {A : List Int} {K i : Nat} (hA : (i + 1) * K ≤ A.length) : (((A.map wd).drop (i * K)).take ((i + 1) * K - i * K)).length = K:=by
 have h1 : (i + 1) * K = i * K + K:=by rw [Nat.add_mul,Nat.one_mul]
 rw [List.length_take,List.length_drop,List.length_map]
 omega
theorem range_mid {n : Nat} {pre suf : List Nat} {x : Nat} (h : List.range n = pre ++ x :: suf) : pre.length = x ∧ x < n:=by
 have h1 : (List.range n)[pre.length]? = some x:=by rw [h]; simp
 have h2 : pre.length < n:=by
  have:=congrArg List.length h
  rw [List.length_range,List.length_append,List.length_cons] at this
  omega
 rw [List.getElem?_range h2] at h1
 injection h1 with h1
 exact ⟨h1,oM⟩
theorem zero_own2 (E : World) (g : PH) (s : Own) (r c : Nat) (hr : r ≤ 200) (hc : c ≤ 200) :
  Ctr Tryz.prog E 25 #[vi r,vi c] g s (fun x g' s'=>g = g' ∧ ∃ b,x = .agg #[vi r,vi c,.slice (some ⟨b,0,none⟩) (r * c) (r * c)] ∧ s' = rowA encW 94 (.slice (some ⟨b,0,none⟩) (r * c) (r * c)) (List.replicate (r * c) (wd 0)) :: s):=by
 have hm:=mul_le hr hc
 refine Ctr.of (args:=[vi r,vi c]) func25 I ntmps25 (bE I) ?_
 refine SC.sR (SL.bx (aL zeroValue55) fun b4=>?_)
 refine SL.nT (sQ (SC.sR (lM I (lM I (lW (cL call81 I (fits_spec E g _ r c hr hc)) ?_)))))
 rintro _ _ _ ⟨rfl,rfl,rfl⟩
 refine lU (SU.not I) (SL.nT (cF I (kP (tN (SC.sR (lM I (lM I (lM I (lM I (lU (SU.eq (v':=vi ((r * c : Nat))) (SU.mulW I I) (congrArg vi (by rw [← Int.natCast_mul]; exact IntWalk.i64_in _ oM))) ?_))))))))))
 refine lW (mK encW (wd 0) sty53 I I I oM oM) ?_
 rintro _ _ _ ⟨b15,rfl,rfl,rfl⟩
 refine lU (SU.build I (build55 _ _ _ _ _)) (SL.O2 (sK 1 zT55 I I I I I sB) ?_)
 refine SL.nT (rE ?_)
 exact ST.retCD 1 _ (.inl I) results25 I iT55 zT55 I I (.cons_cons _ (.cons _ (.refl _))) ⟨I,_,I,I⟩
theorem mul_spec (E : World) (g : PH) (s : Own) (v u : Value) (R K C : Nat) (A B : List Int) (hv : MatR g v (R,K,A)) (hu : MatR g u (K,C,B)) (hA : MatOk (R,K,A)) (hB : MatOk (K,C,B)) (hA1 : ∀ n ∈ A,n.natAbs ≤ 1) (hB1 : ∀ n ∈ B,n.natAbs ≤ 1) :
  Ctr Tryz.prog E 22 #[v,u] g s (fun x g' s'=>s = s' ∧ Le g g' ∧ ∃ L y,x = .tuple #[y,vb true] ∧ MatR g' y (R,C,L) ∧ L.length = R * C ∧ ∀ i < R,∀ j < C,L.getD (i * C + j) 0 = dot A B K C i j K):=by
 have hv0:=hv
 have hu0:=hu
 have hA0:=hA
 have hB0:=hB
 obtain ⟨p,c,rfl,hs⟩:=hv
 obtain ⟨q,d,rfl,ht⟩:=hu
 obtain ⟨r1,r2,r3⟩:=hA
 obtain ⟨r4,r5,r6⟩:=hB
 dsimp only at hs ht hv0 hu0 r1 r2 r3 r4 r5 r6 ⊢
 have hml:=mul_le r1 r5
 have hdot:=dot_le hA1 hB1 K C
 have hcA:=(SlA.cap hs).2
 have hcB:=(SlA.cap ht).2
 rw [List.length_map] at hcA hcB
 refine Ctr.ofX (args:=[.agg #[vi R,vi K,.slice p A.length c],.agg #[vi K,vi C,.slice q B.length d]]) func22 I ntmps22 (bE I) ?_
 refine XC.seq ?_
 refine XC.region ?_
 refine XL.o (bO I) dC ?_
 rintro _ _ _ ⟨b2,rfl,rfl,rfl⟩
 refine XL.o (bO I) dC ?_
 rintro _ _ _ ⟨b3,rfl,rfl,rfl⟩
 refine XL.o (aL zeroValue55) dC ?_
 rintro _ _ _ ⟨b4,rfl,rfl,rfl⟩
 refine XL.u (aS I) dC ?_
 refine XL.nil ?_
 refine XT.thenN ?_
 refine XC.seq ?_
 refine XC.seq ?_
 refine XC.region ?_
 refine XL.q (qV 2 iT55 zT55 I I I) dC ?_
 refine XL.o (cL call73 I (progRight_spec E g _ _ (R,K,A) hv0 hA0)) dC ?_
 rintro _ _ _ ⟨rfl,rfl,rfl⟩
 refine XL.u (SU.not I) dC ?_
 refine XL.u (mV I) dC ?_
 refine XL.gq (gT I I I dC) (qV 1 iT55 zT55 I I I) dC ?_
 refine XL.go (gT I I I dC) (cL call73 I (progRight_spec E g _ _ (K,C,B) hu0 hB0)) dC ?_
 rintro _ _ _ ⟨rfl,rfl,rfl⟩
 refine XL.gu (gT I I I dC) (SU.not I) dC ?_
 refine XL.u (pF I I) dC ?_
 refine XL.u (mV I) dC ?_
 refine XL.gu (gT I I I dC) (fA uT55 I zT3 I) dC ?_
 refine XL.gq (gT I I I dC) (qL (v:=vi K) iT3 I (cO 2 I I)) dC ?_
 refine XL.gu (gT I I I dC) (fA uT55 I zT3 I) dC ?_
 refine XL.gq (gT I I I dC) (qL (v:=vi K) iT3 I (cO 1 I I)) dC ?_
 refine XL.gu (gT I I I dC) (SU.eq (v':=vb false) (nQ I I) (congrArg vb (decide_eq_false (by simp)))) dC ?_
 refine XL.u (pF I I) dC ?_
 refine XL.nil ?_
 refine XT.thenN ?_
 refine XC.condF I ?_
 refine XC.skip ?_
 refine XT.thenN ?_
 refine XC.seq ?_
 refine XC.region ?_
 refine XL.u (fA uT55 I zT3 I) dC ?_
 refine XL.q (qL (v:=vi R) iT3 I (cO 2 I I)) dC ?_
 refine XL.u (fA uT55 I zT3 I) dC ?_
 refine XL.q (qL (v:=vi C) iT3 I (cO 1 I I)) dC ?_
 refine XL.o (cL call25 I (zero_own2 E g _ R C r1 r5)) dC ?_
 rintro _ _ _ ⟨rfl,bz,rfl,rfl⟩
 refine XL.o (aL zeroValue55) dC ?_
 rintro _ _ _ ⟨b6,rfl,rfl,rfl⟩
 refine XL.on (sK 0 zT55 I I I I I sB) ?_
 rintro _ _ _ ⟨rfl,rfl⟩
 refine XL.nil ?_
 refine XT.thenN ?_
 refine XC.seq ?_
 refine XC.seq ?_
 refine XC.region ?_
 refine XL.q (qV 4 iT55 zT55 I I I) dC ?_
 refine XL.o (cL call74 I (rows_spec E _ _ R K A.length c p)) dC ?_
 rintro _ g1 _ ⟨rfl,hle1,bA,rfl,hbA⟩
 refine XL.nil ?_
 refine XT.thenN ?_
 refine XC.block ?_
 have hs' : SlA encW g (.slice p (A.map wd).length c) (A.map wd):=by rw [List.length_map]; exact hs
 have ht' : SlA encW g (.slice q (B.map wd).length d) (B.map wd):=by rw [List.length_map]; exact ht
 refine XC.rangeFuncA (α:=Nat) (ι:=List Int × PH) (κ:=Nat) (encs:=fun i=>[vi i,sliced p (i * K) ((i + 1) * K) c 2]) (xs:=List.range R) (g0:=g1) (fun j=>j.2) (fun j=>pt b6 (.cells #[vi R,vi C,.slice (some ⟨bz,0,none⟩) (R * C) (R * C)] 55 (0,0)) :: rowA encW 94 (.slice (some ⟨bz,0,none⟩) (R * C) (R * C)) ((j.1).map wd) :: pt b4 (.cells #[vi 0,vi 0,.slice none 0 0] 55 (0,0)) :: pt b3 (.cells #[vi K,vi C,.slice q B.length d] 55 (0,0)) :: pt b2 (.cells #[vi R,vi K,.slice p A.length c] 55 (0,0)) :: []) (fun pre j=>Le g1 j.2 ∧ Part A B R K C j.1 pre.length 0 0) (List.replicate (R * C) 0,g1) s
  (fun i=>[(38,sliced p (i * K) ((i + 1) * K) c 2),(37,vi i),(2,pp b2 0),(3,pp b3 0),(6,pp b6 0)]) (fun _ i _ b8=>[(7,vi i),(8,pp b8 0),(2,pp b2 0),(3,pp b3 0),(6,pp b6 0)]) (fun i b8=>[pt b8 (.cells #[sliced p (i * K) ((i + 1) * K) c 2] 53 (0,0))])
  rfl rfl call129 (fun _=>rfl) rfl (by rw [List.map_replicate]; rfl) (rows_gives E g1 bA R K _ c p hbA r3 hcA r1 r2) (fun _ _ h=>h.1) ⟨Le.refl _,Part.zero⟩
  (fun x a h=>params2 (h.sub (g:=[(2,pp b2 0),(3,pp b3 0),(6,pp b6 0)]) sB) dC dC) ?_ ?_ ?_
 ·intro l pre i j sx hJ
  refine XC.seq ?_
  refine XC.region ?_
  refine XL.u (aS I) dC ?_
  refine XL.nil ?_
  refine XT.thenN ?_
  refine XC.region ?_
  refine XL.o (aL zeroValue53) dC ?_
  rintro _ _ _ ⟨b8,rfl,rfl,rfl⟩
  refine XL.on (sK 0 sizeOf53 I I I I I sB) ?_
  rintro _ _ _ ⟨rfl,rfl⟩
  refine XL.nil ?_
  exact XT.assignEndA b8 sB I
 ·rintro l pre i suf ⟨L,g2⟩ sx b8 ⟨rl,kl,hkl⟩ hxs ⟨hle2,hP⟩
  dsimp only at hle2 hP ⊢
  obtain ⟨hpl,hiR⟩:=range_mid hxs
  rw [hpl] at hP
  have cA : (i + 1) * K ≤ A.length:=by rw [r3]; exact Nat.mul_le_mul_right _ hiR
  have cC : (i + 1) * C ≤ R * C:=Nat.mul_le_mul_right _ hiR
  have cC0 : i * C ≤ (i + 1) * C:=Nat.mul_le_mul_right _ (Nat.le_succ _)
  have hrow:=SlA.cut (SlA.mono hs' (hle1.trans hle2)) (l:=i * K) (m:=(i + 1) * K) (Nat.mul_le_mul_right _ (Nat.le_succ _)) (by rw [List.length_map]; exact cA)
  obtain ⟨pr,cr,er⟩:=SlA.form hrow
  rw [cut_len cA] at er
  rw [er] at hrow ⊢
  refine XC.block ?_
  refine XC.seq ?_
  refine XC.region ?_
  refine XL.u (fA uT55 I sizeOf53 I) dC ?_
  refine XL.q (qL (v:=.slice (some ⟨bz,0,none⟩) (R * C) (R * C)) isAgg53 I (cO 1 I I)) dC ?_
  refine XL.u (mV I) dC ?_
  refine XL.u (fA uT55 I zT3 I) dC ?_
  refine XL.q (qL (v:=vi C) iT3 I (cO 4 I I)) dC ?_
  refine XL.u (SU.eq (v':=vi ((i * C : Nat))) (SU.mulW I I) (congrArg vi (by rw [← Int.natCast_mul]; exact IntWalk.i64_in _ oM))) dC ?_
  refine XL.u (mV I) dC ?_
  refine XL.u (SU.eq (v':=vi ((i + 1 : Nat))) (aD I I oM) (congrArg vi oM)) dC ?_
  refine XL.u (fA uT55 I zT3 I) dC ?_
  refine XL.q (qL (v:=vi C) iT3 I (cO 4 I I)) dC ?_
  refine XL.u (SU.eq (v':=vi (((i + 1) * C : Nat))) (SU.mulW I I) (congrArg vi (by rw [← Int.natCast_mul]; exact IntWalk.i64_in _ oM))) dC ?_
  refine XL.u (SU.sliceLH uT53 zT94 I I I oM oM oM) dC ?_
  refine XL.o (aL zeroValue53) dC ?_
  rintro _ _ _ ⟨b9,rfl,rfl,rfl⟩
  refine XL.on (sK 0 sizeOf53 I I I I I sB) ?_
  rintro _ _ _ ⟨rfl,rfl⟩
  refine XL.nil ?_
  refine XT.thenN ?_
  refine XC.seq ?_
  refine XC.region ?_
  refine XL.q (qV 5 iT55 zT55 I I I) dC ?_
  refine XL.o (cL call74 I (rows_spec E _ _ K C B.length d q)) dC ?_
  rintro _ g3 _ ⟨rfl,hle3,bB,rfl,hbB⟩
  refine XL.nil ?_
  refine XT.thenN ?_
  refine XC.block ?_
  refine XC.rangeFuncIn (α:=Nat) (ι:=List Int × PH) (encs:=fun k=>[vi k,sliced q (k * C) ((k + 1) * C) d 2]) (xs:=List.range K) (g0:=g3) (fun j=>j.2) (fun j=>pt b9 (.cells #[sliced (some ⟨bz,0,none⟩) (i * C) ((i + 1) * C) (R * C) 2] 53 (0,0)) :: pt b8 (.cells #[.slice pr K cr] 53 (0,0)) :: pt b6 (.cells #[vi R,vi C,.slice (some ⟨bz,0,none⟩) (R * C) (R * C)] 55 (0,0)) :: rowA encW 94 (.slice (some ⟨bz,0,none⟩) (R * C) (R * C)) ((j.1).map wd) :: pt b4 (.cells #[vi 0,vi 0,.slice none 0 0] 55 (0,0)) :: pt b3 (.cells #[vi K,vi C,.slice q B.length d] 55 (0,0)) :: pt b2 (.cells #[vi R,vi K,.slice p A.length c] 55 (0,0)) :: []) (fun pre j=>Le g3 j.2 ∧ Part A B R K C j.1 i pre.length 0) (L,g3) sx
   (fun k=>[(54,sliced q (k * C) ((k + 1) * C) d 2),(53,vi k),(8,pp b8 0),(9,pp b9 0)]) (fun _ k _=>[(10,vi k),(11,sliced q (k * C) ((k + 1) * C) d 2),(8,pp b8 0),(9,pp b9 0)])
   rfl ⟨rl,kl + 7,hkl⟩ rfl call129 (fun _=>rfl) rfl rfl (rows_gives E g3 bB K C _ d q hbB r6 hcB r4 r5) (fun _ _ h=>h.1) ⟨Le.refl _,hP⟩
   (fun x a h=>params2 (h.sub (g:=[(8,pp b8 0),(9,pp b9 0)]) sB) dC dC) ?_ ?_ ?_
  ·intro l' pre' k j' sx' hJ'
   refine XC.seq ?_
   refine XC.region ?_
   refine XL.u (aS I) dC ?_
   refine XL.nil ?_
   refine XT.thenN ?_
   refine XC.region ?_
   refine XL.u (aS I) dC ?_
   refine XL.nil ?_
   exact XT.assignEnd sB
  ·rintro l' pre' k suf' ⟨M,g4⟩ sx' hxs' ⟨hle4,hQ⟩
   dsimp only at hle4 hQ ⊢
   obtain ⟨hpk,hkK⟩:=range_mid hxs'
   rw [hpk] at hQ
   have cB : (k + 1) * C ≤ B.length:=by rw [r6]; exact Nat.mul_le_mul_right _ hkK
   have hrowB:=SlA.cut (SlA.mono ht' (hle1.trans (hle2.trans (hle3.trans hle4)))) (l:=k * C) (m:=(k + 1) * C) (Nat.mul_le_mul_right _ (Nat.le_succ _)) (by rw [List.length_map]; exact cB)
   obtain ⟨pb,cb,eb⟩:=SlA.form hrowB
   rw [cut_len cB] at eb
   rw [eb] at hrowB ⊢
   have hrow4:=SlA.mono hrow (hle3.trans hle4)
   have hga:=cut_get cA hkK
   have hb1:=SlA.based hrow (by rw [cut_len cA]; omega)
   have ha1:=getD_le hA1 (i * K + k)
   refine XC.block ?_
   refine XC.seq ?_
   refine XC.seq ?_
   refine XC.region ?_
   refine XL.q (qL (v:=.slice pr K cr) isAgg53 I (cO 1 I I)) dC ?_
   refine XL.u (mV I) dC ?_
   refine XL.u (iA uT53 zT94 I I hb1 oM sL) dC ?_
   refine XL.q (eA iT94 zT94 I (SlA.rd hrow4) hga) dC ?_
   refine XL.o (cL call75 I (matZero_spec E _ _ (A.getD (i * K + k) 0) oM)) dC ?_
   rintro _ _ _ ⟨rfl,rfl,rfl⟩
   refine XL.nil ?_
   refine XT.thenN ?_
   refine XC.ifP I (fun ha0=>?_) (fun ha0=>?_)
   ·refine XC.exit ?_
    refine XT.thenX ?_
    refine XT.blockX ?_
    exact XT.roundEnd (M,g4) I I ⟨hle4,by rw [List.length_append,hpk]; exact hQ.skip0 ha0⟩
   ·refine XC.skip ?_
    refine XT.thenN ?_
    refine XC.seq ?_
    refine XC.region ?_
    refine XL.u (mV I) dC ?_
    refine XL.u (eN uT53 I) dC ?_
    refine XL.u (mV I) dC ?_
    refine XL.nil ?_
    refine XT.thenN ?_
    refine XC.block ?_
    refine XC.loop (ι:=List Int × PH × Nat) (fun z=>[(8,pp b8 0),(9,pp b9 0),(10,vi k),(60,.slice pb C cb),(61,vi C),(62,vi z.2.2)]) (fun z=>z.2.1) (fun z=>(pt b9 (.cells #[sliced (some ⟨bz,0,none⟩) (i * C) ((i + 1) * C) (R * C) 2] 53 (0,0)) :: pt b8 (.cells #[.slice pr K cr] 53 (0,0)) :: pt b6 (.cells #[vi R,vi C,.slice (some ⟨bz,0,none⟩) (R * C) (R * C)] 55 (0,0)) :: rowA encW 94 (.slice (some ⟨bz,0,none⟩) (R * C) (R * C)) ((z.1).map wd) :: pt b4 (.cells #[vi 0,vi 0,.slice none 0 0] 55 (0,0)) :: pt b3 (.cells #[vi K,vi C,.slice q B.length d] 55 (0,0)) :: pt b2 (.cells #[vi R,vi K,.slice p A.length c] 55 (0,0)) :: []) ++ sx') (fun z=>z.2.2 ≤ C ∧ Le g4 z.2.1 ∧ Part A B R K C z.1 i k z.2.2) (fun z=>C - z.2.2) (M,g4,0) sB I I ⟨Nat.zero_le _,Le.refl _,hQ⟩ ?_
    rintro ⟨N,g5,j⟩ ⟨hj,hle5,hZ⟩
    dsimp only at hj hle5 hZ ⊢
    refine XC.seq ?_
    refine XC.region ?_
    refine XL.u (lS I I) dC ?_
    refine XL.nil ?_
    refine XT.thenN ?_
    refine XC.seq ?_
    refine XC.ifP I (fun hlt=>?_) (fun hlt=>?_)
    ·have hjC : j < C:=oM
     have hb2:=SlA.based hrowB (by rw [cut_len cB]; omega)
     have hrowB5:=SlA.mono hrowB hle5
     have hrow5:=SlA.mono hrow4 hle5
     have hgy : (((B.map wd).drop (k * C)).take ((k + 1) * C - k * C))[((j : Nat) : Int).toNat]? = some (wd (B.getD (k * C + j) 0)):=cut_get cB hjC
     have hy1:=getD_le hB1 (k * C + j)
     refine XC.skip ?_
     refine XT.thenN ?_
     refine XC.seq ?_
     refine XC.block ?_
     refine XC.seq ?_
     refine XC.region ?_
     refine XL.u (mV I) dC ?_
     refine XL.u (iA uT53 zT94 I I hb2 oM sL) dC ?_
     refine XL.q (eA iT94 zT94 I (SlA.rd hrowB5) hgy) dC ?_
     refine XL.o (aL zeroValue94) dC ?_
     rintro _ _ _ ⟨b13,rfl,rfl,rfl⟩
     refine XL.u (aS I) dC ?_
     refine XL.on (sK 0 zT94 I I I I I sB) ?_
     rintro _ _ _ ⟨rfl,rfl⟩
     refine XL.nil ?_
     refine XT.thenN ?_
     refine XC.seq ?_
     refine XC.region ?_
     refine XL.q (qV 0 iT94 zT94 I I I) dC ?_
     refine XL.o (cL call75 I (matZero_spec E _ _ (B.getD (k * C + j) 0) oM)) dC ?_
     rintro _ _ _ ⟨rfl,rfl,rfl⟩
     refine XL.u (SU.notP I) dC ?_
     refine XL.nil ?_
     refine XT.thenN ?_
     refine XC.ifP I (fun hy0=>?_) (fun hy0=>?_)
     ·have hsl:=sliced_row (b:=bz) (i:=i) (C:=C) (c:=R * C) oM cC
      have hfl:=flat_lt hiR hjC
      have hxv:=hZ.val hiR hjC
      have hgx : (N.map wd)[i * C + j]? = some (wd (dot A B K C i j k)):=by
       rw [List.getElem?_map,← hxv,List.getD_eq_getElem?_getD,gE (by rw [hZ.1]; exact hfl)]
       rfl
      have hd1:=hdot i j k
      have hd2:=mul_one ha1 hy1
      refine XC.draw [14] [(0,1),(1,2),(2,1),(3,2),(4,2),(5,1),(6,1),(7,2),(8,2),(9,1),(10,1),(11,0),(12,0),(13,2),(14,0)] Tryz.mixed (by kernel_rfl) (by kernel_rfl) ?_
      refine pK rfl (qL (v:=sliced (some ⟨bz,0,none⟩) (i * C) ((i + 1) * C) (R * C) 2) isAgg53 rfl (cO 1 rfl rfl)) (pU rfl (mV rfl) (pK rfl (qL (v:=sliced (some ⟨bz,0,none⟩) (i * C) ((i + 1) * C) (R * C) 2) isAgg53 rfl (cO 1 rfl rfl)) (pU rfl (mV rfl) (pU rfl (SU.eq (v':=.pointer (some ⟨bz,0 + (i * C + j) * 2,none⟩)) (iA uT53 zT94 rfl rfl (by rw [hsl]; rfl) oM (by rw [hsl]; simp only [slen]; omega)) (by rw [hsl]; exact cptr_row (by dsimp only; omega))) ?_))))
      refine pK rfl (eA (j:=i * C + j) iT94 zT94 rfl (Rd.rowA 4 rfl) hgx) (pK rfl (qL (v:=.slice pr K cr) isAgg53 rfl (cO 2 rfl rfl)) (pU rfl (mV rfl) (pU rfl (iA uT53 zT94 rfl rfl hb1 oM sL) (pK rfl (eA iT94 zT94 rfl (SlA.rd hrow5) hga) (pK rfl (qV 0 iT94 zT94 rfl rfl rfl) (SP.o rfl (cL call77 rfl (wideMul_spec E _ _ (A.getD (i * K + k) 0) (B.getD (k * C + j) 0) oM oM oM)) dC (.inr (by rintro _ g6 _ ⟨rfl,rfl,hle6⟩; exact ⟨by assumption,(by exact .refl _)⟩)) ?_))))))
      rintro _ g6 _ ⟨rfl,rfl,hle6⟩
      refine SP.o rfl (cL call76 rfl (wideAdd_spec E _ _ (dot A B K C i j k) (A.getD (i * K + k) 0 * B.getD (k * C + j) 0) oM)) dC (.inr (by rintro _ g7 _ ⟨rfl,rfl,hle7⟩; exact ⟨by exact Le.trans (by assumption) (by assumption),(by exact .refl _)⟩)) ?_
      rintro _ g7 _ ⟨rfl,rfl,hle7⟩
      have h67:=hle6.trans hle7
      refine pU rfl (SU.eq (v':=.pointer (some ⟨bz,0 + (i * C + j) * 2,none⟩)) (iA uT53 zT94 rfl rfl (by rw [hsl]; rfl) oM (by rw [hsl]; simp only [slen]; omega)) (by rw [hsl]; exact cptr_row (by dsimp only; omega))) ?_
      refine SP.on I (sT (e:=encW) (a:=wd (dot A B K C i j k + A.getD (i * K + k) 0 * B.getD (k * C + j) 0)) (j:=i * C + j) 4 zT94 I I I (by rw [List.length_map,hZ.1]; exact hfl) I) (.inl dC) ?_
      rintro _ _ _ ⟨rfl,rfl⟩
      refine pN (ST.ofXT ?_)
      refine XT.blockN ?_
      refine XT.thenN ?_
      refine XC.region ?_
      refine XL.u (aD I I oM) dC ?_
      refine XL.u (mV I) dC ?_
      refine XL.nil ?_
      refine XT.drop (List.sublist_cons_self _ _) ?_
      exact XT.again (N.set (i * C + j) (dot A B K C i j (k + 1)),g7,j + 1) sB rfl (by dsimp only; rw [List.map_set]; rfl) ⟨by dsimp only; omega,hle5.trans h67,hZ.set hiR hjC⟩ (by dsimp only; omega)
     ·refine XC.skip ?_
      refine XT.blockN ?_
      refine XT.thenN ?_
      refine XC.region ?_
      refine XL.u (aD I I oM) dC ?_
      refine XL.u (mV I) dC ?_
      refine XL.nil ?_
      refine XT.drop (List.sublist_cons_self _ _) ?_
      exact XT.again (N,g5,j + 1) sB I I ⟨by dsimp only; omega,hle5,hZ.skip (Classical.not_not.1 hy0)⟩ (by dsimp only; omega)
    ·refine XC.exit ?_
     refine XT.thenX ?_
     refine XT.thenX ?_
     refine XT.blockX ?_
     refine XT.blockN ?_
     have hjC : j = C:=oM
     subst hjC
     exact XT.roundEnd (N,g5) I I ⟨hle4.trans hle5,by rw [List.length_append,hpk]; exact hZ.col⟩
  ·rintro ⟨M,g4⟩ ⟨hle4,hQ⟩
   dsimp only at hle4 hQ ⊢
   rw [List.length_range] at hQ
   refine XT.blockN ?_
   refine XT.blockN ?_
   refine XT.drop (.cons _ (.cons _ (.refl _))) ?_
   exact XT.roundEnd (M,g4) I I ⟨hle2.trans (hle3.trans hle4),by rw [List.length_append,hpl]; exact hQ.row⟩
 ·rintro D ⟨L,g2⟩ ⟨hle2,hP⟩
  dsimp only at hle2 hP ⊢
  rw [List.length_range] at hP
  obtain ⟨hL,hdone⟩:=hP.done
  refine XT.blockN ?_
  refine XT.thenN ?_
  refine XC.seq ?_
  refine XC.region ?_
  refine XL.q (qV 1 iT55 zT55 I I I) dC ?_
  refine XL.on (sK 3 zT55 I I I I I sB) ?_
  rintro _ _ _ ⟨rfl,rfl⟩
  refine XL.u (aS I) dC ?_
  refine XL.nil ?_
  refine XT.thenN ?_
  refine XC.ret ?_
  refine XT.leave1 (.inl I) ?_
  refine ST.perm (List.Perm.swap _ _ _) (fT fun g5 hle5 hs5=>?_)
  exact ST.retCD1 1 s (.inl rfl) results22 rfl rfl iT55 zT55 rfl rfl (.cons _ (.cons _ (.cons _ (.cons _ (.refl _))))) ⟨rfl,hle1.trans (hle2.trans hle5),L,_,rfl,⟨some ⟨bz,0,none⟩,R * C,by dsimp only; rw [hL]; rfl,by dsimp only; rw [hL]; unfold SlA; rw [List.length_map,hL]; rw [List.length_map,hL] at hs5; exact hs5⟩,hL,hdone⟩
def en (l : List Side) (x : Int) : Int:=(l.map fun s=>if s.cell = x then s.sign else 0).sum
theorem en_cons (a : Side) (l : List Side) (x : Int) : en (a :: l) x = (if a.cell = x then a.sign else 0) + en l x:=by simp [en]
theorem en_none {l : List Side} {x : Int} (h : ∀ s ∈ l,s.cell ≠ x) : en l x = 0:=by
 induction l with
 | nil=>rfl
 | cons a l ih =>
  rw [en_cons,if_neg (h a (by simp)),ih fun s hs=>h s (by simp [hs])]
  rfl
theorem en_le {l : List Side} (h1 : l.Pairwise fun a b=>a.cell < b.cell) (h2 : ∀ s ∈ l,s.sign = 1 ∨ s.sign = -1) (x : Int) : (en l x).natAbs ≤ 1:=by
 induction l with
 | nil=>simp [en]
 | cons a l ih =>
  obtain ⟨h3,h4⟩:=List.pairwise_cons.1 h1
  rw [en_cons]
  by_cases e : a.cell = x
  ·rw [if_pos e,en_none fun s hs=>by have:=h3 s hs; omega]
   rcases h2 a (by simp) with e2 | e2 <;> rw [e2] <;> decide
  ·rw [if_neg e,Int.zero_add]
   exact ih h4 fun s hs=>h2 s (by simp [hs])
theorem getD_modify {α : Type} (l : List α) (f : α → α) (i j : Nat) (d : α) (hj : j < l.length) : (l.modify i f).getD j d = if i = j then f (l.getD j d) else l.getD j d:=by
 rw [List.getD_eq_getElem?_getD,List.getD_eq_getElem?_getD,List.getElem?_modify,gE hj]
 by_cases e : i = j <;> simp [e]
def ent (M : List (List Int)) (i k : Nat) : Int:=(M.getD i []).getD k 0
theorem ent_addAt {M : List (List Int)} {R C : Nat} (h : Shape M R C) {i k i' k' : Nat} (hi : i < R) (hk : k < C) (z : Int) : ent (addAt M i' k' z) i k = if i = i' ∧ k = k' then IntKind.i64.wrap (ent M i k + z) else ent M i k:=by
 have hl : i < M.length:=by rw [h.1]; exact hi
 have hr:=(h.2 _ (gM hl)).1
 have hm : (M.getD i []) = M[i]:=by rw [List.getD_eq_getElem?_getD,gE hl]; rfl
 unfold ent addAt
 rw [getD_modify _ _ _ _ _ hl,hm]
 by_cases e : i' = i
 ·rw [if_pos e,getD_modify _ _ _ _ _ (by rw [hr]; exact hk)]
  by_cases e2 : k' = k
  ·rw [if_pos e2,if_pos ⟨e.symm,e2.symm⟩]
  ·rw [if_neg e2,if_neg (fun h=>e2 h.2.symm)]
 ·rw [if_neg e,if_neg (fun h=>e h.1.symm)]
theorem wrap_small {n : Int} (h : n.natAbs < 4611686018427387904) : IntKind.i64.wrap n = n:=IntWalk.i64_in _ oM
theorem ent_step {M : List (List Int)} {R C : Nat} {rows : List Int} (h : Shape M R C) (hR : rows.length = R) (hs : rows.Pairwise (· < ·)) {i k k' : Nat} (hi : i < R) (hk : k < C) (x : Side) (hb : k = k' → (ent M i k + x.sign).natAbs < 4611686018427387904) :
  ent (colStep rows k' M x) i k = ent M i k + if k = k' then (if x.cell = rows.getD i 0 then x.sign else 0) else 0:=by
 have hl : i < rows.length:=oM
 have hg : rows.getD i 0 = rows[i]:=by rw [List.getD_eq_getElem?_getD,gE hl]; rfl
 rw [hg]
 unfold colStep
 by_cases hc : rows.contains x.cell = true
 ·rw [if_pos hc,ent_addAt h hi hk]
  have hm:=List.contains_iff_mem.1 hc
  obtain ⟨j,hj,e⟩:=List.getElem_of_mem hm
  have hlb : lbI rows x.cell = j:=by rw [← e]; exact lbI_self hj hs
  rw [hlb]
  by_cases e2 : k = k'
  ·subst e2
   by_cases e3 : i = j
   ·subst e3
    rw [if_pos ⟨rfl,rfl⟩,if_pos rfl,if_pos e.symm,wrap_small (hb rfl)]
   ·have : x.cell ≠ rows[i]:=fun e4=>by
     rw [← e] at e4
     have h1:=lbI_self hj hs
     have h2:=lbI_self hl hs
     rw [e4] at h1
     omega
    rw [if_neg (fun h=>e3 h.1),if_pos rfl,if_neg this,Int.add_zero]
  ·rw [if_neg (fun h=>e2 h.2),if_neg e2,Int.add_zero]
 ·rw [if_neg hc]
  have : x.cell ≠ rows[i]:=fun e=>hc (by rw [List.contains_iff_mem,e]; exact gM hl)
  rw [if_neg this]
  simp
theorem ent_fold {R C : Nat} {rows : List Int} (hR : rows.length = R) (hs : rows.Pairwise (· < ·)) {i k k' : Nat} (hi : i < R) (hk : k < C) : ∀ (l : List Side) {M : List (List Int)},Shape M R C → (∀ s ∈ l,s.sign = 1 ∨ s.sign = -1) → (k = k' → (ent M i k).natAbs + l.length < 4611686018427387904) →
  ent (l.foldl (colStep rows k') M) i k = ent M i k + if k = k' then en l (rows.getD i 0) else 0
 | [],M,_,_,_=>by simp [en]
 | x :: l,M,h,hsg,hb=>by
  have h1:=hsg x (by simp)
  have hx : x.sign.natAbs = 1:=by rcases h1 with e | e <;> rw [e] <;> rfl
  have hst:=ent_step h hR hs hi hk x (k':=k') (fun e=>by
   have:=hb e
   rw [List.length_cons] at this
   have h2:=Int.natAbs_add_le (ent M i k) x.sign
   omega)
  rw [List.foldl_cons,ent_fold hR hs hi hk l (h.step rows k' x) (fun s hs=>hsg s (by simp [hs])) (fun e=>by
   have:=hb e
   rw [List.length_cons] at this
   rw [hst,if_pos e]
   have h2:=Int.natAbs_add_le (ent M i k) (if x.cell = rows.getD i 0 then x.sign else 0)
   have h3 : (if x.cell = rows.getD i 0 then x.sign else 0).natAbs ≤ 1:=by split <;> omega
   omega),hst]
  by_cases e : k = k'
  ·rw [if_pos e,if_pos e,if_pos e,en_cons,Int.add_assoc]
  ·rw [if_neg e,if_neg e,if_neg e]
   omega
theorem ent_matTo {tab : List Cl} {rows cols : List Int} (hs : rows.Pairwise (· < ·)) (hc : ∀ k < cols.length,(∀ s ∈ (cellAt tab (cols.getD k 0)).sides,s.sign = 1 ∨ s.sign = -1) ∧ (cellAt tab (cols.getD k 0)).sides.length < 1099511627776) {i k : Nat} (hi : i < rows.length) (hk : k < cols.length) : ∀ n ≤ cols.length,
  ent (matTo tab rows cols n) i k = if k < n then en (cellAt tab (cols.getD k 0)).sides (rows.getD i 0) else 0
 | 0,_=>by
  have h0 : (List.replicate rows.length (List.replicate cols.length (0 : Int))).getD i [] = List.replicate cols.length 0:=by
   rw [List.getD_eq_getElem?_getD,List.getElem?_replicate,if_pos hi]; rfl
  unfold ent matTo
  rw [h0,List.getD_eq_getElem?_getD,List.getElem?_replicate,if_pos hk,if_neg oM]
  rfl
 | n + 1,hn=>by
  have ih:=ent_matTo hs hc hi hk n oM
  obtain ⟨h1,h2⟩:=hc n oM
  rw [matTo,ent_fold rfl hs hi hk _ (matTo_shape tab rows cols n) h1 (fun e=>by
   rw [ih,if_neg oM]
   have : (0 : Int).natAbs = 0:=rfl
   omega),ih]
  by_cases e : k = n
  ·subst e
   rw [if_neg oM,if_pos rfl,if_pos oM,Int.zero_add]
  ·rw [if_neg e,Int.add_zero]
   by_cases e2 : k < n
   ·rw [if_pos e2,if_pos oM]
   ·rw [if_neg e2,if_neg oM]
theorem flat_ent {C : Nat} : ∀ {M : List (List Int)} {i k : Nat},(∀ r ∈ M,r.length = C) → i < M.length → k < C → M.flatten.getD (i * C + k) 0 = ent M i k
 | [],_,_,_,h,_=>by simp at h
 | r :: M,0,k,hl,_,hk=>by
  have h1 : r.length = C:=hl r (by simp)
  unfold ent
  rw [List.flatten_cons,Nat.zero_mul,Nat.zero_add,List.getD_eq_getElem?_getD,List.getElem?_append_left oM]
  simp
 | r :: M,i + 1,k,hl,hi,hk=>by
  have h1 : r.length = C:=hl r (by simp)
  have ih:=flat_ent (M:=M) (i:=i) (k:=k) (fun x hx=>hl x (by simp [hx])) (by simpa using hi) hk
  have h2 : (i + 1) * C + k - r.length = i * C + k:=by rw [h1,Nat.add_mul]; omega
  unfold ent at ih ⊢
  rw [List.flatten_cons,List.getD_eq_getElem?_getD,List.getElem?_append_right (by rw [h1,Nat.add_mul]; omega),h2,← List.getD_eq_getElem?_getD,ih]
  simp
theorem flat_mem {C : Nat} {M : List (List Int)} (hl : ∀ r ∈ M,r.length = C) {n : Int} (h : n ∈ M.flatten) : ∃ i k,i < M.length ∧ k < C ∧ n = ent M i k:=by
 obtain ⟨r,hr,hn⟩:=List.mem_flatten.1 h
 obtain ⟨i,hi,rfl⟩:=List.getElem_of_mem hr
 obtain ⟨k,hk,rfl⟩:=List.getElem_of_mem hn
 refine ⟨i,k,hi,by rw [← hl _ hr]; exact hk,?_⟩
 unfold ent
 rw [List.getD_eq_getElem?_getD,List.getD_eq_getElem?_getD,gE hi,Option.getD_some,gE hk]
 rfl
theorem sum_add {α : Type} (l : List α) (f g : α → Int) : (l.map fun a=>f a + g a).sum = (l.map f).sum + (l.map g).sum:=by
 induction l with
 | nil=>rfl
 | cons a l ih=>simp only [List.map_cons,List.sum_cons,ih]; omega
theorem sum_zeros {α : Type} (l : List α) : (l.map fun _=>(0 : Int)).sum = 0:=by
 induction l with
 | nil=>rfl
 | cons a l ih=>simp only [List.map_cons,List.sum_cons,ih]; rfl
theorem sum_cross {α β : Type} (l : List α) (m : List β) (f : α → β → Int) : (l.map fun a=>(m.map fun b=>f a b).sum).sum = (m.map fun b=>(l.map fun a=>f a b).sum).sum:=by
 induction l with
 | nil=>simp [sum_zeros]
 | cons a l ih =>
  simp only [List.map_cons,List.sum_cons,ih]
  rw [← sum_add]
theorem sum_one {l : List Int} (hs : l.Nodup) {x : Int} (hx : x ∈ l) (f : Int → Int) : (l.map fun y=>if x = y then f y else 0).sum = f x:=by
 induction l with
 | nil=>simp at hx
 | cons a l ih =>
  obtain ⟨h1,h2⟩:=List.nodup_cons.1 hs
  simp only [List.map_cons,List.sum_cons]
  by_cases e : x = a
  ·subst e
   have : (l.map fun y=>if x = y then f y else 0).sum = 0:=by
    have : (l.map fun y=>if x = y then f y else 0) = l.map fun _=>(0 : Int):=List.map_congr_left fun y hy=>if_neg fun (e' : x = y)=>h1 (by rw [e']; exact hy)
    rw [this,sum_zeros]
   rw [if_pos rfl,this,Int.add_zero]
  ·rw [if_neg e,Int.zero_add,ih h2 (by simpa [e] using hx)]
theorem dot_sum (A B : List Int) (K C i j : Nat) : ∀ n,dot A B K C i j n = ((List.range n).map fun k=>A.getD (i * K + k) 0 * B.getD (k * C + j) 0).sum
 | 0=>rfl
 | n + 1=>by rw [dot,dot_sum A B K C i j n,List.range_succ,List.map_append,List.sum_append]; simp
theorem range_map {l : List Int} (f : Int → Int) : (List.range l.length).map (fun k=>f (l.getD k 0)) = l.map f:=by
 apply List.ext_getElem
 ·simp
 ·intro n h1 h2
  simp only [List.length_map,List.length_range] at h1
  simp [List.getD_eq_getElem?_getD,gE h1]
theorem cellAt_mem {M : List Cl} (h : Rt M) {d x : Int} (hx : x ∈ idsC M d) : cellAt (tabC M) x ∈ M ∧ (cellAt (tabC M) x).dim = d ∧ (cellAt (tabC M) x).id = x:=by
 unfold idsC at hx
 rw [h.tab] at hx
 obtain ⟨c,hc,rfl⟩:=List.mem_map.1 hx
 obtain ⟨hc,hd⟩:=List.mem_filter.1 hc
 unfold cellAt
 rw [h.tab,h.find hc]
 exact ⟨hc,by simpa using hd,I⟩
theorem ids_nodup (l : List Cl) (d : Int) : (idsC l d).Nodup:=(ids_asc l d).imp fun h=>by omega
theorem getD_mem {l : List Int} {k : Nat} (h : k < l.length) : l.getD k 0 ∈ l:=by
 rw [List.getD_eq_getElem?_getD,gE h]
 exact gM h
theorem sides_few {M : List Cl} (h : Rt M) {c : Cl} (hc : c ∈ M) : c.sides.length < 1099511627776:=by
 have h1:=(h.form c hc).cnt
 have h2 : (c.sides.map Side.cell).length ≤ (M.map Cl.id).length:=by
  have hnd : (c.sides.map Side.cell).Nodup:=by
   rw [List.Nodup,List.pairwise_map]
   exact (h.form c hc).asc.imp fun h=>by omega
  refine hnd.length_le_of_subset fun x hx=>?_
  obtain ⟨s,hs,rfl⟩:=List.mem_map.1 hx
  obtain ⟨d,hd,-⟩:=(h.form c hc).found s hs
  unfold findT at hd
  have h3:=List.find?_some hd
  have h4:=List.mem_of_find?_eq_some hd
  simp only [decide_eq_true_eq] at h3
  exact List.mem_map.2 ⟨d,h4,h3⟩
 simp only [List.length_map] at h2
 have:=h.few
 omega
theorem col_ok {M : List Cl} (h : Rt M) (d : Int) : ∀ k < (idsC M d).length,(∀ s ∈ (cellAt (tabC M) ((idsC M d).getD k 0)).sides,s.sign = 1 ∨ s.sign = -1) ∧ (cellAt (tabC M) ((idsC M d).getD k 0)).sides.length < 1099511627776:=fun k hk=>by
 obtain ⟨h1,-,-⟩:=cellAt_mem h (getD_mem hk)
 exact ⟨(h.form _ h1).sg,sides_few h h1⟩
def matE (M : List Cl) (d : Int) : List Int:=(matTo (tabC M) (idsC M (d - 1)) (idsC M d) (idsC M d).length).flatten
theorem matE_get {M : List Cl} (h : Rt M) {d : Int} {i k : Nat} (hi : i < (idsC M (d - 1)).length) (hk : k < (idsC M d).length) : (matE M d).getD (i * (idsC M d).length + k) 0 = en (cellAt (tabC M) ((idsC M d).getD k 0)).sides ((idsC M (d - 1)).getD i 0):=by
 have hs:=matTo_shape (tabC M) (idsC M (d - 1)) (idsC M d) (idsC M d).length
 unfold matE
 rw [flat_ent (fun r hr=>(hs.2 r hr).1) (by rw [hs.1]; exact hi) hk,ent_matTo (ids_asc M (d - 1)) (col_ok h d) hi hk _ (lR _),if_pos hk]
theorem matE_le {M : List Cl} (h : Rt M) (d : Int) : ∀ n ∈ matE M d,n.natAbs ≤ 1:=fun n hn=>by
 have hs:=matTo_shape (tabC M) (idsC M (d - 1)) (idsC M d) (idsC M d).length
 obtain ⟨i,k,hi,hk,rfl⟩:=flat_mem (fun r hr=>(hs.2 r hr).1) hn
 rw [hs.1] at hi
 rw [ent_matTo (ids_asc M (d - 1)) (col_ok h d) hi hk _ (lR _),if_pos hk]
 obtain ⟨h1,-,-⟩:=cellAt_mem h (getD_mem hk)
 exact en_le (h.form _ h1).asc (h.form _ h1).sg _
theorem matE_len (M : List Cl) (d : Int) : (matE M d).length = (idsC M (d - 1)).length * (idsC M d).length:=by
 have hs:=matTo_shape (tabC M) (idsC M (d - 1)) (idsC M d) (idsC M d).length
 unfold matE
 rw [flat_len fun r hr=>(hs.2 r hr).1,hs.1]
theorem matRes_eq {M : List Cl} (hf : M.length ≤ 200) (ht : tabC M = M) (d : Int) : matRes (tabC M) (idsC M (d - 1)) (idsC M d) = ((idsC M (d - 1)).length,(idsC M d).length,matE M d):=by
 have h1:=ids_le M (d - 1)
 have h2:=ids_le M d
 rw [ht] at h1 h2
 have h3:=matE_len M d
 unfold matRes
 rw [if_neg (by simp; omega)]
 split
 ·rename_i h0
  rw [h0,Nat.zero_mul] at h3
  rw [List.eq_nil_of_length_eq_zero h3,h0]
 ·rfl
theorem inner_sum (x : Side) (q : List Side) (r : Int) : (q.map fun t=>if t.cell = r then x.sign * t.sign else 0).sum = x.sign * en q r:=by
 induction q with
 | nil=>simp [en]
 | cons a q ih =>
  rw [List.map_cons,List.sum_cons,ih,en_cons,Int.mul_add]
  split <;> simp
theorem sumR_en (tl : List Cl) (l : List Side) (r : Int) : sumR tl l r = (l.map fun x=>x.sign * en (sidesOf tl x) r).sum:=by
 unfold sumR
 induction l with
 | nil=>rfl
 | cons a l ih=>rw [List.flatMap_cons,List.sum_append,ih,inner_sum,List.map_cons,List.sum_cons]
theorem bound_zero {M : List Cl} (h : Rt M) {c : Cl} (hc : c ∈ M) (hd : c.dim > 1) (r : Int) : sumR (tabC M) c.sides r = 0:=by
 rw [h.tab]
 rcases Nat.eq_zero_or_pos c.sides.length with h0 | h0
 ·rw [List.eq_nil_of_length_eq_zero h0]; rfl
 ·have hnd : (c.sides.map Side.cell).Nodup:=by
   rw [List.Nodup,List.pairwise_map]
   exact (h.form c hc).asc.imp fun h=>by omega
  exact ((around_iff h0 hnd).1 (h.around c hc hd)).1 r
theorem dot_zero {M : List Cl} (h : Rt M) (d : Int) {i j : Nat} (hi : i < (idsC M (d - 1)).length) (hj : j < (idsC M (d + 1)).length) : dot (matE M d) (matE M (d + 1)) (idsC M d).length (idsC M (d + 1)).length i j (idsC M d).length = 0:=by
 obtain ⟨hc,hcd,-⟩:=cellAt_mem h (getD_mem hj)
 obtain ⟨ha,had,-⟩:=cellAt_mem h (getD_mem hi)
 have hge:=(h.form _ ha).dim.1
 have hb:=bound_zero h hc oM ((idsC M (d - 1)).getD i 0)
 have hsides : ∀ s ∈ (cellAt (tabC M) ((idsC M (d + 1)).getD j 0)).sides,s.cell ∈ idsC M d:=fun s hs=>by
  obtain ⟨e,he,hed⟩:=(h.form _ hc).found s hs
  unfold findT at he
  have h3:=List.find?_some he
  have h4:=List.mem_of_find?_eq_some he
  simp only [decide_eq_true_eq] at h3
  unfold idsC
  rw [h.tab]
  exact List.mem_map.2 ⟨e,List.mem_filter.2 ⟨h4,by simp only [decide_eq_true_eq]; omega⟩,h3⟩
 rw [sumR_en] at hb
 rw [dot_sum]
 have h1 : ∀ k ∈ List.range (idsC M d).length,(matE M d).getD (i * (idsC M d).length + k) 0 * (matE M (d + 1)).getD (k * (idsC M (d + 1)).length + j) 0 = (fun y=>en (cellAt (tabC M) y).sides ((idsC M (d - 1)).getD i 0) * en (cellAt (tabC M) ((idsC M (d + 1)).getD j 0)).sides y) ((idsC M d).getD k 0):=fun k hk=>by
  have hk:=List.mem_range.1 hk
  have e : idsC M (d + 1 - 1) = idsC M d:=by rw [show d + 1 - 1 = d by omega]
  have:=matE_get h (d:=d + 1) (i:=k) (k:=j) (by rw [e]; exact hk) hj
  rw [e] at this
  rw [matE_get h hi hk,this]
 rw [List.map_congr_left h1,range_map (l:=idsC M d) (fun y=>en (cellAt (tabC M) y).sides ((idsC M (d - 1)).getD i 0) * en (cellAt (tabC M) ((idsC M (d + 1)).getD j 0)).sides y)]
 generalize (idsC M (d - 1)).getD i 0 = x at *
 generalize (cellAt (tabC M) ((idsC M (d + 1)).getD j 0)).sides = S at *
 have h2 : ∀ y ∈ idsC M d,en (cellAt (tabC M) y).sides x * en S y = (S.map fun s=>if s.cell = y then s.sign * en (cellAt (tabC M) y).sides x else 0).sum:=fun y _=>by
  clear hb hsides h1
  induction S with
  | nil=>simp [en]
  | cons a S ih =>
   rw [en_cons,Int.mul_add,ih,List.map_cons,List.sum_cons]
   split
   ·rw [Int.mul_comm]
   ·simp
 rw [List.map_congr_left h2,sum_cross]
 have h3 : ∀ s ∈ S,((idsC M d).map fun y=>if s.cell = y then s.sign * en (cellAt (tabC M) y).sides x else 0).sum = s.sign * en (sidesOf (tabC M) s) x:=fun s hs=>sum_one (ids_nodup M d) (hsides s hs) (fun y=>s.sign * en (cellAt (tabC M) y).sides x)
 rw [List.map_congr_left h3]
 exact hb
end Go.Proofs.YtkdibcicncjpdaaGreatDoor
