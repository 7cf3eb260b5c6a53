/- Spo2 Frm Uni1 Uni2 Uni3 Rgt1 Rgt2 -/
import Derived.Test.YtkdibcicncjpdaaGreatPd12
import Derived.Test.YtkdibcicncjpdaaGreatPd08
import Derived.Test.YtkdibcicncjpdaaGreatRows
import Derived.WalkKit
import Derived.ProofKit
import Derived.OpenShut
import Derived.ShutString
import Derived.ChangeOld
import Derived.Below
import Derived.Deep.Slices
import Derived.Lib.SmallJoins
import Derived.Laws.IdiomArrays
import Derived.Test.YtkdibcicncjpdaaGreatPd05
import Derived.Test.YtkdibcicncjpdaaGreatPd06
import Derived.Test.YtkdibcicncjpdaaGreatPd11
import Derived.Test.YtkdibcicncjpdaaGreatPd10
set_option linter.unusedSimpArgs false
set_option linter.unusedVariables false
namespace Go.Proofs.YtkdibcicncjpdaaGreat
open _root_.Go.Proofs.Tryz _root_.Go.Proofs.YtkdibcicncjpdaaGreat.Tryz
open Go Go.Sy Go.Pl Go.Proofs
set_option maxRecDepth 100000
set_option maxHeartbeats 2000000
theorem SC.freezeBut' {P : Program} {N : Nat} {E : World} {Q : Exit → Act → World → Prop} {f : Fr} {g : PH} {s : Own} {o : Code} {R S : Ent} {l A B : List Cl} {rs RA RB : List Rc} {x : Cl} {rx : Rc} (hl : l = A ++ x :: B) (hr : rs = RA ++ rx :: RB) (h1 : All2 CellO A RA) (h2 : All2 CellO B RB)
  (h : ∀ g', Le g g' → All2 (CellR g') A RA → All2 (CellR g') B RB → SC P N E o Q f g' (R :: ownC x rx :: S :: s)) : SC P N E o Q f g (S :: R :: (ownS l rs ++ s)) := by
 subst hl
 subst hr
 exact SC.freezeBut h1 h2 h
theorem All2.eraseIdx {α β : Type} {R : α → β → Prop} : ∀ {l : List α} {rs : List β} (k : Nat), All2 R l rs → All2 R (l.eraseIdx k) (rs.eraseIdx k)
 | [], [], _, _ => trivial
 | _ :: _, _ :: _, 0, h => h.2
 | _ :: _, _ :: _, k + 1, h => ⟨h.1, All2.eraseIdx k h.2⟩
 | [], _ :: _, _, h => h.elim
 | _ :: _, [], _, h => h.elim
def negTo (l : List Side) (i : Nat) : List Side := (l.take i).map negS ++ l.drop i
theorem negTo_length (l : List Side) (i : Nat) (h : i ≤ l.length) : (negTo l i).length = l.length := by simp [negTo]; omega
theorem negTo_get {l : List Side} {i : Nat} (h : i < l.length) : (negTo l i)[i]? = some l[i] := by
 unfold negTo
 have h1 : l.drop i = l[i] :: l.drop (i + 1) := List.drop_eq_getElem_cons h
 rw [h1]
 exact getMid (by simp; omega)
theorem negTo_set {l : List Side} {i : Nat} (h : i < l.length) : (negTo l i).set i (negS l[i]) = negTo l (i + 1) := by
 unfold negTo
 have h1 : l.drop i = l[i] :: l.drop (i + 1) := List.drop_eq_getElem_cons h
 have h2 : l.take (i + 1) = l.take i ++ [l[i]] := List.take_succ_eq_append_getElem h
 rw [h2, h1, List.map_append, setMid (by simp; omega), List.append_assoc]
 rfl
theorem spoiled_spec (E : World) (g : PH) (s : Own) (v : Value) (l : List Cl) (q0 q1 q2 : Int) (hv : Cells g v l) (hf : Fits l) :
  Ctr Tryz.prog E 16 #[.agg #[v], .agg #[vi q0, vi q1, vi q2]] g s (fun r g' s' => s = s' ∧ Le g g' ∧ ∃ x, r = .agg #[x] ∧ Cells g' x (spoilC l q0 q1 q2)) := by
 obtain ⟨p, c, rfl⟩ := hv.form
 have hll := hf.1
 refine Ctr.of (args := [.agg #[.slice p l.length c], .agg #[vi q0, vi q1, vi q2]]) func16 rfl ntmps16 (Nat.le_of_ble_eq_true rfl) ?_
 refine SC.seq (SC.region (SL.W (SO.box rfl) ?_))
 rintro _ _ _ ⟨b2, rfl, rfl, rfl⟩
 refine SL.W (SO.box rfl) ?_
 rintro _ _ _ ⟨b3, rfl, rfl, rfl⟩
 refine SL.W (SO.alloc zeroValue27) ?_
 rintro _ _ _ ⟨b4, rfl, rfl, rfl⟩
 refine SL.nil (ST.thenN (SC.seq (SC.region (SL.K (SQ.loadVarK 2 isAgg27 sizeOf27 rfl rfl rfl) (SL.W (SO.call call33 rfl (copy_own E g _ _ l hv hf)) ?_)))))
 rintro _ _ _ ⟨rfl, u, rs, rfl, hO, rfl⟩
 have el := hO.length
 refine SL.facts fun ⟨w0, hw0⟩ => ?_
 obtain ⟨q, d, rfl⟩ := rowA_form (i := 0) hw0 rfl
 clear hw0 w0
 refine SL.W (SO.alloc zeroValue27) ?_
 rintro _ _ _ ⟨b5, rfl, rfl, rfl⟩
 refine SL.on (SO.storeAllK 0 sizeOf27 rfl rfl rfl rfl rfl (by exact ⟨rfl, trivial⟩)) ?_
 rintro _ _ _ ⟨rfl, rfl⟩
 refine SL.nil (ST.thenN (SC.seq (SC.seq ?_)))
 refine SC.to (fun w hw => hw) (g' := g) (s' := pt b5 (.cells #[.slice q rs.length d] 27 (0, 0)) :: rowA encCell 51 (.slice q rs.length d) rs :: (ownS l rs ++ (pt b4 (.cells #[.slice none 0 0] 27 (0, 0)) :: pt b3 (.cells #[vi q0, vi q1, vi q2] 34 (0, 0)) :: pt b2 (.cells #[.slice p l.length c] 27 (0, 0)) :: s))) ?_
 refine SC.region (SL.U (SU.fieldAddr underlying27 rfl sizeOf25 rfl) (SL.K (SQ.load (v := .slice q rs.length d) isAgg25 rfl (CellAt.own 0 rfl rfl)) (SL.U (SU.lenN underlying25 rfl) (SL.U (SU.eql rfl rfl) (SL.nil (ST.thenN ?_))))))
 refine SC.ifP rfl (fun h0 => ?_) (fun h0 => ?_)
 ·have hl0 : l = [] := List.eq_nil_of_length_eq_zero oM
  subst hl0
  have hr0 : rs = [] := List.eq_nil_of_length_eq_zero oM
  subst hr0
  refine SC.seq ?_
  refine SC.to (fun w hw => hw) (g' := g) (s' := pt b5 (.cells #[.slice q 0 d] 27 (0, 0)) :: rowA encCell 51 (.slice q 0 d) [] :: (pt b4 (.cells #[.slice none 0 0] 27 (0, 0)) :: pt b3 (.cells #[vi q0, vi q1, vi q2] 34 (0, 0)) :: pt b2 (.cells #[.slice p ([] : List Cl).length c] 27 (0, 0)) :: s)) ?_
  refine SC.region (SL.U (SU.indexAddrA underlying34 sizeOf3 rfl rfl dC dC) (SL.K (SQ.load (v := vi q1) isAgg3 rfl (CellAt.own 3 rfl rfl)) (SL.U (SU.build rfl (buildD51 _)) (SL.W (SO.buildSlice sty25 rfl rfl rfl (szs_mk ⟨rfl, trivial⟩) dC) ?_))))
  rintro _ _ _ ⟨b21, rfl, rfl, rfl⟩
  refine SL.freeze fun g1 hle1 hb21 => ?_
  refine SL.U (SU.build rfl (build27 _ rfl)) (SL.on (SO.storeAllK 2 sizeOf27 rfl rfl rfl rfl rfl (by exact ⟨rfl, trivial⟩)) ?_)
  rintro _ _ _ ⟨rfl, rfl⟩
  refine SL.nil (ST.thenN (SC.ret (ST.thenR ?_)))
  exact ST.retCD 2 s (.inl rfl) results16 rfl isAgg27 sizeOf27 rfl rfl (.cons _ (.cons _ (.cons _ (.cons _ (.cons _ (.refl _)))))) ⟨rfl, hle1, _, rfl, [⟨q1, 0, ⟨none, 0, 0⟩⟩], SlA.lit hb21 rfl rfl, ⟨rfl, rfl, Sl.nil _ _⟩, trivial⟩
 ·have hpos : 0 < l.length := oM
  obtain ⟨hk1, hk2⟩ := modW_nat q1 l.length hpos oM
  have hsp0 : spoilC l q0 q1 q2 = spoilM (modW q0 13) l (modW q1 l.length).toNat (pickC l q1) q2 (sideJ (pickC l q1) q2) := by unfold spoilC; rw [if_neg oM]
  rw [hsp0]
  obtain ⟨A, x, B, RA, rx, RB, hl, hr, hA, hRA, hOA, hOx, hOB⟩ := All2.split hO hk2
  have hpx : pickC l q1 = x := by
   unfold pickC
   rw [List.getD_eq_getElem?_getD, hl] at *
   rw [getMid hA]
   rfl
  rw [hpx]
  have hmk : modW q1 (rs.length : Int) = (((modW q1 l.length).toNat : Nat) : Int) := by rw [← el]; exact hk1
  generalize (modW q1 l.length).toNat = k at *
  obtain ⟨xi, xd, xp, xn, xc⟩ := rx
  obtain ⟨e1, e2, e3⟩ := hOx
  dsimp only at e1 e2 e3
  subst e1
  subst e2
  subst e3
  have hgr : rs[k]? = some (⟨x.id, x.dim, ⟨xp, x.sides.length, xc⟩⟩ : Rc) := by rw [hr]; exact getMid hRA
  have hkr : k < rs.length := oM
  have hxl : x.sides.length < 1099511627776 := hf.2 x (by rw [hl]; simp)
  refine SC.freezeBut' hl hr hOA hOB fun g1 hle1 hAR hBR => ?_
  refine SC.facts fun ⟨w0, hw0⟩ => ?_
  obtain ⟨bu, cap, hbu⟩ := rowA_based (i := 0) hw0 rfl oM
  obtain ⟨rfl, rfl⟩ : q = some ⟨bu, 0, none⟩ ∧ d = cap := by injection hbu with h1 _ h2; exact ⟨h1, h2⟩
  clear hw0 w0 hbu
  have hdc : d = d := rfl
  refine SC.to (fun w hw => hw) (g' := g1) (s' := rowA encCell 51 (.slice (some ⟨bu, 0, none⟩) rs.length d) rs :: rowA encSide 55 (.slice xp x.sides.length xc) x.sides :: pt b5 (.cells #[(.slice (some ⟨bu, 0, none⟩) rs.length d)] 27 (0, 0)) :: pt b4 (.cells #[.slice none 0 0] 27 (0, 0)) :: pt b3 (.cells #[vi q0, vi q1, vi q2] 34 (0, 0)) :: pt b2 (.cells #[.slice p l.length c] 27 (0, 0)) :: s) ?_
  obtain ⟨cap, hcap⟩ : ∃ cap, cap = d := ⟨_, rfl⟩
  rw [← hcap]
  have hfin : ∀ g' x' r', Le g1 g' → CellR g' x' r' → All2 (CellR g') (l.set k x') (rs.set k r') := fun g' x' r' hle hx' => by
   rw [hl, hr, setMid hA, setMid hRA]
   exact (hAR.mono fun _ _ => CellR.mono hle).append ⟨hx', hBR.mono fun _ _ => CellR.mono hle⟩
  have hfin0 : ∀ g' x', Le g1 g' → CellR g' x' (⟨x.id, x.dim, ⟨xp, x.sides.length, xc⟩⟩ : Rc) → All2 (CellR g') (l.set k x') rs := fun g' x' hle hx' => by
   rw [hl, hr, setMid hA]
   exact (hAR.mono fun _ _ => CellR.mono hle).append ⟨hx', hBR.mono fun _ _ => CellR.mono hle⟩
  have hfinA : ∀ g', Le g1 g' → CellR g' x (⟨x.id, x.dim, ⟨xp, x.sides.length, xc⟩⟩ : Rc) → All2 (CellR g') l rs := fun g' hle hx' => by
   rw [hl, hr]
   exact (hAR.mono fun _ _ => CellR.mono hle).append ⟨hx', hBR.mono fun _ _ => CellR.mono hle⟩
  have hpick : ∀ y : Int, ∃ (kk : Nat) (yi yd : Int) (yp : Option Addr) (yc : Nat), modW y (rs.length : Int) = ((kk : Nat) : Int) ∧ kk < rs.length ∧ rs[kk]? = some ⟨yi, yd, ⟨yp, (pickC l y).sides.length, yc⟩⟩ ∧ yi = (pickC l y).id ∧ (pickC l y).sides.length < 1099511627776 ∧
    (((pickC l y) = x ∧ yp = xp ∧ yc = xc) ∨ SlA encSide g1 (.slice yp (pickC l y).sides.length yc) (pickC l y).sides) := fun y => by
   obtain ⟨h1, h2⟩ := modW_nat y l.length hpos oM
   have hg : l[(modW y l.length).toNat]? = some (pickC l y) := by
    unfold pickC
    rw [List.getD_eq_getElem?_getD, List.getElem?_eq_getElem h2]
    rfl
   rw [el] at h1
   refine ⟨(modW y l.length).toNat, ?_⟩
   rw [el] at *
   generalize (modW y rs.length).toNat = kk at *
   generalize pickC l y = cy at *
   have hm : cy ∈ l := List.mem_of_getElem? hg
   obtain ⟨ry, hry⟩ : ∃ ry, rs[kk]? = some ry := ⟨_, List.getElem?_eq_getElem h2⟩
   have hoy := hO.get hg hry
   obtain ⟨yi, yd, yp, yn, yc⟩ := ry
   obtain ⟨f1, f2, f3⟩ := hoy
   dsimp only at f1 f2 f3
   subst f3
   refine ⟨yi, yd, yp, yc, h1, h2, hry, f1, hf.2 _ hm, ?_⟩
   rw [hl] at hg
   rw [hr] at hry
   by_cases hlt : kk < k
   ·rw [List.getElem?_append_left oM] at hg hry
    exact .inr (hAR.get hg hry).2.2
   ·rw [List.getElem?_append_right oM] at hg hry
    rw [hA] at hg
    rw [hRA] at hry
    cases hd : kk - k with
    | zero =>
     rw [hd] at hg hry
     simp at hg hry
     exact .inl ⟨hg.symm, hry.2.2.1.symm, hry.2.2.2.2.symm⟩
    | succ t =>
     rw [hd] at hg hry
     simp at hg hry
     exact .inr (hBR.get hg hry).2.2
  clear hO hpx hsp0 hdc
  have hj1 : 0 < x.sides.length → modW q2 (x.sides.length : Int) = ((((sideJ x q2) : Nat)) : Int) ∧ (sideJ x q2) < x.sides.length := fun h => by
   unfold sideJ
   rw [if_pos h]
   exact modW_nat q2 x.sides.length h oM
  refine SC.skip (ST.thenN (SC.seq (SC.region (SL.U (SU.indexAddrA underlying34 sizeOf3 rfl rfl dC dC) (SL.K (SQ.load (v := vi q1) isAgg3 rfl (CellAt.own 4 rfl rfl)) (SL.U (SU.fieldAddr underlying27 rfl sizeOf25 rfl) (SL.K (SQ.load (v := (.slice (some ⟨bu, 0, none⟩) rs.length cap)) isAgg25 rfl (CellAt.own 2 rfl rfl)) (SL.U (SU.lenN underlying25 rfl) (SL.W (SO.call call38 rfl (mod_spec E g1 _ q1 rs.length oM)) ?_)))))))))
  rintro _ _ _ ⟨rfl, rfl, rfl⟩
  rw [hmk]
  refine SL.A rfl (SL.nil (ST.thenN (SC.seq (SC.region (SL.U (SU.fieldAddr underlying27 rfl sizeOf25 rfl) (SL.K (SQ.load (v := (.slice (some ⟨bu, 0, none⟩) rs.length cap)) isAgg25 rfl (CellAt.own 2 rfl rfl)) (SL.M rfl (SL.U (SU.indexAddr underlying25 sizeOf51 rfl rfl rfl oM sL) (SL.A rfl (SL.nil (ST.thenN (SC.seq (SC.region (SL.U (SU.indexAddrA underlying34 sizeOf3 rfl rfl dC dC) (SL.K (SQ.load (v := vi q2) isAgg3 rfl (CellAt.own 4 rfl rfl)) (SL.A rfl (SL.nil (ST.thenN (SC.seq (SC.region (SL.A rfl (SL.nil (ST.thenN ?_)))))))))))))))))))))))
  refine SC.cut (ι := Unit) (fun _ => [(2, pp b2 0), (3, pp b3 0), (4, pp b4 0), (5, pp b5 0), (6, vi (k : Nat)), (7, cptr (.slice (some ⟨bu, 0, none⟩) rs.length cap) (k * 3)), (8, vi q2), (9, vi ((sideJ x q2) : Nat))]) (fun _ => g1) (fun _ => rowA encCell 51 (.slice (some ⟨bu, 0, none⟩) rs.length cap) rs :: rowA encSide 55 (.slice xp x.sides.length xc) x.sides :: pt b5 (.cells #[(.slice (some ⟨bu, 0, none⟩) rs.length cap)] 27 (0, 0)) :: pt b4 (.cells #[.slice none 0 0] 27 (0, 0)) :: pt b3 (.cells #[vi q0, vi q1, vi q2] 34 (0, 0)) :: pt b2 (.cells #[.slice p l.length c] 27 (0, 0)) :: s) (fun _ => True) ?_ ?_
  ·refine SC.seq (SC.region (SL.M rfl (SL.U (SU.nilCheck rfl) (SL.U (SU.fieldAddr underlying51 rfl sizeOf49 rfl) (SL.K (SQ.partA (e := encCell) (a := (⟨x.id, x.dim, ⟨xp, x.sides.length, xc⟩⟩ : Rc)) (j := k) (o := 2) (u := (.slice xp x.sides.length xc)) isAgg49 rfl (Rd.rowA 0 rfl) hgr rfl) (SL.U (SU.lenN underlying49 rfl) (SL.U (SU.gtr rfl rfl) (SL.nil (ST.thenN ?_)))))))))
   refine SC.ifP rfl (fun hsp => ?_) (fun hsp => ?_)
   ·refine SC.region (SL.M rfl (SL.M rfl (SL.U (SU.nilCheck rfl) (SL.U (SU.fieldAddr underlying51 rfl sizeOf49 rfl) (SL.K (SQ.partA (e := encCell) (a := (⟨x.id, x.dim, ⟨xp, x.sides.length, xc⟩⟩ : Rc)) (j := k) (o := 2) (u := (.slice xp x.sides.length xc)) isAgg49 rfl (Rd.rowA 0 rfl) hgr rfl) (SL.U (SU.lenN underlying49 rfl) (SL.W (SO.call call38 rfl (mod_spec E g1 _ q2 x.sides.length oM)) ?_)))))))
    rintro _ _ _ ⟨rfl, rfl, rfl⟩
    rw [(hj1 oM).1]
    refine SL.A rfl (SL.nil ?_)
    exact ST.mid () ⟨rfl, rfl, rfl, rfl, rfl, rfl, rfl, rfl, trivial⟩ rfl rfl trivial
   ·have hj0 : (sideJ x q2) = 0 := by unfold sideJ; rw [if_neg oM]
    rw [hj0]
    refine SC.skip ?_
    exact ST.mid () ⟨rfl, rfl, rfl, rfl, rfl, rfl, rfl, rfl, trivial⟩ rfl rfl trivial
  rintro ⟨⟩ -
  try dsimp only
  have hm13 := modW_range q0 13 dC dC
  have hj2 : ∀ h : 0 < x.sides.length, x.sides[(sideJ x q2)]? = some (x.sides.getD (sideJ x q2) dflS) := fun h => by
   rw [List.getD_eq_getElem?_getD, List.getElem?_eq_getElem (hj1 h).2]; rfl
  have hnil : ¬ (x.sides.length : Int) > 0 → x.sides = [] := fun h => List.eq_nil_of_length_eq_zero oM
  refine SC.cut (ι := PH × Value) (fun _ => [(2, pp b2 0), (4, pp b4 0), (5, pp b5 0)]) (fun i => i.1) (fun i => pt b5 (.cells #[i.2] 27 (0, 0)) :: pt b4 (.cells #[.slice none 0 0] 27 (0, 0)) :: pt b3 (.cells #[vi q0, vi q1, vi q2] 34 (0, 0)) :: pt b2 (.cells #[.slice p l.length c] 27 (0, 0)) :: s) (fun i => Le g1 i.1 ∧ Cells i.1 i.2 (spoilM (modW q0 13) l k x q2 (sideJ x q2))) ?_ ?_
  ·rcases (by omega : modW q0 13 = 0 ∨ modW q0 13 = 1 ∨ modW q0 13 = 2 ∨ modW q0 13 = 3 ∨ modW q0 13 = 4 ∨ modW q0 13 = 5 ∨ modW q0 13 = 6 ∨ modW q0 13 = 7 ∨ modW q0 13 = 8 ∨ modW q0 13 = 9 ∨ modW q0 13 = 10 ∨ modW q0 13 = 11 ∨ modW q0 13 = 12) with hm | hm | hm | hm | hm | hm | hm | hm | hm | hm | hm | hm | hm
   ·have hr9 := modW_range q2 9 dC dC
    refine SC.seq (SC.region (SL.U (SU.indexAddrA underlying34 sizeOf3 rfl rfl dC dC) (SL.K (SQ.load (v := vi q0) isAgg3 rfl (CellAt.own 4 rfl rfl)) (SL.W (SO.call call38 rfl (mod_spec E g1 _ q0 13 dC)) ?_))))
    rintro _ _ _ ⟨rfl, rfl, rfl⟩
    rw [hm]
    refine SL.nil (ST.thenN (SC.block (SC.seq (SC.region (SL.U (SU.eql rfl rfl) (SL.A rfl (SL.nil (ST.thenN (SC.condT rfl (SC.region (SL.M rfl (SL.M rfl (SL.W (SO.call call38 rfl (mod_spec E g1 _ q2 9 dC)) ?_)))))))))))))
    rintro _ _ _ ⟨rfl, rfl, rfl⟩
    refine SL.U (SU.sub rfl rfl oM) (SL.U (SU.nilCheck rfl) (SL.U (SU.fieldAddr underlying51 rfl sizeOf3 rfl) (SL.on (SO.partA (e := encCell) (a := (⟨x.id, x.dim, ⟨xp, x.sides.length, xc⟩⟩ : Rc)) (j := k) (o := 0) 0 ⟨modW q2 9 - 1, x.dim, ⟨xp, x.sides.length, xc⟩⟩ sizeOf3 rfl rfl rfl hgr rfl rfl dC rfl) ?_)))
    rintro _ _ _ ⟨rfl, rfl⟩
    refine SL.nil (ST.blockN (ST.freezeRow fun ga hlea hsa => ?_))
    refine ST.freezeRow fun gb hleb hsb => ?_
    exact ST.mid (gb, (.slice (some ⟨bu, 0, none⟩) rs.length cap)) ⟨rfl, rfl, rfl, trivial⟩ rfl rfl ⟨hlea.trans hleb, _, SlA.mono (e := encCell) hsa hleb, hfin gb _ _ (hlea.trans hleb) ⟨rfl, rfl, hsb⟩⟩
   ·have hr12 := modW_range q2 12 dC dC
    refine SC.seq (SC.region (SL.U (SU.indexAddrA underlying34 sizeOf3 rfl rfl dC dC) (SL.K (SQ.load (v := vi q0) isAgg3 rfl (CellAt.own 4 rfl rfl)) (SL.W (SO.call call38 rfl (mod_spec E g1 _ q0 13 dC)) ?_))))
    rintro _ _ _ ⟨rfl, rfl, rfl⟩
    rw [hm]
    refine SL.nil (ST.thenN (SC.block (SC.seq (SC.region (SL.U (SU.eql rfl rfl) (SL.A rfl (SL.nil (ST.thenN (SC.condF rfl (SC.seq (SC.region (SL.U (SU.eql rfl rfl) (SL.A rfl (SL.nil (ST.thenN (SC.condT rfl (SC.region (SL.M rfl (SL.M rfl (SL.W (SO.call call38 rfl (mod_spec E g1 _ q2 12 dC)) ?_))))))))))))))))))))
    rintro _ _ _ ⟨rfl, rfl, rfl⟩
    refine SL.U (SU.sub rfl rfl oM) (SL.U (SU.nilCheck rfl) (SL.U (SU.fieldAddr underlying51 rfl sizeOf3 rfl) (SL.on (SO.partA (e := encCell) (a := (⟨x.id, x.dim, ⟨xp, x.sides.length, xc⟩⟩ : Rc)) (j := k) (o := 1) 0 ⟨x.id, modW q2 12 - 1, ⟨xp, x.sides.length, xc⟩⟩ sizeOf3 rfl rfl rfl hgr rfl rfl dC rfl) ?_)))
    rintro _ _ _ ⟨rfl, rfl⟩
    refine SL.nil (ST.blockN (ST.freezeRow fun ga hlea hsa => ?_))
    refine ST.freezeRow fun gb hleb hsb => ?_
    exact ST.mid (gb, (.slice (some ⟨bu, 0, none⟩) rs.length cap)) ⟨rfl, rfl, rfl, trivial⟩ rfl rfl ⟨hlea.trans hleb, _, SlA.mono (e := encCell) hsa hleb, hfin gb _ _ (hlea.trans hleb) ⟨rfl, rfl, hsb⟩⟩
   ·refine SC.facts fun ⟨w0, hw0⟩ => ?_
    have hcapr : rs.length ≤ cap := (by obtain ⟨_, _, _, h1, h2⟩ := row_cap (i := 0) hw0 rfl (by omega : 0 < rs.length); omega)
    clear hw0 w0
    refine SC.seq (SC.region (SL.U (SU.indexAddrA underlying34 sizeOf3 rfl rfl dC dC) (SL.K (SQ.load (v := vi q0) isAgg3 rfl (CellAt.own 4 rfl rfl)) (SL.W (SO.call call38 rfl (mod_spec E g1 _ q0 13 dC)) ?_))))
    rintro _ _ _ ⟨rfl, rfl, rfl⟩
    rw [hm]
    refine SL.nil (ST.thenN (SC.block (SC.seq (SC.region (SL.U (SU.eql rfl rfl) (SL.A rfl (SL.nil (ST.thenN (SC.condF rfl (SC.seq (SC.region (SL.U (SU.eql rfl rfl) (SL.A rfl (SL.nil (ST.thenN (SC.condF rfl (SC.seq (SC.region (SL.U (SU.eql rfl rfl) (SL.A rfl (SL.nil (ST.thenN (SC.condT rfl ?_)))))))))))))))))))))))
    refine SC.draw [9, 10, 11] [(0, 2), (1, 1), (2, 2), (3, 2), (4, 2), (5, 1), (6, 2), (7, 2), (8, 2), (9, 0), (10, 0), (11, 0)] Tryz.mixed (by kernel_rfl) ?_
    refine SP.U (i := 0) rfl (SU.fieldAddr underlying27 rfl sizeOf25 rfl) (SP.K (i := 1) rfl (SQ.load (v := (.slice (some ⟨bu, 0, none⟩) rs.length cap)) isAgg25 rfl (CellAt.own 2 rfl rfl)) (SP.U (i := 2) rfl (SU.move rfl) (SP.U (i := 3) rfl (SU.sliceH underlying25 sizeOf51 rfl rfl oM oM) (SP.U (i := 4) rfl (SU.fieldAddr underlying27 rfl sizeOf25 rfl) (SP.K (i := 5) rfl (SQ.load (v := (.slice (some ⟨bu, 0, none⟩) rs.length cap)) isAgg25 rfl (CellAt.own 2 rfl rfl)) (SP.U (i := 6) rfl (SU.move rfl) (SP.U (i := 7) rfl (SU.add rfl rfl oM) (SP.U (i := 8) rfl (SU.eq (v' := sliced (some ⟨bu, 0, none⟩) (k + 1) rs.length cap 3) (SU.sliceL underlying25 sizeOf51 rfl rfl oM oM) (by rw [show ((k : Int) + 1).toNat = k + 1 by omega])) ?_))))))))
    refine SP.o (i := 9) rfl (SO.cutA (j := k) (n := rs.length) (c := cap) (p := some ⟨bu, 0, none⟩) (e := encCell) 0 sty25 rfl rfl rfl rfl hkr) dC (.inl dC) ?_
    rintro _ _ _ ⟨rfl, rfl, rfl⟩
    refine SP.ou (i := 10) rfl (SU.fieldAddr underlying27 rfl sizeOf25 rfl) dC (.inl dC) (SP.on (i := 11) rfl (SO.storeAllK 2 sizeOf25 rfl rfl rfl rfl rfl (by exact ⟨rfl, trivial⟩)) (.inl dC) ?_)
    rintro _ _ _ ⟨rfl, rfl⟩
    refine SP.nil (ST.blockN (ST.freezeRow fun ga hlea hsa => ?_))
    refine ST.freezeRow fun gb hleb hsb => ?_
    exact ST.mid (gb, (.slice (some ⟨bu, 0, none⟩) (rs.length - 1) cap)) ⟨rfl, rfl, rfl, trivial⟩ rfl rfl ⟨hlea.trans hleb, _, SlA.mono (e := encCell) hsa hleb, All2.eraseIdx k (hfinA gb (hlea.trans hleb) ⟨rfl, rfl, hsb⟩)⟩
   ·refine SC.seq (SC.region (SL.U (SU.indexAddrA underlying34 sizeOf3 rfl rfl dC dC) (SL.K (SQ.load (v := vi q0) isAgg3 rfl (CellAt.own 4 rfl rfl)) (SL.W (SO.call call38 rfl (mod_spec E g1 _ q0 13 dC)) ?_))))
    rintro _ _ _ ⟨rfl, rfl, rfl⟩
    rw [hm]
    refine SL.nil (ST.thenN (SC.block (SC.seq (SC.region (SL.U (SU.eql rfl rfl) (SL.A rfl (SL.nil (ST.thenN (SC.condF rfl (SC.seq (SC.region (SL.U (SU.eql rfl rfl) (SL.A rfl (SL.nil (ST.thenN (SC.condF rfl (SC.seq (SC.region (SL.U (SU.eql rfl rfl) (SL.A rfl (SL.nil (ST.thenN (SC.condF rfl (SC.seq (SC.region (SL.U (SU.eql rfl rfl) (SL.A rfl (SL.nil (ST.thenN ?_)))))))))))))))))))))))))))))
    refine SC.condT rfl (SC.seq (SC.region (SL.M rfl (SL.U (SU.nilCheck rfl) (SL.U (SU.fieldAddr underlying51 rfl sizeOf49 rfl) (SL.K (SQ.partA (e := encCell) (a := (⟨x.id, x.dim, ⟨xp, x.sides.length, xc⟩⟩ : Rc)) (j := k) (o := 2) (u := (.slice xp x.sides.length xc)) isAgg49 rfl (Rd.rowA 0 rfl) hgr rfl) (SL.U (SU.lenN underlying49 rfl) (SL.U (SU.gtr rfl rfl) (SL.nil (ST.thenN ?_))))))))))
    refine SC.ifP rfl (fun hsl => ?_) (fun hsl => ?_)
    ·refine SC.facts fun ⟨w0, hw0⟩ => ?_
     obtain ⟨bx, cx, hbx⟩ := rowA_based (i := 1) hw0 rfl oM
     obtain ⟨rfl, rfl⟩ : xp = some ⟨bx, 0, none⟩ ∧ xc = cx := by injection hbx with h1 _ h2; exact ⟨h1, h2⟩
     clear hw0 w0 hbx
     obtain ⟨hj, hjl⟩ := hj1 oM
     have hgz := hj2 oM
     have hr4 := modW_range q2 4 dC dC
     refine SC.draw [10] [(0, 2), (1, 2), (2, 2), (3, 1), (4, 2), (5, 2), (6, 0), (7, 2), (8, 2), (9, 2), (10, 0)] Tryz.mixed (by kernel_rfl) ?_
     refine SP.U (i := 0) rfl (SU.move rfl) (SP.U (i := 1) rfl (SU.nilCheck rfl) (SP.U (i := 2) rfl (SU.fieldAddr underlying51 rfl sizeOf49 rfl) (SP.K (i := 3) rfl (SQ.partA (e := encCell) (a := (⟨x.id, x.dim, ⟨some ⟨bx, 0, none⟩, x.sides.length, xc⟩⟩ : Rc)) (j := k) (o := 2) (u := (.slice (some ⟨bx, 0, none⟩) x.sides.length xc)) isAgg49 rfl (Rd.rowA 0 rfl) hgr rfl) (SP.U (i := 4) rfl (SU.move rfl) (SP.U (i := 5) rfl (SU.move rfl) (SP.o (i := 6) rfl (SO.call call38 rfl (mod_spec E g1 _ q2 4 dC)) dC (.inr (by rintro _ _ _ ⟨rfl, rfl, rfl⟩; exact ⟨by exact Le.refl _, (by exact .refl _)⟩)) ?_))))))
     rintro _ _ _ ⟨rfl, rfl, rfl⟩
     refine SP.U (i := 7) rfl (SU.sub rfl rfl oM) (SP.U (i := 8) rfl (SU.indexAddr underlying49 sizeOf55 rfl rfl rfl oM sL) (SP.U (i := 9) rfl (SU.fieldAddrC underlying55 rfl sizeOf3 rfl rfl) (SP.on (i := 10) rfl (SO.partA (e := encSide) (a := (x.sides.getD (sideJ x q2) dflS)) (j := (sideJ x q2)) (o := 1) 1 ⟨(x.sides.getD (sideJ x q2) dflS).cell, modW q2 4 - 2⟩ sizeOf3 rfl rfl rfl hgz rfl rfl dC rfl) (.inl dC) ?_)))
     rintro _ _ _ ⟨rfl, rfl⟩
     refine SP.nil (ST.blockN (ST.freezeRow fun ga hlea hsa => ?_))
     refine ST.freezeRow fun gb hleb hsb => ?_
     exact ST.mid (gb, (.slice (some ⟨bu, 0, none⟩) rs.length cap)) ⟨rfl, rfl, rfl, trivial⟩ rfl rfl ⟨hlea.trans hleb, _, SlA.mono (e := encCell) hsa hleb, hfin0 gb _ (hlea.trans hleb) ⟨rfl, rfl, hsb⟩⟩
    ·have hsn := hnil hsl
     refine SC.skip (ST.blockN (ST.freezeRow fun ga hlea hsa => ?_))
     refine ST.freezeRow fun gb hleb hsb => ?_
     exact ST.mid (gb, (.slice (some ⟨bu, 0, none⟩) rs.length cap)) ⟨rfl, rfl, rfl, trivial⟩ rfl rfl ⟨hlea.trans hleb, _, SlA.mono (e := encCell) hsa hleb, hfin0 gb _ (hlea.trans hleb) ⟨rfl, rfl, by rw [hsn] at hsb ⊢; exact hsb⟩⟩
   ·refine SC.seq (SC.region (SL.U (SU.indexAddrA underlying34 sizeOf3 rfl rfl dC dC) (SL.K (SQ.load (v := vi q0) isAgg3 rfl (CellAt.own 4 rfl rfl)) (SL.W (SO.call call38 rfl (mod_spec E g1 _ q0 13 dC)) ?_))))
    rintro _ _ _ ⟨rfl, rfl, rfl⟩
    rw [hm]
    refine SL.nil (ST.thenN (SC.block (SC.seq (SC.region (SL.U (SU.eql rfl rfl) (SL.A rfl (SL.nil (ST.thenN (SC.condF rfl (SC.seq (SC.region (SL.U (SU.eql rfl rfl) (SL.A rfl (SL.nil (ST.thenN (SC.condF rfl (SC.seq (SC.region (SL.U (SU.eql rfl rfl) (SL.A rfl (SL.nil (ST.thenN (SC.condF rfl (SC.seq (SC.region (SL.U (SU.eql rfl rfl) (SL.A rfl (SL.nil (ST.thenN ?_)))))))))))))))))))))))))))))
    refine SC.condF rfl (SC.seq (SC.region (SL.U (SU.eql rfl rfl) (SL.A rfl (SL.nil (ST.thenN (SC.condT rfl (SC.seq (SC.region (SL.M rfl (SL.U (SU.nilCheck rfl) (SL.U (SU.fieldAddr underlying51 rfl sizeOf49 rfl) (SL.K (SQ.partA (e := encCell) (a := (⟨x.id, x.dim, ⟨xp, x.sides.length, xc⟩⟩ : Rc)) (j := k) (o := 2) (u := (.slice xp x.sides.length xc)) isAgg49 rfl (Rd.rowA 0 rfl) hgr rfl) (SL.U (SU.lenN underlying49 rfl) (SL.U (SU.gtr rfl rfl) (SL.nil (ST.thenN ?_)))))))))))))))))
    refine SC.ifP rfl (fun hsl => ?_) (fun hsl => ?_)
    ·refine SC.facts fun ⟨w0, hw0⟩ => ?_
     obtain ⟨bx, cx, hbx⟩ := rowA_based (i := 1) hw0 rfl oM
     obtain ⟨rfl, rfl⟩ : xp = some ⟨bx, 0, none⟩ ∧ xc = cx := by injection hbx with h1 _ h2; exact ⟨h1, h2⟩
     clear hw0 w0 hbx
     obtain ⟨hj, hjl⟩ := hj1 oM
     have hgz := hj2 oM
     refine SC.draw [16] [(0, 2), (1, 2), (2, 2), (3, 1), (4, 2), (5, 2), (6, 2), (7, 2), (8, 1), (9, 2), (10, 2), (11, 2), (12, 1), (13, 2), (14, 2), (15, 2), (16, 0)] Tryz.mixed (by kernel_rfl) ?_
     refine SP.U (i := 0) rfl (SU.move rfl) (SP.U (i := 1) rfl (SU.nilCheck rfl) (SP.U (i := 2) rfl (SU.fieldAddr underlying51 rfl sizeOf49 rfl) (SP.K (i := 3) rfl (SQ.partA (e := encCell) (a := (⟨x.id, x.dim, ⟨some ⟨bx, 0, none⟩, x.sides.length, xc⟩⟩ : Rc)) (j := k) (o := 2) (u := (.slice (some ⟨bx, 0, none⟩) x.sides.length xc)) isAgg49 rfl (Rd.rowA 0 rfl) hgr rfl) (SP.U (i := 4) rfl (SU.move rfl) (SP.U (i := 5) rfl (SU.move rfl) (SP.U (i := 6) rfl (SU.nilCheck rfl) (SP.U (i := 7) rfl (SU.fieldAddr underlying51 rfl sizeOf49 rfl) (SP.K (i := 8) rfl (SQ.partA (e := encCell) (a := (⟨x.id, x.dim, ⟨some ⟨bx, 0, none⟩, x.sides.length, xc⟩⟩ : Rc)) (j := k) (o := 2) (u := (.slice (some ⟨bx, 0, none⟩) x.sides.length xc)) isAgg49 rfl (Rd.rowA 0 rfl) hgr rfl) (SP.U (i := 9) rfl (SU.move rfl) (SP.U (i := 10) rfl (SU.indexAddr underlying49 sizeOf55 rfl rfl rfl oM sL) (SP.U (i := 11) rfl (SU.fieldAddrC underlying55 rfl sizeOf3 rfl rfl) (SP.K (i := 12) rfl (SQ.partA (e := encSide) (a := (x.sides.getD (sideJ x q2) dflS)) (j := (sideJ x q2)) (o := 1) (u := vi (x.sides.getD (sideJ x q2) dflS).sign) isAgg3 rfl (Rd.rowA 1 rfl) hgz rfl) (SP.U (i := 13) rfl (SU.neg rfl) (SP.U (i := 14) rfl (SU.indexAddr underlying49 sizeOf55 rfl rfl rfl oM sL) (SP.U (i := 15) rfl (SU.fieldAddrC underlying55 rfl sizeOf3 rfl rfl) (SP.on (i := 16) rfl (SO.partA (e := encSide) (a := (x.sides.getD (sideJ x q2) dflS)) (j := (sideJ x q2)) (o := 1) 1 (negS (x.sides.getD (sideJ x q2) dflS)) sizeOf3 rfl rfl rfl hgz rfl rfl dC rfl) (.inl dC) ?_))))))))))))))))
     rintro _ _ _ ⟨rfl, rfl⟩
     refine SP.nil (ST.blockN (ST.freezeRow fun ga hlea hsa => ?_))
     refine ST.freezeRow fun gb hleb hsb => ?_
     exact ST.mid (gb, (.slice (some ⟨bu, 0, none⟩) rs.length cap)) ⟨rfl, rfl, rfl, trivial⟩ rfl rfl ⟨hlea.trans hleb, _, SlA.mono (e := encCell) hsa hleb, hfin0 gb _ (hlea.trans hleb) ⟨rfl, rfl, hsb⟩⟩
    ·have hsn := hnil hsl
     refine SC.skip (ST.blockN (ST.freezeRow fun ga hlea hsa => ?_))
     refine ST.freezeRow fun gb hleb hsb => ?_
     exact ST.mid (gb, (.slice (some ⟨bu, 0, none⟩) rs.length cap)) ⟨rfl, rfl, rfl, trivial⟩ rfl rfl ⟨hlea.trans hleb, _, SlA.mono (e := encCell) hsa hleb, hfin0 gb _ (hlea.trans hleb) ⟨rfl, rfl, by rw [hsn] at hsb ⊢; exact hsb⟩⟩
   ·refine SC.seq (SC.region (SL.U (SU.indexAddrA underlying34 sizeOf3 rfl rfl dC dC) (SL.K (SQ.load (v := vi q0) isAgg3 rfl (CellAt.own 4 rfl rfl)) (SL.W (SO.call call38 rfl (mod_spec E g1 _ q0 13 dC)) ?_))))
    rintro _ _ _ ⟨rfl, rfl, rfl⟩
    rw [hm]
    refine SL.nil (ST.thenN (SC.block (SC.seq (SC.region (SL.U (SU.eql rfl rfl) (SL.A rfl (SL.nil (ST.thenN (SC.condF rfl (SC.seq (SC.region (SL.U (SU.eql rfl rfl) (SL.A rfl (SL.nil (ST.thenN (SC.condF rfl (SC.seq (SC.region (SL.U (SU.eql rfl rfl) (SL.A rfl (SL.nil (ST.thenN (SC.condF rfl (SC.seq (SC.region (SL.U (SU.eql rfl rfl) (SL.A rfl (SL.nil (ST.thenN ?_)))))))))))))))))))))))))))))
    refine SC.condF rfl (SC.seq (SC.region (SL.U (SU.eql rfl rfl) (SL.A rfl (SL.nil (ST.thenN (SC.condF rfl (SC.seq (SC.region (SL.U (SU.eql rfl rfl) (SL.A rfl (SL.nil (ST.thenN (SC.condT rfl (SC.seq (SC.region (SL.M rfl (SL.U (SU.nilCheck rfl) (SL.U (SU.fieldAddr underlying51 rfl sizeOf49 rfl) (SL.K (SQ.partA (e := encCell) (a := (⟨x.id, x.dim, ⟨xp, x.sides.length, xc⟩⟩ : Rc)) (j := k) (o := 2) (u := (.slice xp x.sides.length xc)) isAgg49 rfl (Rd.rowA 0 rfl) hgr rfl) (SL.U (SU.lenN underlying49 rfl) (SL.U (SU.gtr rfl rfl) (SL.nil (ST.thenN ?_))))))))))))))))))))))))
    refine SC.ifP rfl (fun hsl => ?_) (fun hsl => ?_)
    ·refine SC.facts fun ⟨w0, hw0⟩ => ?_
     obtain ⟨bx, cx, hbx⟩ := rowA_based (i := 1) hw0 rfl oM
     obtain ⟨rfl, rfl⟩ : xp = some ⟨bx, 0, none⟩ ∧ xc = cx := by injection hbx with h1 _ h2; exact ⟨h1, h2⟩
     clear hw0 w0 hbx
     obtain ⟨hj, hjl⟩ := hj1 oM
     have hgz := hj2 oM
     obtain ⟨kk, yi, yd, yp, yc, hkk, hkl, hgy, hyi, _, _⟩ := hpick (IntKind.i64.wrap (q2.tdiv 3))
     refine SC.draw [18] [(0, 2), (1, 2), (2, 2), (3, 1), (4, 2), (5, 2), (6, 1), (7, 2), (8, 2), (9, 2), (10, 1), (11, 2), (12, 0), (13, 2), (14, 2), (15, 1), (16, 2), (17, 2), (18, 0)] Tryz.mixed (by kernel_rfl) ?_
     refine SP.U (i := 0) rfl (SU.move rfl) (SP.U (i := 1) rfl (SU.nilCheck rfl) (SP.U (i := 2) rfl (SU.fieldAddr underlying51 rfl sizeOf49 rfl) (SP.K (i := 3) rfl (SQ.partA (e := encCell) (a := (⟨x.id, x.dim, ⟨some ⟨bx, 0, none⟩, x.sides.length, xc⟩⟩ : Rc)) (j := k) (o := 2) (u := (.slice (some ⟨bx, 0, none⟩) x.sides.length xc)) isAgg49 rfl (Rd.rowA 0 rfl) hgr rfl) (SP.U (i := 4) rfl (SU.move rfl) (SP.U (i := 5) rfl (SU.fieldAddr underlying27 rfl sizeOf25 rfl) (SP.K (i := 6) rfl (SQ.load (v := (.slice (some ⟨bu, 0, none⟩) rs.length cap)) isAgg25 rfl (CellAt.own 2 rfl rfl)) (SP.U (i := 7) rfl (SU.move rfl) (SP.U (i := 8) rfl (SU.quo rfl rfl dC) (SP.U (i := 9) rfl (SU.fieldAddr underlying27 rfl sizeOf25 rfl) (SP.K (i := 10) rfl (SQ.load (v := (.slice (some ⟨bu, 0, none⟩) rs.length cap)) isAgg25 rfl (CellAt.own 2 rfl rfl)) (SP.U (i := 11) rfl (SU.lenN underlying25 rfl) (SP.o (i := 12) rfl (SO.call call38 rfl (mod_spec E g1 _ _ rs.length oM)) dC (.inr (by rintro _ _ _ ⟨rfl, rfl, rfl⟩; exact ⟨by exact Le.refl _, (by exact .refl _)⟩)) ?_))))))))))))
     rintro _ _ _ ⟨rfl, rfl, rfl⟩
     rw [hkk]
     refine SP.U (i := 13) rfl (SU.indexAddr underlying25 sizeOf51 rfl rfl rfl oM sL) (SP.U (i := 14) rfl (SU.fieldAddrC underlying51 rfl sizeOf3 rfl rfl) (SP.K (i := 15) rfl (SQ.partA (e := encCell) (j := kk) (o := 0) (u := vi yi) isAgg3 rfl (Rd.rowA 0 rfl) hgy rfl) (SP.U (i := 16) rfl (SU.indexAddr underlying49 sizeOf55 rfl rfl rfl oM sL) (SP.U (i := 17) rfl (SU.fieldAddrC underlying55 rfl sizeOf3 rfl rfl) (SP.on (i := 18) rfl (SO.partA (e := encSide) (a := (x.sides.getD (sideJ x q2) dflS)) (j := (sideJ x q2)) (o := 0) 1 ⟨yi, (x.sides.getD (sideJ x q2) dflS).sign⟩ sizeOf3 rfl rfl rfl hgz rfl rfl dC rfl) (.inl dC) ?_)))))
     rintro _ _ _ ⟨rfl, rfl⟩
     refine SP.nil (ST.blockN (ST.freezeRow fun ga hlea hsa => ?_))
     refine ST.freezeRow fun gb hleb hsb => ?_
     rw [hyi] at hsb
     exact ST.mid (gb, (.slice (some ⟨bu, 0, none⟩) rs.length cap)) ⟨rfl, rfl, rfl, trivial⟩ rfl rfl ⟨hlea.trans hleb, _, SlA.mono (e := encCell) hsa hleb, hfin0 gb _ (hlea.trans hleb) ⟨rfl, rfl, hsb⟩⟩
    ·have hsn := hnil hsl
     refine SC.skip (ST.blockN (ST.freezeRow fun ga hlea hsa => ?_))
     refine ST.freezeRow fun gb hleb hsb => ?_
     exact ST.mid (gb, (.slice (some ⟨bu, 0, none⟩) rs.length cap)) ⟨rfl, rfl, rfl, trivial⟩ rfl rfl ⟨hlea.trans hleb, _, SlA.mono (e := encCell) hsa hleb, hfin0 gb _ (hlea.trans hleb) ⟨rfl, rfl, by rw [hsn] at hsb ⊢; exact hsb⟩⟩
   ·refine SC.seq (SC.region (SL.U (SU.indexAddrA underlying34 sizeOf3 rfl rfl dC dC) (SL.K (SQ.load (v := vi q0) isAgg3 rfl (CellAt.own 4 rfl rfl)) (SL.W (SO.call call38 rfl (mod_spec E g1 _ q0 13 dC)) ?_))))
    rintro _ _ _ ⟨rfl, rfl, rfl⟩
    rw [hm]
    refine SL.nil (ST.thenN (SC.block (SC.seq (SC.region (SL.U (SU.eql rfl rfl) (SL.A rfl (SL.nil (ST.thenN (SC.condF rfl (SC.seq (SC.region (SL.U (SU.eql rfl rfl) (SL.A rfl (SL.nil (ST.thenN (SC.condF rfl (SC.seq (SC.region (SL.U (SU.eql rfl rfl) (SL.A rfl (SL.nil (ST.thenN (SC.condF rfl (SC.seq (SC.region (SL.U (SU.eql rfl rfl) (SL.A rfl (SL.nil (ST.thenN ?_)))))))))))))))))))))))))))))
    refine SC.condF rfl (SC.seq (SC.region (SL.U (SU.eql rfl rfl) (SL.A rfl (SL.nil (ST.thenN (SC.condF rfl (SC.seq (SC.region (SL.U (SU.eql rfl rfl) (SL.A rfl (SL.nil (ST.thenN (SC.condF rfl (SC.seq (SC.region (SL.U (SU.eql rfl rfl) (SL.A rfl (SL.nil (ST.thenN (SC.condT rfl (SC.seq (SC.region (SL.M rfl (SL.U (SU.nilCheck rfl) (SL.U (SU.fieldAddr underlying51 rfl sizeOf49 rfl) (SL.K (SQ.partA (e := encCell) (a := (⟨x.id, x.dim, ⟨xp, x.sides.length, xc⟩⟩ : Rc)) (j := k) (o := 2) (u := (.slice xp x.sides.length xc)) isAgg49 rfl (Rd.rowA 0 rfl) hgr rfl) (SL.U (SU.lenN underlying49 rfl) (SL.U (SU.gtr rfl rfl) ?_)))))))))))))))))))))))))))))
    refine SL.nil (ST.thenN ?_)
    refine SC.ifP rfl (fun hsl => ?_) (fun hsl => ?_)
    ·obtain ⟨hj, hjl⟩ := hj1 oM
     refine SC.facts fun ⟨w0, hw0⟩ => ?_
     have hcapx : x.sides.length ≤ xc := (by obtain ⟨_, _, _, h1, h2⟩ := row_cap (i := 1) hw0 rfl (by omega : 0 < x.sides.length); omega)
     clear hw0 w0
     refine SC.draw [14, 15, 16, 17] [(0, 2), (1, 2), (2, 2), (3, 2), (4, 1), (5, 2), (6, 2), (7, 2), (8, 2), (9, 2), (10, 1), (11, 2), (12, 2), (13, 2), (14, 0), (15, 0), (16, 0), (17, 0)] Tryz.mixed (by kernel_rfl) ?_
     refine SP.U (i := 0) rfl (SU.move rfl) (SP.U (i := 1) rfl (SU.move rfl) (SP.U (i := 2) rfl (SU.nilCheck rfl) (SP.U (i := 3) rfl (SU.fieldAddr underlying51 rfl sizeOf49 rfl) (SP.K (i := 4) rfl (SQ.partA (e := encCell) (a := (⟨x.id, x.dim, ⟨xp, x.sides.length, xc⟩⟩ : Rc)) (j := k) (o := 2) (u := (.slice xp x.sides.length xc)) isAgg49 rfl (Rd.rowA 0 rfl) hgr rfl) (SP.U (i := 5) rfl (SU.move rfl) (SP.U (i := 6) rfl (SU.sliceH underlying49 sizeOf55 rfl rfl oM oM) (SP.U (i := 7) rfl (SU.move rfl) (SP.U (i := 8) rfl (SU.nilCheck rfl) (SP.U (i := 9) rfl (SU.fieldAddr underlying51 rfl sizeOf49 rfl) (SP.K (i := 10) rfl (SQ.partA (e := encCell) (a := (⟨x.id, x.dim, ⟨xp, x.sides.length, xc⟩⟩ : Rc)) (j := k) (o := 2) (u := (.slice xp x.sides.length xc)) isAgg49 rfl (Rd.rowA 0 rfl) hgr rfl) (SP.U (i := 11) rfl (SU.move rfl) (SP.U (i := 12) rfl (SU.add rfl rfl oM) (SP.U (i := 13) rfl (SU.eq (v' := sliced xp ((sideJ x q2) + 1) x.sides.length xc 2) (SU.sliceL underlying49 sizeOf55 rfl rfl oM oM) (by rw [show (((sideJ x q2) : Int) + 1).toNat = (sideJ x q2) + 1 by omega])) ?_)))))))))))))
     refine SP.o (i := 14) rfl (SO.cutA (j := (sideJ x q2)) (n := x.sides.length) (c := xc) (p := xp) (e := encSide) 1 sty49 rfl rfl rfl rfl hjl) dC (.inl dC) ?_
     rintro _ _ _ ⟨rfl, rfl, rfl⟩
     refine SP.ou (i := 15) rfl (SU.nilCheck rfl) dC (.inl dC) (SP.ou (i := 16) rfl (SU.fieldAddr underlying51 rfl sizeOf49 rfl) dC (.inl dC) (SP.on (i := 17) rfl (SO.partA (e := encCell) (a := (⟨x.id, x.dim, ⟨xp, x.sides.length, xc⟩⟩ : Rc)) (j := k) (o := 2) 0 ⟨x.id, x.dim, ⟨xp, x.sides.length - 1, xc⟩⟩ sizeOf49 rfl rfl rfl hgr rfl rfl dC rfl) (.inl dC) ?_))
     rintro _ _ _ ⟨rfl, rfl⟩
     refine SP.nil (ST.blockN (ST.freezeRow fun ga hlea hsa => ?_))
     refine ST.freezeRow fun gb hleb hsb => ?_
     exact ST.mid (gb, (.slice (some ⟨bu, 0, none⟩) rs.length cap)) ⟨rfl, rfl, rfl, trivial⟩ rfl rfl ⟨hlea.trans hleb, _, SlA.mono (e := encCell) hsa hleb, hfin gb _ _ (hlea.trans hleb) ⟨rfl, rfl, hsb⟩⟩
    ·have hsn := hnil hsl
     refine SC.skip (ST.blockN (ST.freezeRow fun ga hlea hsa => ?_))
     refine ST.freezeRow fun gb hleb hsb => ?_
     exact ST.mid (gb, (.slice (some ⟨bu, 0, none⟩) rs.length cap)) ⟨rfl, rfl, rfl, trivial⟩ rfl rfl ⟨hlea.trans hleb, _, SlA.mono (e := encCell) hsa hleb, hfin0 gb _ (hlea.trans hleb) ⟨rfl, rfl, by rw [hsn] at hsb ⊢; exact hsb⟩⟩
   ·have hr2 := modW_range q2 2 dC dC
    obtain ⟨kk, yi, yd, yp, yc, hkk, hkl, hgy, hyi, _, _⟩ := hpick q2
    refine SC.seq (SC.region (SL.U (SU.indexAddrA underlying34 sizeOf3 rfl rfl dC dC) (SL.K (SQ.load (v := vi q0) isAgg3 rfl (CellAt.own 4 rfl rfl)) (SL.W (SO.call call38 rfl (mod_spec E g1 _ q0 13 dC)) ?_))))
    rintro _ _ _ ⟨rfl, rfl, rfl⟩
    rw [hm]
    refine SL.nil (ST.thenN (SC.block (SC.seq (SC.region (SL.U (SU.eql rfl rfl) (SL.A rfl (SL.nil (ST.thenN (SC.condF rfl (SC.seq (SC.region (SL.U (SU.eql rfl rfl) (SL.A rfl (SL.nil (ST.thenN (SC.condF rfl (SC.seq (SC.region (SL.U (SU.eql rfl rfl) (SL.A rfl (SL.nil (ST.thenN (SC.condF rfl (SC.seq (SC.region (SL.U (SU.eql rfl rfl) (SL.A rfl (SL.nil (ST.thenN ?_)))))))))))))))))))))))))))))
    refine SC.condF rfl (SC.seq (SC.region (SL.U (SU.eql rfl rfl) (SL.A rfl (SL.nil (ST.thenN (SC.condF rfl (SC.seq (SC.region (SL.U (SU.eql rfl rfl) (SL.A rfl (SL.nil (ST.thenN (SC.condF rfl (SC.seq (SC.region (SL.U (SU.eql rfl rfl) (SL.A rfl (SL.nil (ST.thenN (SC.condF rfl (SC.seq (SC.region (SL.U (SU.eql rfl rfl) (SL.A rfl (SL.nil (ST.thenN (SC.condT rfl ?_))))))))))))))))))))))))))))
    refine SC.draw [21, 22, 23, 24] [(0, 2), (1, 2), (2, 2), (3, 2), (4, 1), (5, 2), (6, 1), (7, 2), (8, 2), (9, 1), (10, 2), (15, 2), (11, 0), (12, 2), (13, 2), (14, 1), (16, 0), (17, 2), (18, 2), (19, 2), (20, 0), (21, 0), (22, 0), (23, 0), (24, 0)] Tryz.mixed (by kernel_rfl) ?_
    refine SP.U (i := 0) rfl (SU.move rfl) (SP.U (i := 1) rfl (SU.move rfl) (SP.U (i := 2) rfl (SU.nilCheck rfl) (SP.U (i := 3) rfl (SU.fieldAddr underlying51 rfl sizeOf49 rfl) (SP.K (i := 4) rfl (SQ.partA (e := encCell) (a := (⟨x.id, x.dim, ⟨xp, x.sides.length, xc⟩⟩ : Rc)) (j := k) (o := 2) (u := (.slice xp x.sides.length xc)) isAgg49 rfl (Rd.rowA 0 rfl) hgr rfl) (SP.U (i := 5) rfl (SU.fieldAddr underlying27 rfl sizeOf25 rfl) (SP.K (i := 6) rfl (SQ.load (v := (.slice (some ⟨bu, 0, none⟩) rs.length cap)) isAgg25 rfl (CellAt.own 2 rfl rfl)) (SP.U (i := 7) rfl (SU.move rfl) (SP.U (i := 8) rfl (SU.fieldAddr underlying27 rfl sizeOf25 rfl) (SP.K (i := 9) rfl (SQ.load (v := (.slice (some ⟨bu, 0, none⟩) rs.length cap)) isAgg25 rfl (CellAt.own 2 rfl rfl)) (SP.U (i := 10) rfl (SU.lenN underlying25 rfl) (SP.U (i := 15) rfl (SU.move rfl) (SP.o (i := 11) rfl (SO.call call38 rfl (mod_spec E g1 _ q2 rs.length oM)) dC (.inr (by rintro _ _ _ ⟨rfl, rfl, rfl⟩; exact ⟨by exact Le.refl _, (by exact .refl _)⟩)) ?_))))))))))))
    rintro _ _ _ ⟨rfl, rfl, rfl⟩
    rw [hkk]
    refine SP.U (i := 12) rfl (SU.indexAddr underlying25 sizeOf51 rfl rfl rfl oM sL) (SP.U (i := 13) rfl (SU.fieldAddrC underlying51 rfl sizeOf3 rfl rfl) (SP.K (i := 14) rfl (SQ.partA (e := encCell) (j := kk) (o := 0) (u := vi yi) isAgg3 rfl (Rd.rowA 0 rfl) hgy rfl) (SP.o (i := 16) rfl (SO.call call38 rfl (mod_spec E g1 _ q2 2 dC)) dC (.inr (by rintro _ _ _ ⟨rfl, rfl, rfl⟩; exact ⟨by exact Le.refl _, (by exact .refl _)⟩)) ?_)))
    rintro _ _ _ ⟨rfl, rfl, rfl⟩
    refine SP.U (i := 17) rfl (SU.mul rfl rfl oM) (SP.U (i := 18) rfl (SU.sub rfl rfl oM) (SP.U (i := 19) rfl (SU.build rfl (buildS55 _ _)) (SP.o (i := 20) rfl (SO.buildSlice sty49 rfl rfl rfl (szs_mk (by exact ⟨rfl, trivial⟩)) dC) dC (.inr (by rintro _ _ _ ⟨b195, rfl, rfl, rfl⟩; exact ⟨by exact Le.refl _, (by exact .cons _ (.refl _))⟩)) ?_)))
    rintro _ _ _ ⟨b195, rfl, rfl, rfl⟩
    refine SP.o (i := 21) rfl (SO.app1A (e := encSide) 1 ⟨yi, 1 - 2 * modW q2 2⟩ sty49 rfl rfl rfl rfl rfl oM oM) dC (.inl dC) ?_
    rintro v196 _ _ ⟨rfl, rfl⟩
    refine SP.facts fun ⟨w0, hw0⟩ => ?_
    obtain ⟨q7, d7, rfl⟩ := rowA_form (i := 1) hw0 rfl
    clear hw0 w0
    refine SP.ou (i := 22) rfl (SU.nilCheck rfl) dC (.inl dC) (SP.ou (i := 23) rfl (SU.fieldAddr underlying51 rfl sizeOf49 rfl) dC (.inl dC) (SP.on (i := 24) rfl (SO.partA (e := encCell) (a := (⟨x.id, x.dim, ⟨xp, x.sides.length, xc⟩⟩ : Rc)) (j := k) (o := 2) 0 ⟨x.id, x.dim, ⟨q7, (x.sides ++ [((⟨yi, 1 - 2 * modW q2 2⟩) : Side)]).length, d7⟩⟩ sizeOf49 rfl rfl rfl hgr rfl rfl dC rfl) (.inl dC) ?_))
    rintro _ _ _ ⟨rfl, rfl⟩
    refine SP.nil (ST.blockN (ST.freezeRow fun ga hlea hsa => ?_))
    refine ST.freezeRow fun gb hleb hsb => ?_
    exact ST.mid (gb, (.slice (some ⟨bu, 0, none⟩) rs.length cap)) ⟨rfl, rfl, rfl, trivial⟩ rfl rfl ⟨hlea.trans hleb, _, SlA.mono (e := encCell) hsa hleb, hfin gb _ _ (hlea.trans hleb) ⟨rfl, rfl, by subst hyi; exact hsb⟩⟩
   ·refine SC.seq (SC.region (SL.U (SU.indexAddrA underlying34 sizeOf3 rfl rfl dC dC) (SL.K (SQ.load (v := vi q0) isAgg3 rfl (CellAt.own 4 rfl rfl)) (SL.W (SO.call call38 rfl (mod_spec E g1 _ q0 13 dC)) ?_))))
    rintro _ _ _ ⟨rfl, rfl, rfl⟩
    rw [hm]
    refine SL.nil (ST.thenN (SC.block (SC.seq (SC.region (SL.U (SU.eql rfl rfl) (SL.A rfl (SL.nil (ST.thenN (SC.condF rfl (SC.seq (SC.region (SL.U (SU.eql rfl rfl) (SL.A rfl (SL.nil (ST.thenN (SC.condF rfl (SC.seq (SC.region (SL.U (SU.eql rfl rfl) (SL.A rfl (SL.nil (ST.thenN (SC.condF rfl (SC.seq (SC.region (SL.U (SU.eql rfl rfl) (SL.A rfl (SL.nil (ST.thenN ?_)))))))))))))))))))))))))))))
    refine SC.condF rfl (SC.seq (SC.region (SL.U (SU.eql rfl rfl) (SL.A rfl (SL.nil (ST.thenN (SC.condF rfl (SC.seq (SC.region (SL.U (SU.eql rfl rfl) (SL.A rfl (SL.nil (ST.thenN (SC.condF rfl (SC.seq (SC.region (SL.U (SU.eql rfl rfl) (SL.A rfl (SL.nil (ST.thenN (SC.condF rfl (SC.seq (SC.region (SL.U (SU.eql rfl rfl) (SL.A rfl (SL.nil (ST.thenN (SC.condF rfl (SC.seq ?_)))))))))))))))))))))))))))))
    refine SC.region (SL.U (SU.eql rfl rfl) (SL.A rfl (SL.nil (ST.thenN (SC.condT rfl ?_)))))
    refine SC.draw [6, 7, 8] [(0, 2), (1, 1), (2, 2), (3, 2), (4, 1), (5, 0), (6, 0), (7, 0), (8, 0)] Tryz.mixed (by kernel_rfl) ?_
    refine SP.U (i := 0) rfl (SU.fieldAddr underlying27 rfl sizeOf25 rfl) (SP.K (i := 1) rfl (SQ.load (v := (.slice (some ⟨bu, 0, none⟩) rs.length cap)) isAgg25 rfl (CellAt.own 2 rfl rfl)) (SP.U (i := 2) rfl (SU.move rfl) (SP.U (i := 3) rfl (SU.nilCheck rfl) (SP.K (i := 4) rfl (SQ.elemA (e := encCell) (a := (⟨x.id, x.dim, ⟨xp, x.sides.length, xc⟩⟩ : Rc)) (j := k) isAgg51 sizeOf51 rfl (Rd.rowA 0 rfl) hgr) (SP.o (i := 5) rfl (SO.buildSlice sty25 rfl rfl rfl (szs_mk (by exact ⟨rfl, trivial⟩)) dC) dC (.inr (by rintro _ _ _ ⟨b206, rfl, rfl, rfl⟩; exact ⟨by exact Le.refl _, (by exact .cons _ (.refl _))⟩)) ?_)))))
    rintro _ _ _ ⟨b206, rfl, rfl, rfl⟩
    refine SP.o (i := 6) rfl (SO.app1A (e := encCell) 0 (⟨x.id, x.dim, ⟨xp, x.sides.length, xc⟩⟩ : Rc) sty25 rfl rfl rfl rfl rfl oM oM) dC (.inl dC) ?_
    rintro v207 _ _ ⟨rfl, rfl⟩
    refine SP.facts fun ⟨w0, hw0⟩ => ?_
    obtain ⟨q7, d7, rfl⟩ := rowA_form (i := 0) hw0 rfl
    clear hw0 w0
    refine SP.ou (i := 7) rfl (SU.fieldAddr underlying27 rfl sizeOf25 rfl) dC (.inl dC) (SP.on (i := 8) rfl (SO.storeAllK 2 sizeOf25 rfl rfl rfl rfl rfl (by exact ⟨rfl, trivial⟩)) (.inl dC) ?_)
    rintro _ _ _ ⟨rfl, rfl⟩
    refine SP.nil (ST.blockN (ST.freezeRow fun ga hlea hsa => ?_))
    refine ST.freezeRow fun gb hleb hsb => ?_
    exact ST.mid (gb, _) ⟨rfl, rfl, rfl, trivial⟩ rfl rfl ⟨hlea.trans hleb, _, SlA.mono (e := encCell) hsa hleb, (hfinA gb (hlea.trans hleb) ⟨rfl, rfl, hsb⟩).append ⟨⟨rfl, rfl, hsb⟩, trivial⟩⟩
   ·obtain ⟨kk, yi, yd, yp, yc, hkk, hkl, hgy, hyi, hyl, hyr⟩ := hpick q2
    refine SC.seq (SC.region (SL.U (SU.indexAddrA underlying34 sizeOf3 rfl rfl dC dC) (SL.K (SQ.load (v := vi q0) isAgg3 rfl (CellAt.own 4 rfl rfl)) (SL.W (SO.call call38 rfl (mod_spec E g1 _ q0 13 dC)) ?_))))
    rintro _ _ _ ⟨rfl, rfl, rfl⟩
    rw [hm]
    refine SL.nil (ST.thenN (SC.block (SC.seq (SC.region (SL.U (SU.eql rfl rfl) (SL.A rfl (SL.nil (ST.thenN (SC.condF rfl (SC.seq (SC.region (SL.U (SU.eql rfl rfl) (SL.A rfl (SL.nil (ST.thenN (SC.condF rfl (SC.seq (SC.region (SL.U (SU.eql rfl rfl) (SL.A rfl (SL.nil (ST.thenN (SC.condF rfl (SC.seq (SC.region (SL.U (SU.eql rfl rfl) (SL.A rfl (SL.nil (ST.thenN ?_)))))))))))))))))))))))))))))
    refine SC.condF rfl (SC.seq (SC.region (SL.U (SU.eql rfl rfl) (SL.A rfl (SL.nil (ST.thenN (SC.condF rfl (SC.seq (SC.region (SL.U (SU.eql rfl rfl) (SL.A rfl (SL.nil (ST.thenN (SC.condF rfl (SC.seq (SC.region (SL.U (SU.eql rfl rfl) (SL.A rfl (SL.nil (ST.thenN (SC.condF rfl (SC.seq (SC.region (SL.U (SU.eql rfl rfl) (SL.A rfl (SL.nil (ST.thenN (SC.condF rfl (SC.seq ?_)))))))))))))))))))))))))))))
    refine SC.region (SL.U (SU.eql rfl rfl) (SL.A rfl (SL.nil (ST.thenN (SC.condF rfl (SC.seq (SC.region (SL.U (SU.eql rfl rfl) (SL.A rfl (SL.nil (ST.thenN (SC.condT rfl ?_))))))))))))
    refine SC.cut (ι := Nat) (fun b10 => [(2, pp b2 0), (3, pp b3 0), (4, pp b4 0), (5, pp b5 0), (6, vi (k : Nat)), (7, cptr (.slice (some ⟨bu, 0, none⟩) rs.length cap) (k * 3)), (8, vi q2), (9, vi ((sideJ x q2) : Nat)), (10, pp b10 0)]) (fun _ => g1) (fun b10 => pt b10 (.cells #[vi yi, vi yd, (.slice yp (pickC l q2).sides.length yc)] 51 (0, 0)) :: rowA encCell 51 (.slice (some ⟨bu, 0, none⟩) rs.length cap) rs :: rowA encSide 55 (.slice xp x.sides.length xc) x.sides :: pt b5 (.cells #[(.slice (some ⟨bu, 0, none⟩) rs.length cap)] 27 (0, 0)) :: pt b4 (.cells #[.slice none 0 0] 27 (0, 0)) :: pt b3 (.cells #[vi q0, vi q1, vi q2] 34 (0, 0)) :: pt b2 (.cells #[.slice p l.length c] 27 (0, 0)) :: s) (fun _ => True) ?_ ?_
    ·refine SC.drawX [] Tryz.mixed (by kernel_rfl) ?_
     refine SX.u (i := 0) rfl (by kernel_rfl) (SU.fieldAddr underlying27 rfl sizeOf25 rfl) dC (SX.q (i := 1) rfl (by kernel_rfl) (SQ.load (v := (.slice (some ⟨bu, 0, none⟩) rs.length cap)) isAgg25 rfl (CellAt.own 2 rfl rfl)) dC (SX.u (i := 2) rfl (by kernel_rfl) (SU.move rfl) dC (SX.u (i := 3) rfl (by kernel_rfl) (SU.fieldAddr underlying27 rfl sizeOf25 rfl) dC (SX.q (i := 4) rfl (by kernel_rfl) (SQ.load (v := (.slice (some ⟨bu, 0, none⟩) rs.length cap)) isAgg25 rfl (CellAt.own 2 rfl rfl)) dC (SX.u (i := 5) rfl (by kernel_rfl) (SU.lenN underlying25 rfl) dC ?_)))))
     refine SX.br2 6 9 (by kernel_rfl) ?_ ?_
     ·refine SB.o (i := 6) rfl (SO.call call38 rfl (mod_spec E g1 _ q2 rs.length oM)) dC (.inr (by rintro _ _ _ ⟨rfl, rfl, rfl⟩; exact ⟨by exact Le.refl _, (by exact .refl _)⟩)) ?_
      rintro _ _ _ ⟨rfl, rfl, rfl⟩
      rw [hkk]
      refine SX.u (i := 7) rfl (by kernel_rfl) (SU.indexAddr underlying25 sizeOf51 rfl rfl rfl oM sL) dC (SX.q (i := 8) rfl (by kernel_rfl) (SQ.elemA (e := encCell) (j := kk) isAgg51 sizeOf51 rfl (Rd.rowA 0 rfl) hgy) dC ?_)
      refine SX.br1 9 (by kernel_rfl) ?_
      ·refine SB.o (i := 9) rfl (SO.alloc zeroValue51) dC (.inr (by rintro _ _ _ ⟨b10, rfl, rfl, rfl⟩; exact ⟨by exact Le.refl _, (by exact .cons _ (.refl _))⟩)) ?_
       rintro _ _ _ ⟨b10, rfl, rfl, rfl⟩
       refine SX.br1 10 (by kernel_rfl) ?_
       ·refine SB.on (i := 10) rfl (SO.storeAllK 0 sizeOf51 rfl rfl rfl rfl rfl (by exact ⟨rfl, rfl, rfl, trivial⟩)) (.inr (by rintro _ _ _ ⟨rfl, rfl⟩; exact ⟨by exact Le.refl _, (by exact .cons _ (.refl _))⟩)) ?_
        rintro _ _ _ ⟨rfl, rfl⟩
        refine SX.nil (by kernel_rfl) ?_
        exact ST.mid b10 ⟨rfl, rfl, rfl, rfl, rfl, rfl, rfl, rfl, rfl, trivial⟩ rfl rfl trivial
     ·refine SB.o (i := 9) rfl (SO.alloc zeroValue51) dC (.inr (by rintro _ _ _ ⟨b10, rfl, rfl, rfl⟩; exact ⟨by exact Le.refl _, (by exact .cons _ (.refl _))⟩)) ?_
      rintro _ _ _ ⟨b10, rfl, rfl, rfl⟩
      refine SX.br1 6 (by kernel_rfl) ?_
      ·refine SB.o (i := 6) rfl (SO.call call38 rfl (mod_spec E g1 _ q2 rs.length oM)) dC (.inr (by rintro _ _ _ ⟨rfl, rfl, rfl⟩; exact ⟨by exact Le.refl _, (by exact .cons _ (.refl _))⟩)) ?_
       rintro _ _ _ ⟨rfl, rfl, rfl⟩
       rw [hkk]
       refine SX.u (i := 7) rfl (by kernel_rfl) (SU.indexAddr underlying25 sizeOf51 rfl rfl rfl oM sL) dC (SX.q (i := 8) rfl (by kernel_rfl) (SQ.elemA (e := encCell) (j := kk) isAgg51 sizeOf51 rfl (Rd.rowA 0 rfl) hgy) dC ?_)
       refine SX.br1 10 (by kernel_rfl) ?_
       ·refine SB.on (i := 10) rfl (SO.storeAllK 0 sizeOf51 rfl rfl rfl rfl rfl (by exact ⟨rfl, rfl, rfl, trivial⟩)) (.inr (by rintro _ _ _ ⟨rfl, rfl⟩; exact ⟨by exact Le.refl _, (by exact .cons _ (.refl _))⟩)) ?_
        rintro _ _ _ ⟨rfl, rfl⟩
        refine SX.nil (by kernel_rfl) ?_
        exact ST.mid b10 ⟨rfl, rfl, rfl, rfl, rfl, rfl, rfl, rfl, rfl, trivial⟩ rfl rfl trivial
    rintro b10 -
    try dsimp only
    have hrd : ∀ S : Own, S[2]? = some (rowA encSide 55 (.slice xp x.sides.length xc) x.sides) → Rd g1 S (.slice yp (pickC l q2).sides.length yc) ((pickC l q2).sides.flatMap encSide.enc) := fun S hS => by
     rcases hyr with ⟨h1, h2, h3⟩ | h
     ·rw [h1, h2, h3]; exact Rd.rowA 2 hS
     ·exact Sl.rd h
    refine SC.draw [7, 8, 9, 10] [(0, 2), (1, 2), (2, 2), (3, 2), (4, 1), (5, 2), (6, 1), (7, 0), (8, 0), (9, 0), (10, 0)] Tryz.mixed (by kernel_rfl) ?_
    refine SP.U (i := 0) rfl (SU.move rfl) (SP.U (i := 1) rfl (SU.move rfl) (SP.U (i := 2) rfl (SU.nilCheck rfl) (SP.U (i := 3) rfl (SU.fieldAddr underlying51 rfl sizeOf49 rfl) (SP.K (i := 4) rfl (SQ.partA (e := encCell) (a := (⟨x.id, x.dim, ⟨xp, x.sides.length, xc⟩⟩ : Rc)) (j := k) (o := 2) (u := (.slice xp x.sides.length xc)) isAgg49 rfl (Rd.rowA 1 rfl) hgr rfl) (SP.U (i := 5) rfl (SU.fieldAddr underlying51 rfl sizeOf49 rfl) (SP.K (i := 6) rfl (SQ.load (v := (.slice yp (pickC l q2).sides.length yc)) isAgg49 rfl (CellAt.own 0 rfl rfl)) (SP.o (i := 7) rfl (SO.appendE (m := (pickC l q2).sides.length) 2 (x.sides ++ (pickC l q2).sides).length ((x.sides ++ (pickC l q2).sides).flatMap encSide.enc) sty49 rfl rfl rfl rfl rfl (hrd _ rfl) (encSide.length _) (encSide.ones _) (by simp) (by simp) (by rw [List.length_append]; omega) (by rw [List.length_append]; omega)) dC (.inl dC) ?_)))))))
    rintro v227 _ _ ⟨rfl, rfl⟩
    refine SP.facts fun ⟨w0, hw0⟩ => ?_
    obtain ⟨q7, d7, rfl⟩ := rowA_form (e := encSide) (l := x.sides ++ (pickC l q2).sides) (i := 2) hw0 rfl
    clear hw0 w0
    refine SP.ou (i := 8) rfl (SU.nilCheck rfl) dC (.inl dC) (SP.ou (i := 9) rfl (SU.fieldAddr underlying51 rfl sizeOf49 rfl) dC (.inl dC) (SP.on (i := 10) rfl (SO.partA (e := encCell) (a := (⟨x.id, x.dim, ⟨xp, x.sides.length, xc⟩⟩ : Rc)) (j := k) (o := 2) 1 ⟨x.id, x.dim, ⟨q7, (x.sides ++ (pickC l q2).sides).length, d7⟩⟩ sizeOf49 rfl rfl rfl hgr rfl rfl dC rfl) (.inl dC) ?_))
    rintro _ _ _ ⟨rfl, rfl⟩
    refine SP.nil (ST.blockN (ST.drop (.cons _ (.refl _)) (ST.freezeRow fun ga hlea hsa => ?_)))
    refine ST.freezeRow fun gb hleb hsb => ?_
    exact ST.mid (gb, (.slice (some ⟨bu, 0, none⟩) rs.length cap)) ⟨rfl, rfl, rfl, trivial⟩ rfl rfl ⟨hlea.trans hleb, _, SlA.mono (e := encCell) hsa hleb, hfin gb _ _ (hlea.trans hleb) ⟨rfl, rfl, hsb⟩⟩
   ·refine SC.seq (SC.region (SL.U (SU.indexAddrA underlying34 sizeOf3 rfl rfl dC dC) (SL.K (SQ.load (v := vi q0) isAgg3 rfl (CellAt.own 4 rfl rfl)) (SL.W (SO.call call38 rfl (mod_spec E g1 _ q0 13 dC)) ?_))))
    rintro _ _ _ ⟨rfl, rfl, rfl⟩
    rw [hm]
    refine SL.nil (ST.thenN (SC.block (SC.seq (SC.region (SL.U (SU.eql rfl rfl) (SL.A rfl (SL.nil (ST.thenN (SC.condF rfl (SC.seq (SC.region (SL.U (SU.eql rfl rfl) (SL.A rfl (SL.nil (ST.thenN (SC.condF rfl (SC.seq (SC.region (SL.U (SU.eql rfl rfl) (SL.A rfl (SL.nil (ST.thenN (SC.condF rfl (SC.seq (SC.region (SL.U (SU.eql rfl rfl) (SL.A rfl (SL.nil (ST.thenN ?_)))))))))))))))))))))))))))))
    refine SC.condF rfl (SC.seq (SC.region (SL.U (SU.eql rfl rfl) (SL.A rfl (SL.nil (ST.thenN (SC.condF rfl (SC.seq (SC.region (SL.U (SU.eql rfl rfl) (SL.A rfl (SL.nil (ST.thenN (SC.condF rfl (SC.seq (SC.region (SL.U (SU.eql rfl rfl) (SL.A rfl (SL.nil (ST.thenN (SC.condF rfl (SC.seq (SC.region (SL.U (SU.eql rfl rfl) (SL.A rfl (SL.nil (ST.thenN (SC.condF rfl (SC.seq ?_)))))))))))))))))))))))))))))
    refine SC.region (SL.U (SU.eql rfl rfl) (SL.A rfl (SL.nil (ST.thenN (SC.condF rfl (SC.seq (SC.region (SL.U (SU.eql rfl rfl) (SL.A rfl (SL.nil (ST.thenN (SC.condF rfl (SC.seq (SC.region (SL.U (SU.eql rfl rfl) (SL.A rfl (SL.nil (ST.thenN (SC.condT rfl (SC.seq (SC.region (SL.A rfl (SL.nil (ST.thenN (SC.block ?_)))))))))))))))))))))))))
    have hn0 : negTo x.sides 0 = x.sides := by simp [negTo]
    refine SC.to (fun w hw => ?_) (g' := g1) (s' := rowA encCell 51 (.slice (some ⟨bu, 0, none⟩) rs.length cap) rs :: rowA encSide 55 (.slice xp x.sides.length xc) (negTo x.sides 0) :: pt b5 (.cells #[(.slice (some ⟨bu, 0, none⟩) rs.length cap)] 27 (0, 0)) :: pt b4 (.cells #[.slice none 0 0] 27 (0, 0)) :: pt b3 (.cells #[vi q0, vi q1, vi q2] 34 (0, 0)) :: pt b2 (.cells #[.slice p l.length c] 27 (0, 0)) :: s) ?_
    ·rw [hn0]; exact hw
    refine SC.loop (ι := Nat) (fun i => [(2, pp b2 0), (3, pp b3 0), (4, pp b4 0), (5, pp b5 0), (6, vi (k : Nat)), (7, cptr (.slice (some ⟨bu, 0, none⟩) rs.length cap) (k * 3)), (8, vi q2), (9, vi ((sideJ x q2) : Nat)), (11, vi i)]) (fun _ => g1) (fun i => rowA encCell 51 (.slice (some ⟨bu, 0, none⟩) rs.length cap) rs :: rowA encSide 55 (.slice xp x.sides.length xc) (negTo x.sides i) :: pt b5 (.cells #[(.slice (some ⟨bu, 0, none⟩) rs.length cap)] 27 (0, 0)) :: pt b4 (.cells #[.slice none 0 0] 27 (0, 0)) :: pt b3 (.cells #[vi q0, vi q1, vi q2] 34 (0, 0)) :: pt b2 (.cells #[.slice p l.length c] 27 (0, 0)) :: s) (fun i => i ≤ x.sides.length) (fun i => x.sides.length - i) 0 ⟨rfl, rfl, rfl, rfl, rfl, rfl, rfl, rfl, rfl, trivial⟩ rfl rfl (Nat.zero_le _) ?_
    rintro i hi
    refine SC.seq (SC.seq (SC.region (SL.M rfl (SL.M rfl (SL.U (SU.nilCheck rfl) (SL.U (SU.fieldAddr underlying51 rfl sizeOf49 rfl) (SL.K (SQ.partA (e := encCell) (a := (⟨x.id, x.dim, ⟨xp, x.sides.length, xc⟩⟩ : Rc)) (j := k) (o := 2) (u := (.slice xp x.sides.length xc)) isAgg49 rfl (Rd.rowA 0 rfl) hgr rfl) (SL.U (SU.lenN underlying49 rfl) (SL.U (SU.lss rfl rfl) (SL.nil (ST.thenN ?_)))))))))))
    refine SC.ifP rfl (fun hlt => ?_) (fun hlt => ?_)
    ·have hil : i < x.sides.length := oM
     refine SC.facts fun ⟨w0, hw0⟩ => ?_
     obtain ⟨bx, cx, hbx⟩ := rowA_based (i := 1) hw0 rfl (by rw [negTo_length _ _ hi]; omega)
     rw [negTo_length _ _ hi] at hbx
     obtain ⟨rfl, rfl⟩ : xp = some ⟨bx, 0, none⟩ ∧ xc = cx := by injection hbx with h1 _ h2; exact ⟨h1, h2⟩
     clear hw0 w0 hbx
     have hgz := negTo_get hil
     have hst := negTo_set hil
     refine SC.skip (ST.thenN (SC.seq (SC.block ?_)))
     refine SC.draw [16] [(0, 2), (1, 2), (2, 2), (3, 1), (4, 2), (5, 2), (6, 2), (7, 2), (8, 1), (9, 2), (10, 2), (11, 2), (12, 1), (13, 2), (14, 2), (15, 2), (16, 0)] Tryz.mixed (by kernel_rfl) ?_
     refine SP.U (i := 0) rfl (SU.move rfl) (SP.U (i := 1) rfl (SU.nilCheck rfl) (SP.U (i := 2) rfl (SU.fieldAddr underlying51 rfl sizeOf49 rfl) (SP.K (i := 3) rfl (SQ.partA (e := encCell) (a := (⟨x.id, x.dim, ⟨some ⟨bx, 0, none⟩, x.sides.length, xc⟩⟩ : Rc)) (j := k) (o := 2) (u := (.slice (some ⟨bx, 0, none⟩) x.sides.length xc)) isAgg49 rfl (Rd.rowA 0 rfl) hgr rfl) (SP.U (i := 4) rfl (SU.move rfl) (SP.U (i := 5) rfl (SU.move rfl) (SP.U (i := 6) rfl (SU.nilCheck rfl) (SP.U (i := 7) rfl (SU.fieldAddr underlying51 rfl sizeOf49 rfl) (SP.K (i := 8) rfl (SQ.partA (e := encCell) (a := (⟨x.id, x.dim, ⟨some ⟨bx, 0, none⟩, x.sides.length, xc⟩⟩ : Rc)) (j := k) (o := 2) (u := (.slice (some ⟨bx, 0, none⟩) x.sides.length xc)) isAgg49 rfl (Rd.rowA 0 rfl) hgr rfl) (SP.U (i := 9) rfl (SU.move rfl) (SP.U (i := 10) rfl (SU.indexAddr underlying49 sizeOf55 rfl rfl rfl oM sL) (SP.U (i := 11) rfl (SU.fieldAddrC underlying55 rfl sizeOf3 rfl rfl) (SP.K (i := 12) rfl (SQ.partA (e := encSide) (a := x.sides[i]) (j := i) (o := 1) (u := vi x.sides[i].sign) isAgg3 rfl (Rd.rowA 1 rfl) hgz rfl) (SP.U (i := 13) rfl (SU.neg rfl) (SP.U (i := 14) rfl (SU.indexAddr underlying49 sizeOf55 rfl rfl rfl oM sL) (SP.U (i := 15) rfl (SU.fieldAddrC underlying55 rfl sizeOf3 rfl rfl) (SP.on (i := 16) rfl (SO.partA (e := encSide) (a := x.sides[i]) (j := i) (o := 1) 1 (negS x.sides[i]) sizeOf3 rfl rfl rfl hgz rfl rfl dC rfl) (.inl dC) ?_))))))))))))))))
     rintro _ _ _ ⟨rfl, rfl⟩
     rw [hst]
     refine SP.nil (ST.blockN (ST.thenN (SC.region (SL.M rfl (SL.U (SU.add rfl rfl oM) (SL.A rfl (SL.nil ?_)))))))
     exact ST.again (i + 1) ⟨rfl, rfl, rfl, rfl, rfl, rfl, rfl, rfl, rfl, trivial⟩ rfl rfl oM oM
    ·have hii : negTo x.sides i = x.sides.map negS := by
      have : i = x.sides.length := oM
      subst this
      simp [negTo]
     rw [hii]
     refine SC.exit (ST.thenX (ST.thenX (ST.blockX (ST.blockN (ST.freezeRow fun ga hlea hsa => ?_)))))
     refine ST.freezeRow fun gb hleb hsb => ?_
     exact ST.mid (gb, (.slice (some ⟨bu, 0, none⟩) rs.length cap)) ⟨rfl, rfl, rfl, trivial⟩ rfl rfl ⟨hlea.trans hleb, _, SlA.mono (e := encCell) hsa hleb, hfin0 gb _ (hlea.trans hleb) ⟨rfl, rfl, hsb⟩⟩
   ·have hr3 := modW_range q2 3 dC dC
    refine SC.seq (SC.region (SL.U (SU.indexAddrA underlying34 sizeOf3 rfl rfl dC dC) (SL.K (SQ.load (v := vi q0) isAgg3 rfl (CellAt.own 4 rfl rfl)) (SL.W (SO.call call38 rfl (mod_spec E g1 _ q0 13 dC)) ?_))))
    rintro _ _ _ ⟨rfl, rfl, rfl⟩
    rw [hm]
    refine SL.nil (ST.thenN (SC.block (SC.seq (SC.region (SL.U (SU.eql rfl rfl) (SL.A rfl (SL.nil (ST.thenN (SC.condF rfl (SC.seq (SC.region (SL.U (SU.eql rfl rfl) (SL.A rfl (SL.nil (ST.thenN (SC.condF rfl (SC.seq (SC.region (SL.U (SU.eql rfl rfl) (SL.A rfl (SL.nil (ST.thenN (SC.condF rfl (SC.seq (SC.region (SL.U (SU.eql rfl rfl) (SL.A rfl (SL.nil (ST.thenN ?_)))))))))))))))))))))))))))))
    refine SC.condF rfl (SC.seq (SC.region (SL.U (SU.eql rfl rfl) (SL.A rfl (SL.nil (ST.thenN (SC.condF rfl (SC.seq (SC.region (SL.U (SU.eql rfl rfl) (SL.A rfl (SL.nil (ST.thenN (SC.condF rfl (SC.seq (SC.region (SL.U (SU.eql rfl rfl) (SL.A rfl (SL.nil (ST.thenN (SC.condF rfl (SC.seq (SC.region (SL.U (SU.eql rfl rfl) (SL.A rfl (SL.nil (ST.thenN (SC.condF rfl (SC.seq ?_)))))))))))))))))))))))))))))
    refine SC.region (SL.U (SU.eql rfl rfl) (SL.A rfl (SL.nil (ST.thenN (SC.condF rfl (SC.seq (SC.region (SL.U (SU.eql rfl rfl) (SL.A rfl (SL.nil (ST.thenN (SC.condF rfl (SC.seq (SC.region (SL.U (SU.eql rfl rfl) (SL.A rfl (SL.nil (ST.thenN (SC.condF rfl (SC.seq (SC.region (SL.U (SU.eql rfl rfl) (SL.A rfl (SL.nil (ST.thenN (SC.condT rfl ?_))))))))))))))))))))))))))
    refine SC.drawX [15, 17] Tryz.mixed (by kernel_rfl) ?_
    refine SX.u (i := 0) rfl (by kernel_rfl) (SU.fieldAddr underlying27 rfl sizeOf25 rfl) dC (SX.q (i := 1) rfl (by kernel_rfl) (SQ.load (v := (.slice (some ⟨bu, 0, none⟩) rs.length cap)) isAgg25 rfl (CellAt.own 2 rfl rfl)) dC (SX.u (i := 2) rfl (by kernel_rfl) (SU.move rfl) dC (SX.u (i := 5) rfl (by kernel_rfl) (SU.move rfl) dC (SX.u (i := 8) rfl (by kernel_rfl) (SU.move rfl) dC (SX.u (i := 9) rfl (by kernel_rfl) (SU.nilCheck rfl) dC (SX.u (i := 10) rfl (by kernel_rfl) (SU.fieldAddr underlying51 rfl sizeOf49 rfl) dC (SX.q (i := 11) rfl (by kernel_rfl) (SQ.partA (e := encCell) (a := (⟨x.id, x.dim, ⟨xp, x.sides.length, xc⟩⟩ : Rc)) (j := k) (o := 2) (u := (.slice xp x.sides.length xc)) isAgg49 rfl (Rd.rowA 0 rfl) hgr rfl) dC ?_)))))))
    refine SX.br2 3 7 (by kernel_rfl) ?_ ?_
    ·refine SB.o (i := 3) rfl (SO.call call38 rfl (mod_spec E g1 _ q2 3 dC)) dC (.inr (by rintro _ _ _ ⟨rfl, rfl, rfl⟩; exact ⟨by exact Le.refl _, (by exact .refl _)⟩)) ?_
     rintro _ _ _ ⟨rfl, rfl, rfl⟩
     refine SX.u (i := 4) rfl (by kernel_rfl) (SU.add rfl rfl oM) dC ?_
     refine SX.br2 6 7 (by kernel_rfl) ?_ ?_
     ·refine SB.o (i := 6) rfl (SO.call call38 rfl (mod_spec E g1 _ q2 4 dC)) dC (.inr (by rintro _ _ _ ⟨rfl, rfl, rfl⟩; exact ⟨by exact Le.refl _, (by exact .refl _)⟩)) ?_
      rintro _ _ _ ⟨rfl, rfl, rfl⟩
      refine SX.br1 7 (by kernel_rfl) ?_
      ·refine SB.o (i := 7) rfl (SO.buildSlice sty49 rfl rfl rfl (szs_mk trivial) dC) dC (.inr (by rintro _ _ _ ⟨b266, rfl, rfl, rfl⟩; exact ⟨by exact Le.refl _, (by exact .cons _ (.refl _))⟩)) ?_
       rintro _ _ _ ⟨b266, rfl, rfl, rfl⟩
       refine SX.to (fun w hw => (hw.sublist (List.Sublist.cons _ (.refl _))).emptyRow 55 2 (some ⟨b266, 0, none⟩)) ?_
       refine SX.br1 12 (by kernel_rfl) ?_
       ·refine SB.o (i := 12) rfl (SO.appendE (m := x.sides.length) 0 x.sides.length (x.sides.flatMap encSide.enc) sty49 rfl rfl rfl rfl rfl (Rd.rowA 2 rfl) (encSide.length _) (encSide.ones _) oM (by simp) oM oM) dC (.inr (by rintro v271 _ _ ⟨rfl, rfl⟩; exact ⟨by exact Le.refl _, (by exact .cons _ (.refl _))⟩)) ?_
        rintro v271 _ _ ⟨rfl, rfl⟩
        refine SX.freezeRow fun gq hleq hsq => ?_
        have hsd : SlA encSide gq v271 x.sides := hsq
        obtain ⟨q7, d7, rfl⟩ := SlA.form hsd
        refine SX.u (i := 13) rfl (by kernel_rfl) (SU.build rfl (buildF51 _ _ _ rfl)) dC ?_
        refine SX.br1 14 (by kernel_rfl) ?_
        ·refine SB.o (i := 14) rfl (SO.buildSlice sty25 rfl rfl rfl (szs_mk (by exact ⟨rfl, trivial⟩)) dC) dC (.inr (by rintro _ _ _ ⟨b273, rfl, rfl, rfl⟩; exact ⟨by assumption, (by exact .cons _ (.refl _))⟩)) ?_
         rintro _ _ _ ⟨b273, rfl, rfl, rfl⟩
         refine SX.br1 15 (by kernel_rfl) ?_
         ·refine SB.o (i := 15) rfl (SO.app1A (e := encCell) 0 ⟨500 + modW q2 3, modW q2 4, ⟨q7, x.sides.length, d7⟩⟩ sty25 rfl rfl rfl rfl rfl oM oM) dC (.inl dC) ?_
          rintro v274 _ _ ⟨rfl, rfl⟩
          refine SX.facts fun ⟨w0, hw0⟩ => ?_
          obtain ⟨q8, d8, rfl⟩ := rowA_form (i := 0) hw0 rfl
          clear hw0 w0
          refine SX.u (i := 16) rfl (by kernel_rfl) (SU.fieldAddr underlying27 rfl sizeOf25 rfl) dC ?_
          refine SX.br1 17 (by kernel_rfl) ?_
          ·refine SB.on (i := 17) rfl (SO.storeAllK 2 sizeOf25 rfl rfl rfl rfl rfl (by exact ⟨rfl, trivial⟩)) (.inl dC) ?_
           rintro _ _ _ ⟨rfl, rfl⟩
           refine SX.nil (by kernel_rfl) (ST.blockN ?_)
           (refine ST.freezeRow fun ga hlea hsa => ?_; refine ST.freezeRow fun gb hleb hsb => ?_; exact ST.mid (gb, _) ⟨rfl, rfl, rfl, trivial⟩ rfl rfl ⟨hleq.trans (hlea.trans hleb), _, SlA.mono (e := encCell) hsa hleb, (hfinA gb (hleq.trans (hlea.trans hleb)) ⟨rfl, rfl, hsb⟩).append ⟨⟨rfl, rfl, hsd.mono (hlea.trans hleb)⟩, trivial⟩⟩)
     ·refine SB.o (i := 7) rfl (SO.buildSlice sty49 rfl rfl rfl (szs_mk trivial) dC) dC (.inr (by rintro _ _ _ ⟨b266, rfl, rfl, rfl⟩; exact ⟨by exact Le.refl _, (by exact .cons _ (.refl _))⟩)) ?_
      rintro _ _ _ ⟨b266, rfl, rfl, rfl⟩
      refine SX.to (fun w hw => (hw.sublist (List.Sublist.cons _ (.refl _))).emptyRow 55 2 (some ⟨b266, 0, none⟩)) ?_
      refine SX.br1 6 (by kernel_rfl) ?_
      ·refine SB.o (i := 6) rfl (SO.call call38 rfl (mod_spec E g1 _ q2 4 dC)) dC (.inr (by rintro _ _ _ ⟨rfl, rfl, rfl⟩; exact ⟨by exact Le.refl _, (by exact .cons _ (.refl _))⟩)) ?_
       rintro _ _ _ ⟨rfl, rfl, rfl⟩
       refine SX.br1 12 (by kernel_rfl) ?_
       ·refine SB.o (i := 12) rfl (SO.appendE (m := x.sides.length) 0 x.sides.length (x.sides.flatMap encSide.enc) sty49 rfl rfl rfl rfl rfl (Rd.rowA 2 rfl) (encSide.length _) (encSide.ones _) oM (by simp) oM oM) dC (.inr (by rintro v271 _ _ ⟨rfl, rfl⟩; exact ⟨by exact Le.refl _, (by exact .cons _ (.refl _))⟩)) ?_
        rintro v271 _ _ ⟨rfl, rfl⟩
        refine SX.freezeRow fun gq hleq hsq => ?_
        have hsd : SlA encSide gq v271 x.sides := hsq
        obtain ⟨q7, d7, rfl⟩ := SlA.form hsd
        refine SX.u (i := 13) rfl (by kernel_rfl) (SU.build rfl (buildF51 _ _ _ rfl)) dC ?_
        refine SX.br1 14 (by kernel_rfl) ?_
        ·refine SB.o (i := 14) rfl (SO.buildSlice sty25 rfl rfl rfl (szs_mk (by exact ⟨rfl, trivial⟩)) dC) dC (.inr (by rintro _ _ _ ⟨b273, rfl, rfl, rfl⟩; exact ⟨by assumption, (by exact .cons _ (.refl _))⟩)) ?_
         rintro _ _ _ ⟨b273, rfl, rfl, rfl⟩
         refine SX.br1 15 (by kernel_rfl) ?_
         ·refine SB.o (i := 15) rfl (SO.app1A (e := encCell) 0 ⟨500 + modW q2 3, modW q2 4, ⟨q7, x.sides.length, d7⟩⟩ sty25 rfl rfl rfl rfl rfl oM oM) dC (.inl dC) ?_
          rintro v274 _ _ ⟨rfl, rfl⟩
          refine SX.facts fun ⟨w0, hw0⟩ => ?_
          obtain ⟨q8, d8, rfl⟩ := rowA_form (i := 0) hw0 rfl
          clear hw0 w0
          refine SX.u (i := 16) rfl (by kernel_rfl) (SU.fieldAddr underlying27 rfl sizeOf25 rfl) dC ?_
          refine SX.br1 17 (by kernel_rfl) ?_
          ·refine SB.on (i := 17) rfl (SO.storeAllK 2 sizeOf25 rfl rfl rfl rfl rfl (by exact ⟨rfl, trivial⟩)) (.inl dC) ?_
           rintro _ _ _ ⟨rfl, rfl⟩
           refine SX.nil (by kernel_rfl) (ST.blockN ?_)
           (refine ST.freezeRow fun ga hlea hsa => ?_; refine ST.freezeRow fun gb hleb hsb => ?_; exact ST.mid (gb, _) ⟨rfl, rfl, rfl, trivial⟩ rfl rfl ⟨hleq.trans (hlea.trans hleb), _, SlA.mono (e := encCell) hsa hleb, (hfinA gb (hleq.trans (hlea.trans hleb)) ⟨rfl, rfl, hsb⟩).append ⟨⟨rfl, rfl, hsd.mono (hlea.trans hleb)⟩, trivial⟩⟩)
    ·refine SB.o (i := 7) rfl (SO.buildSlice sty49 rfl rfl rfl (szs_mk trivial) dC) dC (.inr (by rintro _ _ _ ⟨b266, rfl, rfl, rfl⟩; exact ⟨by exact Le.refl _, (by exact .cons _ (.refl _))⟩)) ?_
     rintro _ _ _ ⟨b266, rfl, rfl, rfl⟩
     refine SX.to (fun w hw => (hw.sublist (List.Sublist.cons _ (.refl _))).emptyRow 55 2 (some ⟨b266, 0, none⟩)) ?_
     refine SX.br1 3 (by kernel_rfl) ?_
     ·refine SB.o (i := 3) rfl (SO.call call38 rfl (mod_spec E g1 _ q2 3 dC)) dC (.inr (by rintro _ _ _ ⟨rfl, rfl, rfl⟩; exact ⟨by exact Le.refl _, (by exact .cons _ (.refl _))⟩)) ?_
      rintro _ _ _ ⟨rfl, rfl, rfl⟩
      refine SX.u (i := 4) rfl (by kernel_rfl) (SU.add rfl rfl oM) dC ?_
      refine SX.br1 6 (by kernel_rfl) ?_
      ·refine SB.o (i := 6) rfl (SO.call call38 rfl (mod_spec E g1 _ q2 4 dC)) dC (.inr (by rintro _ _ _ ⟨rfl, rfl, rfl⟩; exact ⟨by exact Le.refl _, (by exact .cons _ (.refl _))⟩)) ?_
       rintro _ _ _ ⟨rfl, rfl, rfl⟩
       refine SX.br1 12 (by kernel_rfl) ?_
       ·refine SB.o (i := 12) rfl (SO.appendE (m := x.sides.length) 0 x.sides.length (x.sides.flatMap encSide.enc) sty49 rfl rfl rfl rfl rfl (Rd.rowA 2 rfl) (encSide.length _) (encSide.ones _) oM (by simp) oM oM) dC (.inr (by rintro v271 _ _ ⟨rfl, rfl⟩; exact ⟨by exact Le.refl _, (by exact .cons _ (.refl _))⟩)) ?_
        rintro v271 _ _ ⟨rfl, rfl⟩
        refine SX.freezeRow fun gq hleq hsq => ?_
        have hsd : SlA encSide gq v271 x.sides := hsq
        obtain ⟨q7, d7, rfl⟩ := SlA.form hsd
        refine SX.u (i := 13) rfl (by kernel_rfl) (SU.build rfl (buildF51 _ _ _ rfl)) dC ?_
        refine SX.br1 14 (by kernel_rfl) ?_
        ·refine SB.o (i := 14) rfl (SO.buildSlice sty25 rfl rfl rfl (szs_mk (by exact ⟨rfl, trivial⟩)) dC) dC (.inr (by rintro _ _ _ ⟨b273, rfl, rfl, rfl⟩; exact ⟨by assumption, (by exact .cons _ (.refl _))⟩)) ?_
         rintro _ _ _ ⟨b273, rfl, rfl, rfl⟩
         refine SX.br1 15 (by kernel_rfl) ?_
         ·refine SB.o (i := 15) rfl (SO.app1A (e := encCell) 0 ⟨500 + modW q2 3, modW q2 4, ⟨q7, x.sides.length, d7⟩⟩ sty25 rfl rfl rfl rfl rfl oM oM) dC (.inl dC) ?_
          rintro v274 _ _ ⟨rfl, rfl⟩
          refine SX.facts fun ⟨w0, hw0⟩ => ?_
          obtain ⟨q8, d8, rfl⟩ := rowA_form (i := 0) hw0 rfl
          clear hw0 w0
          refine SX.u (i := 16) rfl (by kernel_rfl) (SU.fieldAddr underlying27 rfl sizeOf25 rfl) dC ?_
          refine SX.br1 17 (by kernel_rfl) ?_
          ·refine SB.on (i := 17) rfl (SO.storeAllK 2 sizeOf25 rfl rfl rfl rfl rfl (by exact ⟨rfl, trivial⟩)) (.inl dC) ?_
           rintro _ _ _ ⟨rfl, rfl⟩
           refine SX.nil (by kernel_rfl) (ST.blockN ?_)
           (refine ST.freezeRow fun ga hlea hsa => ?_; refine ST.freezeRow fun gb hleb hsb => ?_; exact ST.mid (gb, _) ⟨rfl, rfl, rfl, trivial⟩ rfl rfl ⟨hleq.trans (hlea.trans hleb), _, SlA.mono (e := encCell) hsa hleb, (hfinA gb (hleq.trans (hlea.trans hleb)) ⟨rfl, rfl, hsb⟩).append ⟨⟨rfl, rfl, hsd.mono (hlea.trans hleb)⟩, trivial⟩⟩)
   ·refine SC.seq (SC.region (SL.U (SU.indexAddrA underlying34 sizeOf3 rfl rfl dC dC) (SL.K (SQ.load (v := vi q0) isAgg3 rfl (CellAt.own 4 rfl rfl)) (SL.W (SO.call call38 rfl (mod_spec E g1 _ q0 13 dC)) ?_))))
    rintro _ _ _ ⟨rfl, rfl, rfl⟩
    rw [hm]
    refine SL.nil (ST.thenN (SC.block (SC.seq (SC.region (SL.U (SU.eql rfl rfl) (SL.A rfl (SL.nil (ST.thenN (SC.condF rfl (SC.seq (SC.region (SL.U (SU.eql rfl rfl) (SL.A rfl (SL.nil (ST.thenN (SC.condF rfl (SC.seq (SC.region (SL.U (SU.eql rfl rfl) (SL.A rfl (SL.nil (ST.thenN (SC.condF rfl (SC.seq (SC.region (SL.U (SU.eql rfl rfl) (SL.A rfl (SL.nil (ST.thenN ?_)))))))))))))))))))))))))))))
    refine SC.condF rfl (SC.seq (SC.region (SL.U (SU.eql rfl rfl) (SL.A rfl (SL.nil (ST.thenN (SC.condF rfl (SC.seq (SC.region (SL.U (SU.eql rfl rfl) (SL.A rfl (SL.nil (ST.thenN (SC.condF rfl (SC.seq (SC.region (SL.U (SU.eql rfl rfl) (SL.A rfl (SL.nil (ST.thenN (SC.condF rfl (SC.seq (SC.region (SL.U (SU.eql rfl rfl) (SL.A rfl (SL.nil (ST.thenN (SC.condF rfl (SC.seq ?_)))))))))))))))))))))))))))))
    refine SC.region (SL.U (SU.eql rfl rfl) (SL.A rfl (SL.nil (ST.thenN (SC.condF rfl (SC.seq (SC.region (SL.U (SU.eql rfl rfl) (SL.A rfl (SL.nil (ST.thenN (SC.condF rfl (SC.seq (SC.region (SL.U (SU.eql rfl rfl) (SL.A rfl (SL.nil (ST.thenN (SC.condF rfl (SC.seq (SC.region (SL.U (SU.eql rfl rfl) (SL.A rfl (SL.nil (ST.thenN (SC.condF rfl (SC.skip (ST.blockN (ST.freezeRow fun ga hlea hsa => ?_)))))))))))))))))))))))))))))
    refine ST.freezeRow fun gb hleb hsb => ?_
    exact ST.mid (gb, (.slice (some ⟨bu, 0, none⟩) rs.length cap)) ⟨rfl, rfl, rfl, trivial⟩ rfl rfl ⟨hlea.trans hleb, _, SlA.mono (e := encCell) hsa hleb, hfinA gb (hlea.trans hleb) ⟨rfl, rfl, hsb⟩⟩
  rintro ⟨g2, bv⟩ ⟨hle2, hbv⟩
  dsimp only at hle2 hbv ⊢
  obtain ⟨q3, d3, rfl⟩ := hbv.form
  refine SC.seq (SC.region (SL.K (SQ.loadVarK 0 isAgg27 sizeOf27 rfl rfl rfl) (SL.on (SO.storeAllK 1 sizeOf27 rfl rfl rfl rfl rfl (by exact ⟨rfl, trivial⟩)) ?_)))
  rintro _ _ _ ⟨rfl, rfl⟩
  refine SL.nil (ST.thenN (SC.ret ?_))
  exact ST.retCD 1 s (.inl rfl) results16 rfl isAgg27 sizeOf27 rfl rfl (.cons _ (.cons _ (.cons _ (.cons _ (.refl _))))) ⟨rfl, hle1.trans hle2, _, rfl, hbv⟩
open Go.ChangeShapes Go.WideShapes Go.ChangeAt Go.RowKit
set_option maxRecDepth 100000
def held (W : World) : PH := fun b => W.heap[b]?
def E0 (W : World) : World := { W with drawn := 0 }
theorem at_start (W : World) : At (E0 W) (held W) [] W := ⟨rfl, ⟨rfl, Nat.zero_le _⟩, rfl, fun _ _ h => h, by simp, by simp, List.Pairwise.nil⟩
theorem at_below {W W' : World} {g : PH} {s : Own} (h : At (E0 W) g s W') (hl : Le (held W) g) : Below W.heap.size W W' := by
 have hb : ∀ k, k < W.heap.size → W'.heap[k]? = W.heap[k]? := fun k hk => by
  have h1 : W.heap[k]? = some W.heap[k] := Array.getElem?_eq_getElem hk
  rw [h1]
  exact h.known k _ (hl k _ h1)
 refine ⟨h.os, h.tape.1, h.output, ?_, hb⟩
 refine Decidable.of_not_not fun hc => ?_
 have h1 := hb W'.heap.size oM
 rw [Array.getElem?_eq_none (Nat.le_refl _), Array.getElem?_eq_getElem oM] at h1
 cases h1
theorem row_sl {W : World} {a : Addr} {len cap : Nat} {xs : List Value} (hl : len ≤ cap) (hx : xs.length = len) (hc : ∀ i x, xs[i]? = some x → W.cell? (a.add i) = some x) : Sl (held W) 1 (.slice (some a) len cap) len xs := by
 refine ⟨some a, cap, rfl, ⟨oM, hl⟩, fun hne => ?_⟩
 obtain ⟨b, o, sp⟩ := a
 have h0 : 0 < xs.length := List.length_pos_iff.2 hne
 have hc0 := hc 0 xs[0] (List.getElem?_eq_getElem h0)
 have hsp : sp = none := by simpa [Addr.add] using World.cell?_spot hc0
 subst hsp
 have hadd : ∀ i, (⟨b, o, none⟩ : Addr).add i = ⟨b, o + i, none⟩ := fun i => by unfold Addr.add; split <;> simp_all
 simp only [hadd] at hc
 have hcell : ∀ i x, xs[i]? = some x → ∃ cs T fr, W.heap[b]? = some (.cells cs T fr) ∧ cs[o + i]? = some x := fun i x hi => by
  have h1 := hc i x hi
  unfold World.cell? at h1
  split at h1
  ·rename_i cs T fr hh
   exact ⟨cs, T, fr, hh, by simpa using h1⟩
  ·cases h1
 obtain ⟨cs, T, fr, hb, _⟩ := hcell 0 xs[0] (List.getElem?_eq_getElem h0)
 refine ⟨b, o, cs, T, fr, rfl, hb, fun j x hj => ?_⟩
 obtain ⟨cs', T', fr', hb', h2⟩ := hcell j x hj
 rw [hb] at hb'
 cases hb'
 exact h2
section
variable {H : Type} {enc : TypeId × Value → H} {W : World} {base : Nat} {spare : Nat → Bool} {hd : Bool}
theorem Tryz.cells3 : Tryz.prog.cellsOf 3 = 1 := by kernel_rfl
theorem Tryz.cells45 : Tryz.prog.cellsOf 45 = 1 := by kernel_rfl
theorem Tryz.cells34 : Tryz.prog.cellsOf 34 = 3 := by kernel_rfl
theorem ints_of {fuel : Nat} {v : Value} {x : DataW H × List MemPlace} (h : DataW.trod enc Tryz.prog W base spare hd fuel 45 [v] = some x) : ∃ (l : List Int) (r : Sv), v = .slice r.p r.n r.c ∧ Ints (held W) v l := by
 rcases open_ints underlying45 underlying3 cells3 h with ⟨hcs, _⟩ | ⟨a, len, cap, zs, hcs, _, hl, _, hz, _, hcell, _⟩
 ·simp at hcs
  subst hcs
  exact ⟨[], ⟨none, 0, 0⟩, rfl, Sl.nil _ _⟩
 ·simp at hcs
  subst hcs
  have hlz : len ≤ zs.length := by rw [hz]; split <;> omega
  have hlen : (zs.take len).length = len := by rw [List.length_take]; omega
  have he : (zs.take len).flatMap encInt.enc = (zs.take len).map vi := by
   rw [List.flatMap_def]
   induction zs.take len with
   | nil => rfl
   | cons y t ih => simp [encInt] at ih ⊢; exact ih
  refine ⟨zs.take len, ⟨some a, len, cap⟩, rfl, ?_⟩
  show Sl (held W) 1 _ (zs.take len).length ((zs.take len).flatMap encInt.enc)
  rw [he, hlen]
  refine row_sl hl (by rw [List.length_map, hlen]) fun i y hi => ?_
  rw [List.getElem?_map] at hi
  cases hc : (zs.take len)[i]? with
  | none => rw [hc] at hi; cases hi
  | some z =>
   rw [hc] at hi
   cases hi
   have hil : i < (zs.take len).length := (List.getElem?_eq_some_iff.1 hc).1
   have hi2 : i < zs.length := oM
   rw [hcell i hi2]
   have : zs.getD i 0 = z := by
    rw [List.getElem?_take] at hc
    split at hc
    ·rw [List.getD_eq_getElem?_getD, hc]; rfl
    ·cases hc
   rw [this]
theorem all2_map {α β γ : Type} {R : α → β → Prop} {f : γ → α} {k : γ → β} : ∀ {l : List γ}, (∀ i ∈ l, R (f i) (k i)) → All2 R (l.map f) (l.map k)
 | [], _ => trivial
 | x :: l, h => ⟨h x (by simp), all2_map fun i hi => h i (by simp [hi])⟩
instance : Inhabited (List Int × Sv) := ⟨([], ⟨none, 0, 0⟩)⟩
theorem lists_of {fuel : Nat} {v : Value} {x : DataW H × List MemPlace} (h : DataW.trod enc Tryz.prog W base spare hd fuel 22 [v] = some x) : ∃ ls, Lists (held W) v ls := by
 rcases Go.Deep.open_slice1 underlying22 cells45 h with ⟨hcs, _⟩ | ⟨a, len, cap, m, n, V, D, Pl, hcs, _, hl, _, hmm, _, hx⟩
 ·simp at hcs
  subst hcs
  exact ⟨[], [], Sl.nil _ _, trivial⟩
 ·simp at hcs
  subst hcs
  have hlm : len ≤ m := by rw [hmm]; split <;> omega
  obtain ⟨f, hf⟩ := Go.Deep.choose_lt (α := List Int × Sv) (n := len) (p := fun i y => V i = .slice y.2.p y.2.n y.2.c ∧ Ints (held W) (V i) y.1) fun i hi => by
   obtain ⟨l, r, h1, h2⟩ := ints_of (hx i oM).2
   exact ⟨(l, r), h1, h2⟩
  refine ⟨(List.range len).map fun i => (f i).1, (List.range len).map fun i => (f i).2, ?_, all2_map fun i hi => ?_⟩
  ·show Sl (held W) 1 _ ((List.range len).map fun i => (f i).2).length (((List.range len).map fun i => (f i).2).flatMap encSv.enc)
   have he : ((List.range len).map fun i => (f i).2).flatMap encSv.enc = (List.range len).map fun i => V i := by
    have : ∀ l : List Nat, (∀ i ∈ l, i < len) → (l.map fun i => (f i).2).flatMap encSv.enc = l.map fun i => V i := by
     intro l
     induction l with
     | nil => intro _; rfl
     | cons y t ih =>
      intro hy
      rw [List.map_cons, List.flatMap_cons, ih fun i hi => hy i (by simp [hi]), List.map_cons, (hf y (hy y (by simp))).1]
      rfl
    exact this _ fun i hi => List.mem_range.1 hi
   rw [he, List.length_map, List.length_range]
   refine row_sl hl (by simp) fun i y hi => ?_
   rw [List.getElem?_map] at hi
   cases hc : (List.range len)[i]? with
   | none => rw [hc] at hi; cases hi
   | some z =>
    rw [hc] at hi
    cases hi
    obtain ⟨h1, h2⟩ := List.getElem?_eq_some_iff.1 hc
    simp at h1 h2
    subst h2
    exact (hx i oM).1
  ·have := hf i (List.mem_range.1 hi)
   unfold ListR
   rw [← this.1]
   exact this.2
theorem okWide_array {r : Reach} {b0 : Nat} {P : Program} {w : World} {t e : TypeId} {n : Nat} {v : Value} (ht : P.underlying t = some (.array n e)) (h : Value.okWide P w r b0 t v) : ∃ cs, v = .agg cs ∧ cs.size = P.cellsOf t := by
 simp only [Value.okWide, ht] at h
 obtain ⟨cs, h1, h2, _⟩ := h
 exact ⟨cs, h1, h2⟩
theorem three_of {r : Reach} {b0 : Nat} {v : Value} {d : DataW H} {p : List MemPlace} (hv : Value.okWide Tryz.prog W r b0 34 v) (h : DataW.Trod enc Tryz.prog W base spare hd 34 v d p) : ∃ a b c : Int, v = .agg #[vi a, vi b, vi c] := by
 obtain ⟨cs, rfl, hsz⟩ := okWide_array underlying34 hv
 rw [cells34] at hsz
 obtain ⟨l⟩ := cs
 match l, hsz with
 | [c0, c1, c2], _ =>
  obtain ⟨fuel, hf⟩ := h
  obtain ⟨y0, y1, y2, n, _, h0, h1, h2⟩ := trod_array3 underlying34 cells3 (by simpa [Value.cells] using hf)
  obtain ⟨a, e0, _, _⟩ := DataW.trod_int underlying3 h0
  obtain ⟨b, e1, _, _⟩ := DataW.trod_int underlying3 h1
  obtain ⟨c, e2, _, _⟩ := DataW.trod_int underlying3 h2
  simp at e0 e1 e2
  subst e0
  subst e1
  subst e2
  exact ⟨a, b, c, rfl⟩
end
set_option maxHeartbeats 1000000
theorem lawSame_spec (E : World) (g : PH) (s : Own) (v u : Value) (l m : List Cl) (hv : Cells g v l) (hu : Cells g u m) (hf : Fits l) :
  Ctr Tryz.prog E 13 #[.agg #[v], .agg #[u]] g s (fun r g' s' => r = vb (decide (l = m)) ∧ g = g' ∧ s = s') := by
 obtain ⟨ra, hra, halla⟩ := hv
 obtain ⟨rb, hrb, hallb⟩ := hu
 have eal := halla.length
 have ebl := hallb.length
 have hll := hf.1
 obtain ⟨pa, ca, rfl⟩ := hra.form
 obtain ⟨pb, cb, rfl⟩ := hrb.form
 refine Ctr.of (args := [.agg #[.slice pa ra.length ca], .agg #[.slice pb rb.length cb]]) func13 rfl ntmps13 (Nat.le_of_ble_eq_true rfl) ?_
 refine SC.seq (SC.region (SL.W (SO.box rfl) ?_))
 rintro _ _ _ ⟨b2, rfl, rfl, rfl⟩
 refine SL.W (SO.box rfl) ?_
 rintro _ _ _ ⟨b3, rfl, rfl, rfl⟩
 refine SL.A rfl (SL.nil (ST.thenN (SC.seq (SC.seq (SC.region (SL.U (SU.fieldAddr underlying27 rfl sizeOf25 rfl) (SL.K (SQ.load (v := .slice pa ra.length ca) isAgg25 rfl (CellAt.own 1 rfl rfl)) (SL.U (SU.lenN underlying25 rfl) (SL.U (SU.fieldAddr underlying27 rfl sizeOf25 rfl) (SL.K (SQ.load (v := .slice pb rb.length cb) isAgg25 rfl (CellAt.own 0 rfl rfl)) (SL.U (SU.lenN underlying25 rfl) (SL.U (SU.neq rfl rfl) (SL.nil (ST.thenN ?_))))))))))))))
 refine SC.ifP rfl (fun hne => ?_) (fun hne => ?_)
 ·refine SC.seq (SC.region (SL.A rfl (SL.nil (ST.thenN (SC.ret (ST.thenR (ST.drop (s' := s) (.cons _ (.cons _ (.refl _))) ?_)))))))
  exact ST.ret1 (.inl rfl) results13 rfl ⟨by rw [decide_eq_false (fun e : l = m => by rw [e] at eal; omega)], rfl, rfl⟩
 ·refine SC.skip (ST.thenN (SC.seq (SC.seq (SC.region (SL.A rfl (SL.nil (ST.thenN (SC.block ?_))))))))
  have hlen : l.length = m.length := oM
  refine SC.loop (ι := Nat) (fun k => [(2, pp b2 0), (3, pp b3 0), (5, vi k)]) (fun _ => g) (fun _ => pt b3 (.cells #[.slice pb rb.length cb] 27 (0, 0)) :: pt b2 (.cells #[.slice pa ra.length ca] 27 (0, 0)) :: s) (fun k => k ≤ l.length ∧ l.take k = m.take k) (fun k => l.length - k) 0
   ⟨rfl, rfl, rfl, trivial⟩ rfl rfl ⟨Nat.zero_le _, by simp⟩ ?_
  rintro k ⟨hk, heq⟩
  refine SC.seq (SC.seq (SC.region (SL.M rfl (SL.U (SU.fieldAddr underlying27 rfl sizeOf25 rfl) (SL.K (SQ.load (v := .slice pa ra.length ca) isAgg25 rfl (CellAt.own 1 rfl rfl)) (SL.U (SU.lenN underlying25 rfl) (SL.U (SU.lss rfl rfl) (SL.nil (ST.thenN ?_)))))))))
  refine SC.ifP rfl (fun hlt => ?_) (fun hlt => ?_)
  ·have hkl : k < l.length := oM
   have hkm : k < m.length := oM
   have hb1 := hra.based oM
   have hb2 := hrb.based oM
   have h1 := halla.get (List.getElem?_eq_getElem hkl) (List.getElem?_eq_getElem (show k < ra.length by omega))
   have h2 := hallb.get (List.getElem?_eq_getElem hkm) (List.getElem?_eq_getElem (show k < rb.length by omega))
   have g1 : ra[((k : Nat) : Int).toNat]? = some ra[k] := List.getElem?_eq_getElem (show k < ra.length by omega)
   have g2 : rb[((k : Nat) : Int).toNat]? = some rb[k] := List.getElem?_eq_getElem (show k < rb.length by omega)
   have hxl := hf.2 _ (List.getElem_mem hkl)
   refine SC.skip (ST.thenN (SC.seq (SC.block (SC.seq ?_))))
   refine SC.draw [] [(0, 2), (1, 1), (2, 2), (3, 2), (4, 1), (5, 2), (6, 1), (7, 2), (8, 2), (9, 1), (10, 0), (11, 2)] Tryz.mixed (by kernel_rfl) ?_
   refine SP.U (i := 0) rfl (SU.fieldAddr underlying27 rfl sizeOf25 rfl) (SP.K (i := 1) rfl (SQ.load (v := .slice pa ra.length ca) isAgg25 rfl (CellAt.own 1 rfl rfl)) (SP.U (i := 2) rfl (SU.move rfl) (SP.U (i := 3) rfl (SU.indexAddr underlying25 sizeOf51 rfl rfl hb1 oM sL) (SP.K (i := 4) rfl (SQ.elemA isAgg51 sizeOf51 rfl hra.rd g1) (SP.U (i := 5) rfl (SU.fieldAddr underlying27 rfl sizeOf25 rfl) (SP.K (i := 6) rfl (SQ.load (v := .slice pb rb.length cb) isAgg25 rfl (CellAt.own 0 rfl rfl)) (SP.U (i := 7) rfl (SU.move rfl) (SP.U (i := 8) rfl (SU.indexAddr underlying25 sizeOf51 rfl rfl hb2 oM sL) (SP.K (i := 9) rfl (SQ.elemA isAgg51 sizeOf51 rfl hrb.rd g2) (SP.o (i := 10) rfl (SO.call call53 rfl (sameCell_spec E g _ l[k] m[k] _ _ h1 h2 hxl)) dC (.inr (by rintro _ _ _ ⟨rfl, rfl, rfl⟩; exact ⟨by exact Le.refl _, (by exact .refl _)⟩)) ?_))))))))))
   rintro _ _ _ ⟨rfl, rfl, rfl⟩
   refine SP.U (i := 11) rfl (SU.notP rfl) (SP.nil (ST.thenN ?_))
   refine SC.ifP rfl (fun hd => ?_) (fun hd => ?_)
   ·refine SC.seq (SC.region (SL.A rfl (SL.nil (ST.thenN (SC.ret (ST.blockR (ST.thenR (ST.thenR (ST.blockR (ST.thenR (ST.drop (s' := s) (.cons _ (.cons _ (.refl _))) ?_)))))))))))
    exact ST.ret1 (.inl rfl) results13 rfl ⟨by rw [decide_eq_false (fun e : l = m => hd (by simp [e]))], rfl, rfl⟩
   ·refine SC.skip (ST.blockN (ST.thenN (SC.region (SL.M rfl (SL.U (SU.add rfl rfl oM) (SL.A rfl (SL.nil ?_)))))))
    exact ST.again (k + 1) ⟨rfl, rfl, rfl, trivial⟩ rfl rfl ⟨oM, by rw [List.take_succ_eq_append_getElem hkl, List.take_succ_eq_append_getElem hkm, heq, Decidable.of_not_not hd]⟩ oM
  ·refine SC.exit (ST.thenX (ST.thenX (ST.blockX (ST.thenN (SC.seq (SC.region (SL.A rfl (SL.nil (ST.thenN (SC.ret ?_))))))))))
   have heq2 : l = m := by rw [List.take_of_length_le oM, List.take_of_length_le oM] at heq; exact heq
   refine ST.drop (s' := s) (.cons _ (.cons _ (.refl _))) ?_
   exact ST.ret1 (.inl rfl) results13 rfl ⟨by rw [decide_eq_true heq2], rfl, rfl⟩
def sumsL (L : List (Int × List Side)) : List (Int × Int) := L.foldl (fun zl p => p.2.foldl (fun zl r => addZ zl r.cell (p.1 * r.sign)) zl) []
def metL (L : List (Int × List Side)) : List (Int × List Int) := L.zipIdx.foldl (fun ml p => p.1.2.foldl (stepL p.2) ml) []
def aroundL (L : List (Int × List Side)) : Int :=
 if (sumsL L).any (fun p => decide (p.2 ≠ 0)) then 24
 else if (metL L).any (fun p => decide ((p.2.length : Int) ≠ 2)) then 25
 else if ((seenC (joinC (metL L))).length : Int) ≠ L.length then 25 else 0
def lookL (tl : List Cl) (c : Cl) : List (Int × List Side) := c.sides.map fun x => (x.sign, sidesOf tl x)
theorem aroundC_L (tl : List Cl) (c : Cl) : aroundC tl c = aroundL (lookL tl c) := by
 have h1 : sumsC tl c.sides = sumsL (lookL tl c) := by
  unfold sumsC sumsL lookL
  rw [List.foldl_map]
  rfl
 have h2 : metC tl c.sides = metL (lookL tl c) := by
  unfold metC metL lookL
  rw [List.zipIdx_map, List.foldl_map]
  rfl
 have h3 : (lookL tl c).length = c.sides.length := by simp [lookL]
 unfold aroundC aroundL
 rw [h1, h2, h3]
def renS (φ : Int → Int) (r : Side) : Side := ⟨φ r.cell, r.sign⟩
def renL (φ : Int → Int) (L : List (Int × List Side)) : List (Int × List Side) := L.map fun p => (p.1, p.2.map (renS φ))
def keyL (L : List (Int × List Side)) : List Int := L.flatMap fun p => p.2.map Side.cell
def ren1 {α : Type} (φ : Int → Int) (zl : List (Int × α)) : List (Int × α) := zl.map fun p => (φ p.1, p.2)
section
variable {φ : Int → Int} {K : Int → Prop} (hφ : ∀ a b, K a → K b → φ a = φ b → a = b)
include hφ
theorem addZ_ren {zl : List (Int × Int)} {k : Int} (x : Int) (hz : ∀ p ∈ zl, K p.1) (hk : K k) : addZ (ren1 φ zl) (φ k) x = ren1 φ (addZ zl k x) := by
 induction zl with
 | nil => rfl
 | cons p r ih =>
  obtain ⟨a, z⟩ := p
  have ha := hz (a, z) (by simp)
  simp only [ren1, List.map_cons, addZ] at ih ⊢
  by_cases h : k = a
  ·subst h; simp
  ·rw [if_neg h, if_neg fun e => h (hφ k a hk ha e)]
   simp only [List.map_cons]
   rw [ih fun p hp => hz p (by simp [hp])]
theorem addL_ren {zl : List (Int × List Int)} {k : Int} (x : Int) (hz : ∀ p ∈ zl, K p.1) (hk : K k) : addL (ren1 φ zl) (φ k) x = ren1 φ (addL zl k x) := by
 induction zl with
 | nil => rfl
 | cons p r ih =>
  obtain ⟨a, z⟩ := p
  have ha := hz (a, z) (by simp)
  simp only [ren1, List.map_cons, addL] at ih ⊢
  by_cases h : k = a
  ·subst h; simp
  ·rw [if_neg h, if_neg fun e => h (hφ k a hk ha e)]
   simp only [List.map_cons]
   rw [ih fun p hp => hz p (by simp [hp])]
omit hφ in
theorem addZ_key {zl : List (Int × Int)} {k x : Int} (hz : ∀ p ∈ zl, K p.1) (hk : K k) : ∀ p ∈ addZ zl k x, K p.1 := by
 induction zl with
 | nil => intro p hp; simp [addZ] at hp; subst hp; exact hk
 | cons q r ih =>
  obtain ⟨a, z⟩ := q
  have ha := hz (a, z) (by simp)
  intro p hp
  simp only [addZ] at hp
  split at hp
  ·rcases List.mem_cons.1 hp with rfl | hp
   ·exact ha
   ·exact hz p (by simp [hp])
  ·rcases List.mem_cons.1 hp with rfl | hp
   ·exact ha
   ·exact ih (fun p hp => hz p (by simp [hp])) p hp
omit hφ in
theorem addL_key {zl : List (Int × List Int)} {k x : Int} (hz : ∀ p ∈ zl, K p.1) (hk : K k) : ∀ p ∈ addL zl k x, K p.1 := by
 induction zl with
 | nil => intro p hp; simp [addL] at hp; subst hp; exact hk
 | cons q r ih =>
  obtain ⟨a, z⟩ := q
  have ha := hz (a, z) (by simp)
  intro p hp
  simp only [addL] at hp
  split at hp
  ·rcases List.mem_cons.1 hp with rfl | hp
   ·exact ha
   ·exact hz p (by simp [hp])
  ·rcases List.mem_cons.1 hp with rfl | hp
   ·exact ha
   ·exact ih (fun p hp => hz p (by simp [hp])) p hp
theorem sums1_ren (t : Int) : ∀ (l : List Side) (zl : List (Int × Int)), (∀ r ∈ l, K r.cell) → (∀ p ∈ zl, K p.1) →
  (l.map (renS φ)).foldl (fun zl r => addZ zl r.cell (t * r.sign)) (ren1 φ zl) = ren1 φ (l.foldl (fun zl r => addZ zl r.cell (t * r.sign)) zl) ∧ ∀ p ∈ l.foldl (fun zl r => addZ zl r.cell (t * r.sign)) zl, K p.1
 | [], zl, _, hz => ⟨rfl, hz⟩
 | r :: l, zl, hl, hz => by
  have hr := hl r (by simp)
  have := sums1_ren t l (addZ zl r.cell (t * r.sign)) (fun q hq => hl q (by simp [hq])) (addZ_key hz hr)
  simp only [List.map_cons, List.foldl_cons]
  rw [show (renS φ r).cell = φ r.cell from rfl, show (renS φ r).sign = r.sign from rfl, addZ_ren hφ _ hz hr]
  exact this
theorem met1_ren (t : Int) : ∀ (l : List Side) (zl : List (Int × List Int)), (∀ r ∈ l, K r.cell) → (∀ p ∈ zl, K p.1) →
  (l.map (renS φ)).foldl (stepL t) (ren1 φ zl) = ren1 φ (l.foldl (stepL t) zl) ∧ ∀ p ∈ l.foldl (stepL t) zl, K p.1
 | [], zl, _, hz => ⟨rfl, hz⟩
 | r :: l, zl, hl, hz => by
  have hr := hl r (by simp)
  have := met1_ren t l (addL zl r.cell t) (fun q hq => hl q (by simp [hq])) (addL_key hz hr)
  simp only [List.map_cons, List.foldl_cons]
  rw [show stepL t (ren1 φ zl) (renS φ r) = ren1 φ (addL zl r.cell t) from addL_ren hφ _ hz hr]
  exact this
theorem sums_ren : ∀ (L : List (Int × List Side)) (zl : List (Int × Int)), (∀ k ∈ keyL L, K k) → (∀ p ∈ zl, K p.1) →
  (renL φ L).foldl (fun zl p => p.2.foldl (fun zl r => addZ zl r.cell (p.1 * r.sign)) zl) (ren1 φ zl) = ren1 φ (L.foldl (fun zl p => p.2.foldl (fun zl r => addZ zl r.cell (p.1 * r.sign)) zl) zl)
 | [], _, _, _ => rfl
 | p :: L, zl, hl, hz => by
  obtain ⟨h1, h2⟩ := sums1_ren hφ p.1 p.2 zl (fun r hr => hl _ (List.mem_flatMap.2 ⟨p, by simp, List.mem_map.2 ⟨r, hr, rfl⟩⟩)) hz
  simp only [renL, List.map_cons, List.foldl_cons] at h1 ⊢
  rw [h1]
  exact sums_ren L _ (fun k hk => hl k (by simp only [keyL, List.flatMap_cons, List.mem_append]; exact .inr hk)) h2
theorem met_ren : ∀ (L : List (Int × List Side)) (i : Nat) (zl : List (Int × List Int)), (∀ k ∈ keyL L, K k) → (∀ p ∈ zl, K p.1) →
  ((renL φ L).zipIdx i).foldl (fun ml p => p.1.2.foldl (stepL p.2) ml) (ren1 φ zl) = ren1 φ ((L.zipIdx i).foldl (fun ml p => p.1.2.foldl (stepL p.2) ml) zl)
 | [], _, _, _, _ => rfl
 | p :: L, i, zl, hl, hz => by
  obtain ⟨h1, h2⟩ := met1_ren hφ i p.2 zl (fun r hr => hl _ (List.mem_flatMap.2 ⟨p, by simp, List.mem_map.2 ⟨r, hr, rfl⟩⟩)) hz
  simp only [renL, List.map_cons, List.zipIdx_cons, List.foldl_cons] at h1 ⊢
  rw [h1]
  exact met_ren L (i + 1) _ (fun k hk => hl k (by simp only [keyL, List.flatMap_cons, List.mem_append]; exact .inr hk)) h2
end
theorem any_ren {α : Type} (φ : Int → Int) (zl : List (Int × α)) (q : α → Bool) : (ren1 φ zl).any (fun p => q p.2) = zl.any (fun p => q p.2) := by
 simp only [ren1, List.any_map]
 rfl
theorem join_ren (φ : Int → Int) (ml : List (Int × List Int)) : joinC (ren1 φ ml) = joinC ml := by
 simp only [joinC, ren1, List.foldl_map]
 rfl
theorem aroundL_ren {φ : Int → Int} {L : List (Int × List Side)} (hφ : ∀ a ∈ keyL L, ∀ b ∈ keyL L, φ a = φ b → a = b) : aroundL (renL φ L) = aroundL L := by
 have h1 : sumsL (renL φ L) = ren1 φ (sumsL L) := sums_ren (K := fun k => k ∈ keyL L) (fun a b ha hb => hφ a ha b hb) L [] (fun _ h => h) (by simp)
 have h2 : metL (renL φ L) = ren1 φ (metL L) := met_ren (K := fun k => k ∈ keyL L) (fun a b ha hb => hφ a ha b hb) L 0 [] (fun _ h => h) (by simp)
 unfold aroundL
 rw [h1, h2, any_ren φ _ fun z => decide (z ≠ 0), any_ren φ _ fun l : List Int => decide ((l.length : Int) ≠ 2), join_ren]
 have h3 : (renL φ L).length = L.length := by simp [renL]
 rw [h3]
def code (k q : Nat) : Int := if q < k then ((q * 16 + k : Nat) : Int) else ((k * 16 + (q + 1) : Nat) : Int)
def patS (n : Nat) : List (Int × List Side) := (List.range n).reverse.map fun k : Nat => (signC k, (List.range (n - 1)).reverse.map fun q : Nat => ⟨code k q, signC q⟩)
theorem patS_ok : ∀ n, n < 10 → 2 < n → aroundL (patS n) = 0 := by decide +kernel
theorem pickB_cons (b : Nat) (a : Int) (l : List Int) : pickB b (a :: l) = (if b % 2 = 1 then [a] else []) ++ pickB (b / 2) l := by
 unfold pickB
 have hz : ∀ (l : List Int) (i : Nat), ((l.zipIdx (i + 1)).filter fun p => b / 2 ^ p.2 % 2 == 1).map (·.1) = ((l.zipIdx i).filter fun p => b / 2 / 2 ^ p.2 % 2 == 1).map (·.1) := by
  intro l
  induction l with
  | nil => intro i; rfl
  | cons x r ih =>
   intro i
   have hp : b / 2 ^ (i + 1) = b / 2 / 2 ^ i := by rw [Nat.pow_succ, Nat.mul_comm, Nat.div_div_eq_div_mul]
   simp only [List.zipIdx_cons, List.filter_cons, hp]
   have := ih (i + 1)
   split
   ·simp only [List.map_cons, this]
   ·exact this
 simp only [List.zipIdx_cons, List.filter_cons, Nat.pow_zero, Nat.div_one]
 by_cases h : b % 2 = 1
 ·simp only [h, if_true, beq_self_eq_true, List.map_cons]
  rw [hz l 0]
  rfl
 ·have h2 : (b % 2 == 1) = false := by simpa using h
  simp only [h, h2, if_false, Bool.false_eq_true]
  rw [hz l 0]
  rfl
theorem pickB_sub (l : List Int) : ∀ b, (pickB b l).Sublist l := by
 induction l with
 | nil => intro b; exact .slnil
 | cons a r ih =>
  intro b
  rw [pickB_cons]
  split
  ·exact (ih _).cons_cons a
  ·exact (ih _).cons a
theorem pickB_ne (l : List Int) : ∀ b, b ≠ 0 → b < 2 ^ l.length → pickB b l ≠ [] := by
 induction l with
 | nil => intro b h0 h; simp at h; exact absurd h h0
 | cons a r ih =>
  intro b h0 h
  rw [pickB_cons]
  split
  ·simp
  ·rename_i h1
   rw [List.length_cons, Nat.pow_succ] at h
   simpa using ih (b / 2) oM oM
theorem pick_of_sub {x l : List Int} (h : x.Sublist l) : ∃ b, b < 2 ^ l.length ∧ pickB b l = x := by
 induction h with
 | slnil => exact ⟨0, by simp, rfl⟩
 | cons a _ ih =>
  obtain ⟨b, hb, e⟩ := ih
  refine ⟨2 * b, by rw [List.length_cons, Nat.pow_succ]; omega, ?_⟩
  rw [pickB_cons, if_neg oM, show 2 * b / 2 = b by omega, e]
  rfl
 | cons_cons a _ ih =>
  obtain ⟨b, hb, e⟩ := ih
  refine ⟨2 * b + 1, by rw [List.length_cons, Nat.pow_succ]; omega, ?_⟩
  rw [pickB_cons, if_pos oM, show (2 * b + 1) / 2 = b by omega, e]
  rfl
theorem subsetsC_iff (t x : List Int) : x ∈ subsetsC t ↔ x.Sublist t ∧ x ≠ [] := by
 unfold subsetsC
 constructor
 ·intro h
  obtain ⟨i, hi, rfl⟩ := List.mem_map.1 h
  have := List.mem_range.1 hi
  exact ⟨pickB_sub _ _, pickB_ne _ _ oM oM⟩
 ·rintro ⟨h, hne⟩
  obtain ⟨b, hb, rfl⟩ := pick_of_sub h
  have h0 : b ≠ 0 := fun e => by
   subst e
   apply hne
   have : ∀ l : List Int, pickB 0 l = [] := by
    intro l
    induction l with
    | nil => rfl
    | cons a r ih => rw [pickB_cons]; simpa using ih
   exact this t
  exact List.mem_map.2 ⟨b - 1, List.mem_range.2 oM, by rw [show b - 1 + 1 = b by omega]⟩
structure Good (all : List (List Int)) : Prop where
 strict : StrictL all
 form : ∀ s ∈ all, s ≠ [] ∧ StrictI s ∧ s.length ≤ 9
 faces : ∀ s ∈ all, 2 ≤ s.length → ∀ k, k < s.length → s.eraseIdx k ∈ all
theorem Good.nil : Good [] := ⟨List.Pairwise.nil, by simp, by simp⟩
theorem Good.add {all : List (List Int)} {t : List Int} (h : Good all) (ht : StrictI t) (hl : t.length ≤ 9) : Good (addSets all t) := by
 refine ⟨addSets_strict all t, fun s hs => ?_, fun s hs h2 k hk => ?_⟩
 ·rcases (addSets_iff all t s).1 hs with h1 | h1
  ·exact h.form s h1
  ·obtain ⟨h2, h3⟩ := (subsetsC_iff t s).1 h1
   exact ⟨h3, ht.sublist h2, Nat.le_trans h2.length_le hl⟩
 ·refine (addSets_iff all t _).2 ?_
  rcases (addSets_iff all t s).1 hs with h1 | h1
  ·exact .inl (h.faces s h1 h2 k hk)
  ·refine .inr ((subsetsC_iff t _).2 ⟨(List.eraseIdx_sublist s k).trans ((subsetsC_iff t s).1 h1).1, fun e => ?_⟩)
   have := congrArg List.length e
   rw [List.length_eraseIdx] at this
   simp [hk] at this
   omega
theorem simpAll_good : ∀ (ls acc : List (List Int)) {all : List (List Int)}, simpAll acc ls = some all → Good acc → acc.length ≤ 4000 → Good all ∧ all.length ≤ 4000
 | [], acc, all, h, hg, hl => by cases h; exact ⟨hg, hl⟩
 | s :: r, acc, all, h, hg, hl => by
  unfold simpAll at h
  split at h
  ·exact simpAll_good r acc h hg hl
  ·rename_i hb
   split at h
   ·cases h
   ·rename_i hlen
    refine simpAll_good r _ h (hg.add (setC_strict s) ?_) oM
    cases hc : setC s with
    | nil => simp
    | cons a q =>
     rw [hc] at hb
     simp [badSet] at hb
     simp
     omega
section
variable {all : List (List Int)} (hg : Good all)
include hg
theorem Good.get_lb {t : List Int} (ht : t ∈ all) : all[lbL all t]? = some t := by
 obtain ⟨h1, h2⟩ := lbL_split t hg.strict.srt
 have hs : StrictL (all.take (lbL all t) ++ all.drop (lbL all t)) := by rw [List.take_append_drop]; exact hg.strict
 have hd := (List.pairwise_append.1 hs).2.1
 have hm : t ∈ all.drop (lbL all t) := by
  have : t ∈ all.take (lbL all t) ++ all.drop (lbL all t) := by rw [List.take_append_drop]; exact ht
  rcases List.mem_append.1 this with h | h
  ·have := h1 t h
   rw [compareC_self] at this
   exact absurd this dC
  ·exact h
 have e : all[lbL all t]? = (all.drop (lbL all t))[0]? := by simp
 rw [e]
 cases hc : all.drop (lbL all t) with
 | nil => rw [hc] at hm; simp at hm
 | cons y r =>
  rw [hc] at hm hd h2
  rcases List.mem_cons.1 hm with rfl | hm
  ·rfl
  ·exact absurd ((List.pairwise_cons.1 hd).1 t hm) (h2 y (by simp))
theorem Good.lb_get {k : Nat} (hk : k < all.length) : lbL all all[k] = k := by
 have h1 := hg.get_lb (List.getElem_mem hk)
 obtain ⟨h2, h3⟩ := List.getElem?_eq_some_iff.1 h1
 have hself : ¬ compareC all[k] all[k] < 0 := by rw [compareC_self]; decide
 rcases Nat.lt_trichotomy (lbL all all[k]) k with h | h | h
 ·have := List.pairwise_iff_getElem.1 hg.strict _ _ h2 hk h
  rw [h3] at this
  exact absurd this hself
 ·exact h
 ·have := List.pairwise_iff_getElem.1 hg.strict _ _ hk h2 h
  rw [h3] at this
  exact absurd this hself
end
def ixC (all : List (List Int)) (t : List Int) : Int := ((lbL all t : Nat) : Int) + 1
theorem Good.inj {all : List (List Int)} (hg : Good all) {t u : List Int} (ht : t ∈ all) (hu : u ∈ all) (h : ixC all t = ixC all u) : t = u := by
 have h1 := hg.get_lb ht
 have h2 := hg.get_lb hu
 have : lbL all t = lbL all u := by unfold ixC at h; omega
 rw [this, h2] at h1
 injection h1 with h1
 exact h1.symm
theorem Good.lt {all : List (List Int)} (hg : Good all) {t u : List Int} (ht : t ∈ all) (hu : u ∈ all) (h : compareC t u < 0) : ixC all t < ixC all u := by
 obtain ⟨i1, e1⟩ := List.getElem?_eq_some_iff.1 (hg.get_lb ht)
 obtain ⟨i2, e2⟩ := List.getElem?_eq_some_iff.1 (hg.get_lb hu)
 unfold ixC
 rcases Nat.lt_trichotomy (lbL all t) (lbL all u) with h1 | h1 | h1
 ·omega
 ·have : t = u := hg.inj ht hu (by unfold ixC; omega)
  subst this
  rw [compareC_self] at h
  exact absurd h dC
 ·have := List.pairwise_iff_getElem.1 hg.strict _ _ i2 i1 h1
  rw [e1, e2] at this
  exact absurd h (compareC_asymm this)
def facesC (all : List (List Int)) (s : List Int) : List Side := if s.length ≤ 1 then [] else (List.range s.length).reverse.map fun k : Nat => ⟨ixC all (s.eraseIdx k), signC k⟩
def celC (all : List (List Int)) (s : List Int) : Cl := ⟨ixC all s, (s.length : Int) - 1, facesC all s⟩
theorem erase_lt {s : List Int} (hs : StrictI s) : ∀ {i j : Nat}, i < j → j < s.length → compareC (s.eraseIdx j) (s.eraseIdx i) < 0 := by
 induction s with
 | nil => intro i j _ h; simp at h
 | cons a r ih =>
  intro i j hij hj
  obtain ⟨h1, h2⟩ := List.pairwise_cons.1 hs
  cases j with
  | zero => omega
  | succ j =>
   simp only [List.length_cons] at hj
   cases i with
   | zero =>
    cases r with
    | nil => simp at hj
    | cons b q =>
     have hab := h1 b (by simp)
     have hl : ((a :: b :: q).eraseIdx (j + 1)).length = ((a :: b :: q).eraseIdx 0).length := by
      simp [List.length_eraseIdx] at hj ⊢
      omega
     rw [compareC_same hl]
     simp only [List.eraseIdx_cons_succ, List.eraseIdx_cons_zero, cmpL]
     have : cmpI a b = -1 := by unfold cmpI; rw [if_pos hab]
     simp [this]
   | succ i =>
    have h3 := ih h2 (i := i) (j := j) oM oM
    have hl : (r.eraseIdx j).length = (r.eraseIdx i).length := by
     rw [List.length_eraseIdx, List.length_eraseIdx, if_pos oM, if_pos oM]
    have hl2 : ((a :: r).eraseIdx (j + 1)).length = ((a :: r).eraseIdx (i + 1)).length := by simp [hl]
    rw [compareC_same hl] at h3
    rw [compareC_same hl2]
    simp only [List.eraseIdx_cons_succ, cmpL]
    have : cmpI a a = 0 := by unfold cmpI; rw [if_neg oM, if_neg oM]
    simpa [this] using h3
end Go.Proofs.YtkdibcicncjpdaaGreat
