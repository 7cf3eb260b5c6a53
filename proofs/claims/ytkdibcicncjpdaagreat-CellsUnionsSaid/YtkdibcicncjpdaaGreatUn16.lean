/-
  'CellsUnions': for complexes with a change, Union and Meet return what the reference model returns. No condition.
-/
import Derived.Test.YtkdibcicncjpdaaGreatUn15
import Derived.Test.YtkdibcicncjpdaaGreatUn14
import Derived.Test.YtkdibcicncjpdaaGreatUn09
set_option linter.unusedSimpArgs false
set_option linter.unusedVariables false
namespace Go.Proofs.YtkdibcicncjpdaaGreat
open _root_.Go.Proofs.Tryz _root_.Go.Proofs.YtkdibcicncjpdaaGreat.Tryz
open Go Go.Sy Go.Pl Go.Proofs
set_option maxRecDepth 100000
set_option maxHeartbeats 1000000
theorem fill_set {α β : Type} {L : List α} {f : α → β} {d : β} {i : Nat} {x : α} (h : L[i]? = some x) : ((L.take i).map f ++ List.replicate (L.length - i) d).set i (f x) = (L.take (i + 1)).map f ++ List.replicate (L.length - (i + 1)) d := by
 obtain ⟨hi, hx⟩ := List.getElem?_eq_some_iff.1 h
 have h1 : L.length - i = (L.length - (i + 1)) + 1 := oM
 have h2 : ((L.take i).map f).length = i := by simp; omega
 rw [h1, List.replicate_succ, List.set_append_right _ _ oM, h2, Nat.sub_self, List.set_cons_zero, List.take_succ_eq_append_getElem hi, hx]
 simp
theorem refMeet_spec (E : World) (g : PH) (s : Own) (v u : Value) (a b : List Cl) (hv : Cells g v a) (hu : Cells g u b) (ha : Fits a) (hb : Fits b) (hcost : 1 + costF (tabC a) [] < 1099511627776) :
  Ctr Tryz.prog E 26 #[.agg #[v], .agg #[u]] g s (fun r g' s' => s = s' ∧ Le g g' ∧ ∃ x, r = .agg #[x] ∧ Cells g' x (meetC (tabC a) (tabC b))) := by
 obtain ⟨p1, c1, rfl⟩ := hv.form
 obtain ⟨p2, c2, rfl⟩ := hu.form
 have hfa := tabC_fits ha
 have hfb := tabC_fits hb
 have hnA := tabC_nodup a
 have hsA := tabC_sorted a
 have hsB := tabC_sorted b
 refine Ctr.of (args := [.agg #[.slice p1 a.length c1], .agg #[.slice p2 b.length c2]]) func26 rfl ntmps26 (Nat.le_of_ble_eq_true rfl) ?_
 refine SC.seq (SC.region (SL.W (SO.box rfl) ?_))
 rintro _ _ _ ⟨b2, rfl, rfl, rfl⟩
 refine SL.W (SO.box rfl) ?_
 rintro _ _ _ ⟨b3, rfl, rfl, rfl⟩
 refine SL.W (SO.alloc zeroValue27) ?_
 rintro _ _ _ ⟨b4, rfl, rfl, rfl⟩
 refine SL.nil (ST.thenN (SC.seq (SC.region (SL.K (SQ.loadVarK 2 isAgg27 sizeOf27 rfl rfl rfl) (SL.W (SO.call call61 rfl (refCells_spec E g _ _ a hv ha)) ?_)))))
 rintro x16 g1 _ ⟨rfl, hle1, hCa1⟩
 refine SL.A rfl (SL.nil (ST.thenN (SC.seq (SC.region (SL.K (SQ.loadVarK 1 isAgg27 sizeOf27 rfl rfl rfl) (SL.W (SO.call call61 rfl (refCells_spec E g1 _ _ b (hu.mono hle1) hb)) ?_))))))
 rintro x18 g2 _ ⟨rfl, hle2, hCb⟩
 have hCa := hCa1.mono hle2
 clear hCa1
 generalize tabC a = A at *
 generalize tabC b = B at *
 have hCa0 := hCa
 have hCb0 := hCb
 obtain ⟨ra, hra, halla⟩ := hCa0
 obtain ⟨rb, hrb, hallb⟩ := hCb0
 obtain ⟨qa, da, rfl⟩ := hra.form
 obtain ⟨qb, db, rfl⟩ := hrb.form
 have eal := halla.length
 have ebl := hallb.length
 have hal := hfa.1
 have hbl := hfb.1
 refine SL.A rfl (SL.nil (ST.thenN (SC.seq (SC.region (SL.M rfl (SL.U (SU.lenN underlying25 rfl) (SL.W (SO.makeA encBool false sty99 rfl rfl rfl oM oM) ?_)))))))
 rintro _ _ _ ⟨b7, rfl, rfl, rfl⟩
 refine SL.A rfl (SL.nil (ST.thenN ?_))
 refine SC.cut (ι := Unit) (fun _ => [(4, pp b4 0), (5, .slice qa ra.length da), (7, .slice (some ⟨b7, 0, none⟩) ra.length ra.length)]) (fun _ => g2)
  (fun _ => rowA encBool 4 (.slice (some ⟨b7, 0, none⟩) ra.length ra.length) (A.map (inB B)) :: pt b4 (.cells #[.slice none 0 0] 27 (0, 0)) :: s) (fun _ => True) ?_ ?_
 ·refine SC.seq (SC.region (SL.A rfl (SL.nil (ST.thenN (SC.block ?_)))))
  refine SC.to (g' := g2) (s' := rowA encBool 4 (.slice (some ⟨b7, 0, none⟩) ra.length ra.length) ((A.take 0).map (inB B) ++ List.replicate (A.length - 0) false) :: pt b4 (.cells #[.slice none 0 0] 27 (0, 0)) :: s) (fun w hw => by
   have h0 : (A.take 0).map (inB B) ++ List.replicate (A.length - 0) false = List.replicate ra.length false := by rw [eal]; simp
   rw [h0]
   exact hw.sublist (.cons_cons _ (.cons_cons _ (.cons _ (.cons _ (.refl _)))))) ?_
  refine SC.loop (ι := Nat) (fun i => [(4, pp b4 0), (5, .slice qa ra.length da), (6, .slice qb rb.length db), (7, .slice (some ⟨b7, 0, none⟩) ra.length ra.length), (8, vi i)]) (fun _ => g2)
   (fun i => rowA encBool 4 (.slice (some ⟨b7, 0, none⟩) ra.length ra.length) ((A.take i).map (inB B) ++ List.replicate (A.length - i) false) :: pt b4 (.cells #[.slice none 0 0] 27 (0, 0)) :: s) (fun i => i ≤ A.length) (fun i => A.length - i) 0
   ⟨rfl, rfl, rfl, rfl, rfl, trivial⟩ rfl rfl (Nat.zero_le _) ?_
  intro i hi
  try dsimp only at hi ⊢
  refine SC.seq (SC.seq (SC.region (SL.M rfl (SL.M rfl (SL.U (SU.lenN underlying25 rfl) (SL.U (SU.lss rfl rfl) (SL.nil (ST.thenN ?_))))))))
  refine SC.ifP rfl (fun hlt => ?_) (fun hlt => ?_)
  ·have hil : i < A.length := oM
   have hir : i < ra.length := oM
   have hgA : A[i]? = some A[i] := List.getElem?_eq_getElem hil
   have hb1 := hra.based oM
   have hxr := halla.get hgA (List.getElem?_eq_getElem hir)
   have hgx : ra[((i : Nat) : Int).toNat]? = some ra[i] := List.getElem?_eq_getElem hir
   have hxm := List.getElem_mem hil
   have hfs := fill_set (f := inB B) (d := false) hgA
   have hfl : ((A.take i).map (inB B) ++ List.replicate (A.length - i) false).length = A.length := by simp; omega
   generalize A[i] = x at *
   have hxl := hfa.2 x hxm
   obtain ⟨xp, xcap, hrx, hxs⟩ := cellR_form hxr
   rw [hrx] at hgx hxr
   rcases at_find hsB x.id with ⟨hf0, hat⟩ | ⟨y, k, hf0, hat, hgy0⟩
   ·have hin : inB B x = false := by unfold inB; rw [hf0]
    rw [hin] at hfs
    refine SC.skip (ST.thenN (SC.seq (SC.block (SC.seq (SC.region (SL.M rfl (SL.M rfl (SL.M rfl (SL.U (SU.indexAddr underlying25 sizeOf51 rfl rfl hb1 oM sL) (SL.U (SU.fieldAddrC underlying51 rfl sizeOf3 rfl hb1) (SL.K (SQ.partA (e := encCell) (o := 0) (u := vi x.id) isAgg3 rfl hra.rd hgx rfl) (SL.W (SO.call call62 rfl (at_spec E g2 _ _ B x.id hCb oM hsB)) ?_))))))))))))
    rintro _ _ _ ⟨rfl, rfl, rfl⟩
    rw [hat]
    refine SL.A rfl (SL.nil (ST.thenN ?_))
    refine SC.draw [16] [(0, 2), (1, 2), (2, 2), (3, 2), (4, 2), (5, 2), (6, 2), (7, 2), (8, 1), (9, 2), (10, 2), (11, 2), (12, 1), (13, 0), (14, 2), (15, 2), (16, 0)] Tryz.mixed (by kernel_rfl) ?_
    refine SP.U (i := 0) rfl (SU.move rfl) (SP.U (i := 1) rfl (SU.move rfl) (SP.U (i := 2) rfl (SU.move rfl) (SP.U (i := 3) rfl (SU.eq (v' := vb false) (SU.geq rfl rfl) rfl) (SP.U (i := 4) rfl (SU.move rfl) (SP.off (i := 5) rfl (Gd.onF rfl rfl rfl dC) dC (SP.off (i := 6) rfl (Gd.onF rfl rfl rfl dC) dC (SP.off (i := 7) rfl (Gd.onF rfl rfl rfl dC) dC (SP.off1 (i := 8) rfl (Gd.onF rfl rfl rfl dC) dC (SP.off (i := 9) rfl (Gd.onF rfl rfl rfl dC) dC (SP.off (i := 10) rfl (Gd.onF rfl rfl rfl dC) dC (SP.off (i := 11) rfl (Gd.onF rfl rfl rfl dC) dC (SP.off1 (i := 12) rfl (Gd.onF rfl rfl rfl dC) dC (SP.offo (i := 13) rfl (Gd.onF rfl rfl rfl dC) dC ⟨by exact Le.refl _, (by exact .refl _)⟩ ?_)))))))))))))
    refine SP.U (i := 14) rfl (SU.pickF rfl rfl) (SP.U (i := 15) rfl (SU.indexAddr underlying99 sizeOf4 rfl rfl rfl oM sL) (SP.on (i := 16) rfl (SO.setA (e := encBool) (a := false) 0 sizeOf4 rfl rfl rfl (by rw [hfl]; omega) rfl) (.inl dC) ?_))
    rintro _ _ _ ⟨rfl, rfl⟩
    refine SP.nil (ST.blockN (ST.thenN (SC.region (SL.M rfl (SL.U (SU.add rfl rfl oM) (SL.A rfl (SL.nil ?_)))))))
    exact ST.again (i + 1) ⟨rfl, rfl, rfl, rfl, rfl, trivial⟩ rfl (by rw [← hfs]; rfl) lN lN
   ·have hkl : k < B.length := (List.getElem?_eq_some_iff.1 hgy0).1
    have hkr : k < rb.length := oM
    have hyr := hallb.get hgy0 (List.getElem?_eq_getElem hkr)
    have hgy : rb[((k : Nat) : Int).toNat]? = some rb[k] := List.getElem?_eq_getElem hkr
    have hb2 := hrb.based oM
    have hin : inB B x = decide (x = y) := by unfold inB; rw [hf0]
    rw [hin] at hfs
    obtain ⟨yp, ycap, hry, hys⟩ := cellR_form hyr
    rw [hry] at hgy hyr
    refine SC.skip (ST.thenN (SC.seq (SC.block (SC.seq (SC.region (SL.M rfl (SL.M rfl (SL.M rfl (SL.U (SU.indexAddr underlying25 sizeOf51 rfl rfl hb1 oM sL) (SL.U (SU.fieldAddrC underlying51 rfl sizeOf3 rfl hb1) (SL.K (SQ.partA (e := encCell) (o := 0) (u := vi x.id) isAgg3 rfl hra.rd hgx rfl) (SL.W (SO.call call62 rfl (at_spec E g2 _ _ B x.id hCb oM hsB)) ?_))))))))))))
    rintro _ _ _ ⟨rfl, rfl, rfl⟩
    rw [hat]
    refine SL.A rfl (SL.nil (ST.thenN ?_))
    refine SC.draw [16] [(0, 2), (1, 2), (2, 2), (3, 2), (4, 2), (5, 2), (6, 2), (7, 2), (8, 1), (9, 2), (10, 2), (11, 2), (12, 1), (13, 0), (14, 2), (15, 2), (16, 0)] Tryz.mixed (by kernel_rfl) ?_
    refine SP.U (i := 0) rfl (SU.move rfl) (SP.U (i := 1) rfl (SU.move rfl) (SP.U (i := 2) rfl (SU.move rfl) (SP.U (i := 3) rfl (SU.eq (v' := vb true) (SU.geq rfl rfl) (congrArg vb (decide_eq_true oM))) (SP.U (i := 4) rfl (SU.move rfl) (SP.gu (i := 5) rfl (Gd.onT rfl rfl rfl dC) (SU.move rfl) dC (SP.gu (i := 6) rfl (Gd.onT rfl rfl rfl dC) (SU.move rfl) dC (SP.gu (i := 7) rfl (Gd.onT rfl rfl rfl dC) (SU.indexAddr underlying25 sizeOf51 rfl rfl hb1 oM sL) dC (SP.gq (i := 8) rfl (Gd.onT rfl rfl rfl dC) (SQ.elemA isAgg51 sizeOf51 rfl hra.rd hgx) dC (SP.gu (i := 9) rfl (Gd.onT rfl rfl rfl dC) (SU.move rfl) dC (SP.gu (i := 10) rfl (Gd.onT rfl rfl rfl dC) (SU.move rfl) dC (SP.gu (i := 11) rfl (Gd.onT rfl rfl rfl dC) (SU.indexAddr underlying25 sizeOf51 rfl rfl hb2 oM sL) dC (SP.gq (i := 12) rfl (Gd.onT rfl rfl rfl dC) (SQ.elemA isAgg51 sizeOf51 rfl hrb.rd hgy) dC (SP.go (i := 13) rfl (Gd.onT rfl rfl rfl dC) (SO.call call53 rfl (sameCell_spec E g2 _ x y _ _ hxr hyr hxl)) dC (.inr (by rintro _ _ _ ⟨rfl, rfl, rfl⟩; exact ⟨by exact Le.refl _, (by exact .refl _)⟩)) ?_)))))))))))))
    rintro _ _ _ ⟨rfl, rfl, rfl⟩
    refine SP.U (i := 14) rfl (SU.pickT rfl rfl) (SP.U (i := 15) rfl (SU.indexAddr underlying99 sizeOf4 rfl rfl rfl oM sL) (SP.on (i := 16) rfl (SO.setA (e := encBool) (a := decide (x = y)) 0 sizeOf4 rfl rfl rfl (by rw [hfl]; omega) rfl) (.inl dC) ?_))
    rintro _ _ _ ⟨rfl, rfl⟩
    refine SP.nil (ST.blockN (ST.thenN (SC.region (SL.M rfl (SL.U (SU.add rfl rfl oM) (SL.A rfl (SL.nil ?_)))))))
    exact ST.again (i + 1) ⟨rfl, rfl, rfl, rfl, rfl, trivial⟩ rfl (by rw [← hfs]; rfl) lN lN
  ·have hii : A.take i = A := List.take_of_length_le oM
   have hiz : A.length - i = 0 := oM
   refine SC.exit (ST.thenX (ST.thenX (ST.blockX ?_)))
   exact ST.mid () ⟨rfl, rfl, rfl, trivial⟩ rfl (by rw [hii, hiz]; simp) trivial
 rintro _ -
 refine SC.freezeRow fun g3 hle3 heq => ?_
 replace heq : SlA encBool g3 (.slice (some ⟨b7, 0, none⟩) ra.length ra.length) (A.map (inB B)) := heq
 have hle23 := hle1.trans (hle2.trans hle3)
 replace hCa := hCa.mono hle3
 replace hra := hra.mono hle3
 replace halla := halla.mono fun _ _ => CellR.mono hle3
 refine SC.seq (SC.region (SL.W (SO.alloc zeroValue27) ?_))
 rintro _ _ _ ⟨b10, rfl, rfl, rfl⟩
 refine SL.nil (ST.thenN (SC.seq (SC.seq (SC.region (SL.A rfl (SL.nil (ST.thenN (SC.block (SC.nilRow 51 3 ?_)))))))))
 refine SC.loop (ι := Value × List Rc × Nat) (fun i => [(4, pp b4 0), (5, .slice qa ra.length da), (7, .slice (some ⟨b7, 0, none⟩) ra.length ra.length), (10, pp b10 0), (11, vi i.2.2)]) (fun _ => g3)
  (fun i => rowA encCell 51 i.1 i.2.1 :: pt b10 (.cells #[i.1] 27 (0, 0)) :: pt b4 (.cells #[.slice none 0 0] 27 (0, 0)) :: s)
  (fun i => i.2.2 ≤ A.length ∧ All2 (CellR g3) ((A.take i.2.2).filter (meetP A B)) i.2.1) (fun i => A.length - i.2.2)
  (.slice none 0 0, [], 0) ⟨rfl, rfl, rfl, rfl, rfl, trivial⟩ rfl rfl ⟨Nat.zero_le _, trivial⟩ ?_
 rintro ⟨ov, acc, i⟩ ⟨hi, hacc⟩
 dsimp only at hi hacc ⊢
 have hal2 := hacc.length
 have hfl2 := List.length_filter_le (meetP A B) (A.take i)
 rw [List.length_take] at hfl2
 refine SC.seq (SC.seq (SC.region (SL.M rfl (SL.M rfl (SL.U (SU.lenN underlying25 rfl) (SL.U (SU.lss rfl rfl) (SL.nil (ST.thenN ?_))))))))
 refine SC.ifP rfl (fun hlt => ?_) (fun hlt => ?_)
 ·have hil : i < A.length := oM
  have hir : i < ra.length := oM
  have hgA : A[i]? = some A[i] := List.getElem?_eq_getElem hil
  have hb1 := hra.based oM
  have hxr := halla.get hgA (List.getElem?_eq_getElem hir)
  have hgx : ra[((i : Nat) : Int).toNat]? = some ra[i] := List.getElem?_eq_getElem hir
  have hxm := List.getElem_mem hil
  have htk : A.take (i + 1) = A.take i ++ [A[i]] := List.take_succ_eq_append_getElem hil
  generalize A[i] = x at *
  obtain ⟨xp, xcap, hrx, hxs⟩ := cellR_form hxr
  rw [hrx] at hgx hxr
  have hmr := meetP_ref (B := B) hnA x
  refine SC.skip (ST.thenN (SC.seq (SC.block (SC.seq (SC.region (SL.M rfl (SL.M rfl (SL.M rfl (SL.U (SU.indexAddr underlying25 sizeOf51 rfl rfl hb1 oM sL) (SL.U (SU.fieldAddrC underlying51 rfl sizeOf3 rfl hb1) (SL.K (SQ.partA (e := encCell) (o := 0) (u := vi x.id) isAgg3 rfl hra.rd hgx rfl) (SL.W (SO.buildSlice sty45 rfl rfl rfl (szs_mk ⟨rfl, trivial⟩) dC) ?_))))))))))))
  rintro _ _ _ ⟨b63, rfl, rfl, rfl⟩
  refine SL.freeze fun g4 hle4 hb63 => ?_
  have hi4 : Ints g4 (.slice (some ⟨b63, 0, none⟩) 1 1) [x.id] := SlA.lit hb63 rfl rfl
  refine SL.W (SO.call call73 rfl (reached_spec E g4 _ _ _ A [x.id] (hCa.mono hle4) hi4 hfa hsA hnA (by simpa using hcost))) ?_
  rintro v64 g5 _ ⟨rfl, hle5, hfg⟩
  obtain ⟨q64, d64, rfl⟩ := SlA.form hfg
  refine SL.A rfl (SL.nil (ST.thenN (SC.seq (SC.region (SL.A rfl (SL.nil (ST.thenN ?_)))))))
  have hfgl : (flags A (closF A [x.id])).length = A.length := by simp [flags]
  have hle45 := hle4.trans hle5
  refine SC.cut (ι := Unit) (fun _ => [(4, pp b4 0), (5, .slice qa ra.length da), (7, .slice (some ⟨b7, 0, none⟩) ra.length ra.length), (10, pp b10 0), (11, vi i), (13, vb (meetP A B x))]) (fun _ => g3)
   (fun _ => rowA encCell 51 ov acc :: pt b10 (.cells #[ov] 27 (0, 0)) :: pt b4 (.cells #[.slice none 0 0] 27 (0, 0)) :: s) (fun _ => True) ?_ ?_
  ·refine SC.seq (SC.region (SL.A rfl (SL.nil (ST.thenN (SC.block ?_)))))
   refine SC.loop (ι := Bool × Nat) (fun q => [(4, pp b4 0), (5, .slice qa ra.length da), (7, .slice (some ⟨b7, 0, none⟩) ra.length ra.length), (10, pp b10 0), (11, vi i), (12, .slice q64 (flags A (closF A [x.id])).length d64), (13, vb q.1), (14, vi q.2)]) (fun _ => g5)
    (fun _ => rowA encCell 51 ov acc :: pt b10 (.cells #[ov] 27 (0, 0)) :: pt b4 (.cells #[.slice none 0 0] 27 (0, 0)) :: s)
    (fun q => q.2 ≤ A.length ∧ q.1 = (A.take q.2).all fun y => !(closF A [x.id]).contains y.id || inB B y) (fun q => A.length - q.2) (true, 0)
    ⟨rfl, rfl, rfl, rfl, rfl, rfl, rfl, rfl, trivial⟩ rfl rfl ⟨Nat.zero_le _, by simp⟩ ?_
   rintro ⟨fine, j⟩ ⟨hj, hfine⟩
   dsimp only at hj hfine ⊢
   refine SC.seq (SC.seq (SC.region (SL.M rfl (SL.M rfl (SL.U (SU.lenN underlying25 rfl) (SL.U (SU.lss rfl rfl) (SL.nil (ST.thenN ?_))))))))
   refine SC.ifP rfl (fun hlt2 => ?_) (fun hlt2 => ?_)
   ·have hjl : j < A.length := oM
    have hgj : A[j]? = some A[j] := List.getElem?_eq_getElem hjl
    have hj1 : (flags A (closF A [x.id]))[((j : Nat) : Int).toNat]? = some ((closF A [x.id]).contains A[j].id) := flags_get hgj
    have hj2 : (A.map (inB B))[((j : Nat) : Int).toNat]? = some (inB B A[j]) := by simp [hjl]
    have htj : A.take (j + 1) = A.take j ++ [A[j]] := List.take_succ_eq_append_getElem hjl
    have hb64 := SlA.based hfg oM
    generalize A[j] = y at *
    generalize hmk : (closF A [x.id]).contains y.id = mk at *
    generalize hib : inB B y = ib at *
    have hnext : (A.take (j + 1)).all (fun y => !(closF A [x.id]).contains y.id || inB B y) = (fine && (!mk || ib)) := by
     rw [htj, List.all_append, ← hfine]
     simp only [List.all_cons, List.all_nil, hmk, hib, Bool.and_true]
    cases fine with
    | false =>
     refine SC.skip (ST.thenN (SC.seq (SC.block (SC.region (SL.M rfl (SL.M rfl (SL.Z rfl rfl rfl (SL.Z rfl rfl rfl (SL.Z rfl rfl rfl (SL.Z rfl rfl rfl (SL.Z rfl rfl rfl (SL.Z rfl rfl rfl (SL.off (Gd.off rfl rfl rfl dC) dC (SL.off (Gd.off rfl rfl rfl dC) dC (SL.off (Gd.off rfl rfl rfl dC) dC (SL.off (Gd.off rfl rfl rfl dC) dC (SL.Z rfl rfl rfl (SL.U (SU.pickF rfl rfl) (SL.A rfl (SL.nil (ST.blockN (ST.thenN (SC.region (SL.M rfl (SL.U (SU.add rfl rfl oM) (SL.A rfl (SL.nil ?_)))))))))))))))))))))))))))
     exact ST.again (false, j + 1) ⟨rfl, rfl, rfl, rfl, rfl, rfl, rfl, rfl, trivial⟩ rfl rfl ⟨lN, by rw [hnext]; rfl⟩ lN
    | true =>
     cases mk with
     | false =>
      refine SC.skip (ST.thenN (SC.seq (SC.block (SC.region (SL.M rfl (SL.M rfl (SL.Y rfl rfl rfl (SU.move rfl) (SL.Y rfl rfl rfl (SU.move rfl) (SL.Y rfl rfl rfl (SU.indexAddr underlying99 sizeOf4 rfl rfl hb64 oM sL) (SL.gq (Gd.onT rfl rfl rfl dC) (SQ.elem1 (e := encBool) isAgg4 rfl (SlA.rd hfg) hj1 rfl) dC (SL.Y rfl rfl rfl (SU.not rfl) (SL.Y rfl rfl rfl (SU.move rfl) (SL.Z rfl rfl rfl (SL.Z rfl rfl rfl (SL.Z rfl rfl rfl (SL.Z rfl rfl rfl (SL.Y rfl rfl rfl (SU.pickT rfl rfl) (SL.U (SU.pickT rfl rfl) (SL.A rfl (SL.nil (ST.blockN (ST.thenN (SC.region (SL.M rfl (SL.U (SU.add rfl rfl oM) (SL.A rfl (SL.nil ?_)))))))))))))))))))))))))))
      exact ST.again (true, j + 1) ⟨rfl, rfl, rfl, rfl, rfl, rfl, rfl, rfl, trivial⟩ rfl rfl ⟨lN, by rw [hnext]; rfl⟩ lN
     | true =>
      refine SC.skip (ST.thenN (SC.seq (SC.block (SC.region (SL.M rfl (SL.M rfl (SL.Y rfl rfl rfl (SU.move rfl) (SL.Y rfl rfl rfl (SU.move rfl) (SL.Y rfl rfl rfl (SU.indexAddr underlying99 sizeOf4 rfl rfl hb64 oM sL) (SL.gq (Gd.onT rfl rfl rfl dC) (SQ.elem1 (e := encBool) isAgg4 rfl (SlA.rd hfg) hj1 rfl) dC (SL.Y rfl rfl rfl (SU.not rfl) (SL.Y rfl rfl rfl (SU.move rfl) (SL.Y rfl rfl rfl (SU.move rfl) (SL.Y rfl rfl rfl (SU.move rfl) (SL.Y rfl rfl rfl (SU.indexAddr underlying99 sizeOf4 rfl rfl rfl oM sL) (SL.gq (Gd.onT rfl rfl rfl dC) (SQ.elem1 (e := encBool) isAgg4 rfl (SlA.rd (heq.mono hle45)) hj2 rfl) dC (SL.Y rfl rfl rfl (SU.pickF rfl rfl) (SL.U (SU.pickT rfl rfl) (SL.A rfl (SL.nil (ST.blockN (ST.thenN (SC.region (SL.M rfl (SL.U (SU.add rfl rfl oM) (SL.A rfl (SL.nil ?_)))))))))))))))))))))))))))
      exact ST.again (ib, j + 1) ⟨rfl, rfl, rfl, rfl, rfl, rfl, rfl, rfl, trivial⟩ rfl rfl ⟨lN, by rw [hnext]; rfl⟩ lN
   ·have hjj : A.take j = A := List.take_of_length_le oM
    rw [hjj, hmr] at hfine
    subst hfine
    refine SC.exit (ST.thenX (ST.thenX (ST.blockX (ST.less hle45 ?_))))
    exact ST.mid () ⟨rfl, rfl, rfl, rfl, rfl, rfl, trivial⟩ rfl rfl trivial
  rintro _ -
  try dsimp only
  refine SC.seq (SC.region (SL.M rfl (SL.nil (ST.thenN ?_))))
  refine SC.ifB rfl (fun hfine => ?_) (fun hfine => ?_)
  ·refine SC.draw [7, 8, 9] [(0, 2), (1, 1), (2, 2), (3, 2), (4, 2), (5, 1), (6, 0), (7, 0), (8, 0), (9, 0)] Tryz.mixed (by kernel_rfl) ?_
   refine SP.U (i := 0) rfl (SU.fieldAddr underlying27 rfl sizeOf25 rfl) (SP.K (i := 1) rfl (SQ.load (v := ov) isAgg25 rfl (CellAt.own 1 rfl rfl)) (SP.U (i := 2) rfl (SU.move rfl) (SP.U (i := 3) rfl (SU.move rfl) (SP.U (i := 4) rfl (SU.indexAddr underlying25 sizeOf51 rfl rfl hb1 oM sL) (SP.K (i := 5) rfl (SQ.elemA isAgg51 sizeOf51 rfl hra.rd hgx) (SP.o (i := 6) rfl (SO.buildSlice sty25 rfl rfl rfl (szs_mk (by exact ⟨rfl, trivial⟩)) dC) dC (.inr (by rintro _ _ _ ⟨b92, rfl, rfl, rfl⟩; exact ⟨by exact Le.refl _, (by exact .cons _ (.refl _))⟩)) ?_))))))
   rintro _ _ _ ⟨b92, rfl, rfl, rfl⟩
   refine SP.o (i := 7) rfl (SO.app1A (e := encCell) (l := acc) 0 ⟨x.id, x.dim, ⟨xp, x.sides.length, xcap⟩⟩ sty25 rfl rfl rfl rfl rfl oM oM) dC (.inl dC) ?_
   rintro v93 _ _ ⟨rfl, rfl⟩
   refine SP.facts fun ⟨w0, hw0⟩ => ?_
   obtain ⟨q9, d9, rfl⟩ := rowA_form (i := 0) hw0 rfl
   clear hw0 w0
   refine SP.ou (i := 8) rfl (SU.fieldAddr underlying27 rfl sizeOf25 rfl) dC (.inl dC) (SP.on (i := 9) rfl (SO.storeAllK 1 sizeOf25 rfl rfl rfl rfl rfl (by exact ⟨rfl, trivial⟩)) (.inl dC) ?_)
   rintro _ _ _ ⟨rfl, rfl⟩
   refine SP.nil (ST.blockN (ST.thenN (SC.region (SL.M rfl (SL.U (SU.add rfl rfl oM) (SL.A rfl (SL.nil ?_)))))))
   refine ST.again (_, acc ++ [⟨x.id, x.dim, ⟨xp, x.sides.length, xcap⟩⟩], i + 1) ⟨rfl, rfl, rfl, rfl, rfl, trivial⟩ rfl rfl ⟨lN, ?_⟩ lN
   dsimp only
   rw [htk, List.filter_append]
   simp only [List.filter_cons, hfine, if_true, List.filter_nil]
   exact hacc.append ⟨hxr, trivial⟩
  ·refine SC.skip (ST.blockN (ST.thenN (SC.region (SL.M rfl (SL.U (SU.add rfl rfl oM) (SL.A rfl (SL.nil ?_)))))))
   refine ST.again (ov, acc, i + 1) ⟨rfl, rfl, rfl, rfl, rfl, trivial⟩ rfl rfl ⟨lN, ?_⟩ lN
   dsimp only
   rw [htk, List.filter_append]
   simp only [List.filter_cons, hfine, List.filter_nil]
   simpa using hacc
 ·have hii : A.take i = A := List.take_of_length_le oM
  rw [hii] at hacc
  refine SC.exit (ST.thenX (ST.thenX (ST.blockX (ST.thenN (SC.seq (SC.freezeRow fun g6 hle6 hs6 => ?_))))))
  obtain ⟨q6, d6, rfl⟩ := hs6.form
  refine SC.region (SL.K (SQ.loadVarK 0 isAgg27 sizeOf27 rfl rfl rfl) (SL.on (SO.storeAllK 1 sizeOf27 rfl rfl rfl rfl rfl (by exact ⟨rfl, trivial⟩)) ?_))
  rintro _ _ _ ⟨rfl, rfl⟩
  refine SL.nil (ST.thenN (SC.ret ?_))
  exact ST.retCD 1 s (.inl rfl) results26 rfl isAgg27 sizeOf27 rfl rfl (.cons _ (.cons _ (.refl _))) ⟨rfl, hle23.trans hle6, _, rfl, acc, hs6, hacc.mono fun _ _ => CellR.mono hle6⟩
theorem SU.eqlB {P : Program} {N : Nat} {f : Fr} {dst : Option Tmp} {ty : TypeId} {pos : String} {af : Array Edge} {gd : Option (Nat × Bool)} {x y : Operand} {T U : TypeId} {m n : Bool} (hT : P.underlying T = some .bool) (hx : ev f x = some (.bool m)) (hy : ev f y = some (.bool n)) :
  SU P N ⟨dst, .binOp .eql T x y U, ty, pos, af, gd⟩ f (.bool (m == n)) := fun a w ha => by
 have hg : (eqGuard .eql T x y (.bool m) (.bool n)).run P w = .ok () w := by simp [eqGuard]
 have hb := run_eql_bool (P := P) w T m n hT
 simp only [execOp, ha.ev hx, ha.ev hy, Sem.run_bind, hg, Result.andThen_ok, hb]
 rfl
theorem lawSame_refl (E : World) (g : PH) (s : Own) (v u : Value) (l : List Cl) (hv : Cells g v l) (hu : Cells g u l) (hf : Fits l) :
  Ctr Tryz.prog E 13 #[.agg #[v], .agg #[u]] g s (fun r g' s' => r = vb true ∧ g = g' ∧ s = s') :=
 (lawSame_spec E g s v u l l hv hu hf).mono fun _ _ _ ⟨h1, h2⟩ => ⟨by rw [h1, decide_eq_true rfl], h2⟩
theorem meetC_fits {A B : List Cl} (h : Fits A) : Fits (meetC A B) := filter_fits _ h
theorem unionC_fits {A B : List Cl} (ha : Fits A) (hb : Fits B) (hl : A.length + B.length < 1099511627776) : Fits (unionC A B).1 := by
 unfold unionC
 split
 ·exact ⟨by simp, by simp⟩
 ·exact canonC_fits (union_fits ha hb hl)
theorem sum_le {l : List Cl} (h : ∀ c ∈ l, c.sides.length ≤ 3000000) : (l.map fun c => c.sides.length).sum ≤ 3000000 * l.length := by
 induction l with
 | nil => simp
 | cons c r ih =>
  have h1 := h c (by simp)
  have h2 := ih fun d hd => h d (by simp [hd])
  simp only [List.map_cons, List.sum_cons, List.length_cons]
  omega
theorem cost_mids {l : List Cl} (h : Mids l) : 1 + costF (tabC l) [] < 1099511627776 := by
 have h1 := tabC_length l
 have h2 : ∀ c ∈ tabC l, c.sides.length ≤ 3000000 := fun c hc => by
  have hc := tabC_mem hc
  simp only [canonC, List.mem_map] at hc
  obtain ⟨c0, h0, rfl⟩ := hc
  simp only [normC, sortBy_length]
  exact h.2 c0 ((sortBy_mem l c0).1 h0)
 have h3 := sum_le h2
 have h4 : costF (tabC l) [] = ((tabC l).map fun c => c.sides.length).sum := by
  unfold costF
  rw [List.filter_eq_self.2 (by simp)]
 have := h.1
 omega
theorem cellsUnions_spec (E : World) (hE : E.drawn = 0) (g : PH) (s : Own) (v : Value) (kd y : Int) (ls : List (List Int)) (a0 a1 a2 b0 b1 b2 : Int) (hv : Lists g v ls) :
  Ctr Tryz.prog E 6 #[.agg #[vi kd, v, vi y], .agg #[vi a0, vi a1, vi a2], .agg #[vi b0, vi b1, vi b2]] g s (fun r g' s' => r = vb true ∧ s = s' ∧ Le g g') := by
 obtain ⟨p, n, c, rfl⟩ : ∃ p n c, v = .slice p n c := by
  obtain ⟨rs0, hrs0, _⟩ := hv
  obtain ⟨p, c, rfl⟩ := SlA.form hrs0
  exact ⟨_, _, _, rfl⟩
 have hsm := madeC_small kd ls y
 have hma := spoilC_mids hsm a0 a1 a2
 have hmb := spoilC_mids hsm b0 b1 b2
 have hfm := hsm.fits
 have hmade := fun g s v hv => made_spec E g s v kd y ls hv
 generalize madeC kd ls y = M at *
 have hspa := fun g s v hv => spoiled_spec E g s v M a0 a1 a2 hv hfm
 have hspb := fun g s v hv => spoiled_spec E g s v M b0 b1 b2 hv hfm
 generalize spoilC M a0 a1 a2 = A at *
 generalize spoilC M b0 b1 b2 = B at *
 have hfa := hma.fits
 have hfb := hmb.fits
 have hca := cost_mids hma
 have hcb := cost_mids hmb
 have hab : A.length + B.length < 1099511627776 := by have := hma.1; have := hmb.1; omega
 have htab : (tabC A).length + (tabC B).length < 1099511627776 := by have := tabC_length A; have := tabC_length B; omega
 have hfu := unionC_fits (tabC_fits hfa) (tabC_fits hfb) htab
 have hfx := meetC_fits (B := tabC B) (tabC_fits hfa)
 have hfy := meetC_fits (B := tabC A) (tabC_fits hfb)
 have hbb : ∀ b : Bool, (b == b) = true := fun b => by simp
 refine Ctr.of (args := [.agg #[vi kd, .slice p n c, vi y], .agg #[vi a0, vi a1, vi a2], .agg #[vi b0, vi b1, vi b2]]) func6 rfl ntmps6 (Nat.le_of_ble_eq_true rfl) ?_
 refine SC.seq (SC.region (SL.W (SO.box rfl) ?_))
 rintro _ _ _ ⟨b3, rfl, rfl, rfl⟩
 refine SL.W (SO.box rfl) ?_
 rintro _ _ _ ⟨b4, rfl, rfl, rfl⟩
 refine SL.W (SO.box rfl) ?_
 rintro _ _ _ ⟨b5, rfl, rfl, rfl⟩
 refine SL.A rfl (SL.nil (ST.thenN (SC.seq (SC.region (SL.W (SO.call call9 rfl (sanity_spec E hE g _)) ?_)))))
 rintro _ g1 _ ⟨rfl, rfl, hle1⟩
 have hv1 := hv.mono hle1
 refine SL.A rfl (SL.nil (ST.thenN ?_))
 refine SC.cut (ι := Nat × Value × PH) (fun i => [(3, pp b3 0), (4, pp b4 0), (5, pp b5 0), (7, vb true), (8, pp i.1 0)]) (fun i => i.2.2)
  (fun i => pt i.1 (.cells #[i.2.1] 27 (0, 0)) :: pt b5 (.cells #[vi b0, vi b1, vi b2] 34 (0, 0)) :: pt b4 (.cells #[vi a0, vi a1, vi a2] 34 (0, 0)) :: pt b3 (.cells #[vi kd, .slice p n c, vi y] 40 (0, 0)) :: s)
  (fun i => Le g1 i.2.2 ∧ Cells i.2.2 i.2.1 A) ?_ ?_
 ·refine SC.drawX [] Tryz.mixed (by kernel_rfl) ?_
  refine SX.q (i := 0) rfl (by kernel_rfl) (SQ.loadVarK 2 isAgg40 sizeOf40 rfl rfl rfl) dC (SX.q (i := 2) rfl (by kernel_rfl) (SQ.loadVarK 1 isAgg34 sizeOf34 rfl rfl rfl) dC ?_)
  refine SX.br2 1 4 (by kernel_rfl) ?_ ?_
  ·refine SB.o (i := 1) rfl (SO.call call20 rfl (hmade g1 _ _ hv1)) dC (.inr (by rintro _ g2 _ ⟨rfl, hle2, xm, rfl, hxm⟩; exact ⟨by assumption, (by exact .refl _)⟩)) ?_
   rintro _ g2 _ ⟨rfl, hle2, xm, rfl, hxm⟩
   obtain ⟨qm, dm, rfl⟩ := hxm.form
   refine SX.br2 3 4 (by kernel_rfl) ?_ ?_
   ·refine SB.o (i := 3) rfl (SO.call call16 rfl (hspa g2 _ _ hxm)) dC (.inr (by rintro _ g3 _ ⟨rfl, hle3, xa, rfl, hxa⟩; exact ⟨by exact Le.trans (by assumption) (by assumption), (by exact .refl _)⟩)) ?_
    rintro _ g3 _ ⟨rfl, hle3, xa, rfl, hxa⟩
    obtain ⟨qa, da, rfl⟩ := hxa.form
    refine SX.br1 4 (by kernel_rfl) ?_
    ·refine SB.o (i := 4) rfl (SO.alloc zeroValue27) dC (.inr (by rintro _ _ _ ⟨b8, rfl, rfl, rfl⟩; exact ⟨by exact Le.trans (by assumption) (by assumption), (by exact .cons _ (.refl _))⟩)) ?_
     rintro _ _ _ ⟨b8, rfl, rfl, rfl⟩
     refine SX.br1 5 (by kernel_rfl) ?_
     ·refine SB.on (i := 5) rfl (SO.storeAllK 0 sizeOf27 rfl rfl rfl rfl rfl (by exact ⟨rfl, trivial⟩)) (.inr (by rintro _ _ _ ⟨rfl, rfl⟩; exact ⟨by exact Le.trans (by assumption) (by assumption), (by exact .cons _ (.refl _))⟩)) ?_
      rintro _ _ _ ⟨rfl, rfl⟩
      refine SX.nil (by kernel_rfl) ?_
      exact ST.mid (b8, _, g3) ⟨rfl, rfl, rfl, rfl, rfl, trivial⟩ rfl rfl ⟨hle2.trans hle3, hxa⟩
   ·refine SB.o (i := 4) rfl (SO.alloc zeroValue27) dC (.inr (by rintro _ _ _ ⟨b8, rfl, rfl, rfl⟩; exact ⟨by assumption, (by exact .cons _ (.refl _))⟩)) ?_
    rintro _ _ _ ⟨b8, rfl, rfl, rfl⟩
    refine SX.br1 3 (by kernel_rfl) ?_
    ·refine SB.o (i := 3) rfl (SO.call call16 rfl (hspa g2 _ _ hxm)) dC (.inr (by rintro _ g3 _ ⟨rfl, hle3, xa, rfl, hxa⟩; exact ⟨by exact Le.trans (by assumption) (by assumption), (by exact .cons _ (.refl _))⟩)) ?_
     rintro _ g3 _ ⟨rfl, hle3, xa, rfl, hxa⟩
     obtain ⟨qa, da, rfl⟩ := hxa.form
     refine SX.br1 5 (by kernel_rfl) ?_
     ·refine SB.on (i := 5) rfl (SO.storeAllK 0 sizeOf27 rfl rfl rfl rfl rfl (by exact ⟨rfl, trivial⟩)) (.inr (by rintro _ _ _ ⟨rfl, rfl⟩; exact ⟨by exact Le.trans (by assumption) (by assumption), (by exact .cons _ (.refl _))⟩)) ?_
      rintro _ _ _ ⟨rfl, rfl⟩
      refine SX.nil (by kernel_rfl) ?_
      exact ST.mid (b8, _, g3) ⟨rfl, rfl, rfl, rfl, rfl, trivial⟩ rfl rfl ⟨hle2.trans hle3, hxa⟩
  ·refine SB.o (i := 4) rfl (SO.alloc zeroValue27) dC (.inr (by rintro _ _ _ ⟨b8, rfl, rfl, rfl⟩; exact ⟨by exact Le.refl _, (by exact .cons _ (.refl _))⟩)) ?_
   rintro _ _ _ ⟨b8, rfl, rfl, rfl⟩
   refine SX.br1 1 (by kernel_rfl) ?_
   ·refine SB.o (i := 1) rfl (SO.call call20 rfl (hmade g1 _ _ hv1)) dC (.inr (by rintro _ g2 _ ⟨rfl, hle2, xm, rfl, hxm⟩; exact ⟨by assumption, (by exact .cons _ (.refl _))⟩)) ?_
    rintro _ g2 _ ⟨rfl, hle2, xm, rfl, hxm⟩
    obtain ⟨qm, dm, rfl⟩ := hxm.form
    refine SX.br1 3 (by kernel_rfl) ?_
    ·refine SB.o (i := 3) rfl (SO.call call16 rfl (hspa g2 _ _ hxm)) dC (.inr (by rintro _ g3 _ ⟨rfl, hle3, xa, rfl, hxa⟩; exact ⟨by exact Le.trans (by assumption) (by assumption), (by exact .cons _ (.refl _))⟩)) ?_
     rintro _ g3 _ ⟨rfl, hle3, xa, rfl, hxa⟩
     obtain ⟨qa, da, rfl⟩ := hxa.form
     refine SX.br1 5 (by kernel_rfl) ?_
     ·refine SB.on (i := 5) rfl (SO.storeAllK 0 sizeOf27 rfl rfl rfl rfl rfl (by exact ⟨rfl, trivial⟩)) (.inr (by rintro _ _ _ ⟨rfl, rfl⟩; exact ⟨by exact Le.trans (by assumption) (by assumption), (by exact .cons _ (.refl _))⟩)) ?_
      rintro _ _ _ ⟨rfl, rfl⟩
      refine SX.nil (by kernel_rfl) ?_
      exact ST.mid (b8, _, g3) ⟨rfl, rfl, rfl, rfl, rfl, trivial⟩ rfl rfl ⟨hle2.trans hle3, hxa⟩
 rintro ⟨b8, xa, g3⟩ ⟨hle3, hxa⟩
 dsimp only at hle3 hxa ⊢
 obtain ⟨qa, da, rfl⟩ := hxa.form
 have hv3 := hv1.mono hle3
 refine SC.cut (ι := Nat × Value × PH) (fun i => [(3, pp b3 0), (4, pp b4 0), (5, pp b5 0), (7, vb true), (8, pp b8 0), (9, pp i.1 0)]) (fun i => i.2.2)
  (fun i => pt i.1 (.cells #[i.2.1] 27 (0, 0)) :: pt b8 (.cells #[.slice qa A.length da] 27 (0, 0)) :: pt b5 (.cells #[vi b0, vi b1, vi b2] 34 (0, 0)) :: pt b4 (.cells #[vi a0, vi a1, vi a2] 34 (0, 0)) :: pt b3 (.cells #[vi kd, .slice p n c, vi y] 40 (0, 0)) :: s)
  (fun i => Le g3 i.2.2 ∧ Cells i.2.2 i.2.1 B) ?_ ?_
 ·refine SC.drawX [] Tryz.mixed (by kernel_rfl) ?_
  refine SX.q (i := 0) rfl (by kernel_rfl) (SQ.loadVarK 3 isAgg40 sizeOf40 rfl rfl rfl) dC (SX.q (i := 2) rfl (by kernel_rfl) (SQ.loadVarK 1 isAgg34 sizeOf34 rfl rfl rfl) dC ?_)
  refine SX.br2 1 4 (by kernel_rfl) ?_ ?_
  ·refine SB.o (i := 1) rfl (SO.call call20 rfl (hmade g3 _ _ hv3)) dC (.inr (by rintro _ g4 _ ⟨rfl, hle4, xm, rfl, hxm⟩; exact ⟨by assumption, (by exact .refl _)⟩)) ?_
   rintro _ g4 _ ⟨rfl, hle4, xm, rfl, hxm⟩
   obtain ⟨qm, dm, rfl⟩ := hxm.form
   refine SX.br2 3 4 (by kernel_rfl) ?_ ?_
   ·refine SB.o (i := 3) rfl (SO.call call16 rfl (hspb g4 _ _ hxm)) dC (.inr (by rintro _ g5 _ ⟨rfl, hle5, xb, rfl, hxb⟩; exact ⟨by exact Le.trans (by assumption) (by assumption), (by exact .refl _)⟩)) ?_
    rintro _ g5 _ ⟨rfl, hle5, xb, rfl, hxb⟩
    obtain ⟨qb, db, rfl⟩ := hxb.form
    refine SX.br1 4 (by kernel_rfl) ?_
    ·refine SB.o (i := 4) rfl (SO.alloc zeroValue27) dC (.inr (by rintro _ _ _ ⟨b9, rfl, rfl, rfl⟩; exact ⟨by exact Le.trans (by assumption) (by assumption), (by exact .cons _ (.refl _))⟩)) ?_
     rintro _ _ _ ⟨b9, rfl, rfl, rfl⟩
     refine SX.br1 5 (by kernel_rfl) ?_
     ·refine SB.on (i := 5) rfl (SO.storeAllK 0 sizeOf27 rfl rfl rfl rfl rfl (by exact ⟨rfl, trivial⟩)) (.inr (by rintro _ _ _ ⟨rfl, rfl⟩; exact ⟨by exact Le.trans (by assumption) (by assumption), (by exact .cons _ (.refl _))⟩)) ?_
      rintro _ _ _ ⟨rfl, rfl⟩
      refine SX.nil (by kernel_rfl) ?_
      exact ST.mid (b9, _, g5) ⟨rfl, rfl, rfl, rfl, rfl, rfl, trivial⟩ rfl rfl ⟨hle4.trans hle5, hxb⟩
   ·refine SB.o (i := 4) rfl (SO.alloc zeroValue27) dC (.inr (by rintro _ _ _ ⟨b9, rfl, rfl, rfl⟩; exact ⟨by assumption, (by exact .cons _ (.refl _))⟩)) ?_
    rintro _ _ _ ⟨b9, rfl, rfl, rfl⟩
    refine SX.br1 3 (by kernel_rfl) ?_
    ·refine SB.o (i := 3) rfl (SO.call call16 rfl (hspb g4 _ _ hxm)) dC (.inr (by rintro _ g5 _ ⟨rfl, hle5, xb, rfl, hxb⟩; exact ⟨by exact Le.trans (by assumption) (by assumption), (by exact .cons _ (.refl _))⟩)) ?_
     rintro _ g5 _ ⟨rfl, hle5, xb, rfl, hxb⟩
     obtain ⟨qb, db, rfl⟩ := hxb.form
     refine SX.br1 5 (by kernel_rfl) ?_
     ·refine SB.on (i := 5) rfl (SO.storeAllK 0 sizeOf27 rfl rfl rfl rfl rfl (by exact ⟨rfl, trivial⟩)) (.inr (by rintro _ _ _ ⟨rfl, rfl⟩; exact ⟨by exact Le.trans (by assumption) (by assumption), (by exact .cons _ (.refl _))⟩)) ?_
      rintro _ _ _ ⟨rfl, rfl⟩
      refine SX.nil (by kernel_rfl) ?_
      exact ST.mid (b9, _, g5) ⟨rfl, rfl, rfl, rfl, rfl, rfl, trivial⟩ rfl rfl ⟨hle4.trans hle5, hxb⟩
  ·refine SB.o (i := 4) rfl (SO.alloc zeroValue27) dC (.inr (by rintro _ _ _ ⟨b9, rfl, rfl, rfl⟩; exact ⟨by exact Le.refl _, (by exact .cons _ (.refl _))⟩)) ?_
   rintro _ _ _ ⟨b9, rfl, rfl, rfl⟩
   refine SX.br1 1 (by kernel_rfl) ?_
   ·refine SB.o (i := 1) rfl (SO.call call20 rfl (hmade g3 _ _ hv3)) dC (.inr (by rintro _ g4 _ ⟨rfl, hle4, xm, rfl, hxm⟩; exact ⟨by assumption, (by exact .cons _ (.refl _))⟩)) ?_
    rintro _ g4 _ ⟨rfl, hle4, xm, rfl, hxm⟩
    obtain ⟨qm, dm, rfl⟩ := hxm.form
    refine SX.br1 3 (by kernel_rfl) ?_
    ·refine SB.o (i := 3) rfl (SO.call call16 rfl (hspb g4 _ _ hxm)) dC (.inr (by rintro _ g5 _ ⟨rfl, hle5, xb, rfl, hxb⟩; exact ⟨by exact Le.trans (by assumption) (by assumption), (by exact .cons _ (.refl _))⟩)) ?_
     rintro _ g5 _ ⟨rfl, hle5, xb, rfl, hxb⟩
     obtain ⟨qb, db, rfl⟩ := hxb.form
     refine SX.br1 5 (by kernel_rfl) ?_
     ·refine SB.on (i := 5) rfl (SO.storeAllK 0 sizeOf27 rfl rfl rfl rfl rfl (by exact ⟨rfl, trivial⟩)) (.inr (by rintro _ _ _ ⟨rfl, rfl⟩; exact ⟨by exact Le.trans (by assumption) (by assumption), (by exact .cons _ (.refl _))⟩)) ?_
      rintro _ _ _ ⟨rfl, rfl⟩
      refine SX.nil (by kernel_rfl) ?_
      exact ST.mid (b9, _, g5) ⟨rfl, rfl, rfl, rfl, rfl, rfl, trivial⟩ rfl rfl ⟨hle4.trans hle5, hxb⟩
 rintro ⟨b9, xb, g5⟩ ⟨hle5, hxb⟩
 dsimp only at hle5 hxb ⊢
 obtain ⟨qb, db, rfl⟩ := hxb.form
 have hxa5 := hxa.mono hle5
 have hle15 := hle1.trans (hle3.trans hle5)
 refine SC.seq (SC.region (SL.K (SQ.loadVarK 1 isAgg27 sizeOf27 rfl rfl rfl) (SL.K (SQ.loadVarK 0 isAgg27 sizeOf27 rfl rfl rfl) (SL.W (SO.call call23 rfl (union_spec E g5 _ _ _ A B hxa5 hxb hfa hfb hab)) ?_))))
 rintro _ g6 _ ⟨rfl, hle6, x6, rfl, hx6⟩
 obtain ⟨q6, d6, rfl⟩ := hx6.form
 have hxa6 := hxa5.mono hle6
 have hxb6 := hxb.mono hle6
 refine SL.M rfl (SL.U (SU.extract rfl rfl) (SL.U (SU.extract rfl rfl) (SL.W (SO.alloc zeroValue27) ?_)))
 rintro _ _ _ ⟨b10, rfl, rfl, rfl⟩
 refine SL.on (SO.storeAllK 0 sizeOf27 rfl rfl rfl rfl rfl (by exact ⟨rfl, trivial⟩)) ?_
 rintro _ _ _ ⟨rfl, rfl⟩
 refine SL.A rfl (SL.nil (ST.thenN (SC.seq (SC.region (SL.K (SQ.loadVarK 2 isAgg27 sizeOf27 rfl rfl rfl) (SL.K (SQ.loadVarK 1 isAgg27 sizeOf27 rfl rfl rfl) (SL.W (SO.call call24 rfl (refUnion_spec E g6 _ _ _ A B hxa6 hxb6 hfa hfb hab)) ?_)))))))
 rintro _ g7 _ ⟨rfl, hle7, x7, rfl, hx7⟩
 obtain ⟨q7, d7, rfl⟩ := hx7.form
 have hxa7 := hxa6.mono hle7
 have hxb7 := hxb6.mono hle7
 have hx67 := hx6.mono hle7
 refine SL.M rfl (SL.U (SU.extract rfl rfl) (SL.U (SU.extract rfl rfl) (SL.W (SO.alloc zeroValue27) ?_)))
 rintro _ _ _ ⟨b12, rfl, rfl, rfl⟩
 refine SL.on (SO.storeAllK 0 sizeOf27 rfl rfl rfl rfl rfl (by exact ⟨rfl, trivial⟩)) ?_
 rintro _ _ _ ⟨rfl, rfl⟩
 refine SL.A rfl (SL.nil (ST.thenN (SC.seq ?_)))
 refine SC.draw [] [(0, 2), (1, 2), (2, 2), (3, 2), (4, 2), (5, 2), (6, 2), (7, 1), (8, 1), (9, 0), (10, 2), (11, 2), (12, 1), (13, 1), (15, 1), (16, 1), (14, 0), (17, 0), (18, 0), (19, 2), (20, 2), (21, 1), (22, 1), (24, 1), (25, 1), (23, 0), (26, 0), (27, 0), (28, 2), (29, 2)] Tryz.mixed (by kernel_rfl) ?_
 refine SP.U (i := 0) rfl (SU.move rfl) (SP.U (i := 1) rfl (SU.move rfl) (SP.gu (i := 2) rfl (Gd.onT rfl rfl rfl dC) (SU.move rfl) dC (SP.gu (i := 3) rfl (Gd.onT rfl rfl rfl dC) (SU.move rfl) dC (SP.gu (i := 4) rfl (Gd.onT rfl rfl rfl dC) (SU.eq (v' := vb true) (SU.eqlB underlying4 rfl rfl) (congrArg vb (hbb _))) dC (SP.U (i := 5) rfl (SU.pickT rfl rfl) (SP.U (i := 6) rfl (SU.move rfl) (SP.gq (i := 7) rfl (Gd.onT rfl rfl rfl dC) (SQ.loadVarK 1 isAgg27 sizeOf27 rfl rfl rfl) dC (SP.gq (i := 8) rfl (Gd.onT rfl rfl rfl dC) (SQ.loadVarK 0 isAgg27 sizeOf27 rfl rfl rfl) dC (SP.go (i := 9) rfl (Gd.onT rfl rfl rfl dC) (SO.call call13 rfl (lawSame_refl E g7 _ _ _ _ hx67 hx7 hfu)) dC (.inr (by rintro _ _ _ ⟨rfl, rfl, rfl⟩; exact ⟨by exact Le.refl _, (by exact .refl _)⟩)) ?_)))))))))
 rintro _ _ _ ⟨rfl, rfl, rfl⟩
 refine SP.U (i := 10) rfl (SU.pickT rfl rfl) (SP.U (i := 11) rfl (SU.move rfl) (SP.gq (i := 12) rfl (Gd.onT rfl rfl rfl dC) (SQ.loadVarK 3 isAgg27 sizeOf27 rfl rfl rfl) dC (SP.gq (i := 13) rfl (Gd.onT rfl rfl rfl dC) (SQ.loadVarK 2 isAgg27 sizeOf27 rfl rfl rfl) dC (SP.gq (i := 15) rfl (Gd.onT rfl rfl rfl dC) (SQ.loadVarK 3 isAgg27 sizeOf27 rfl rfl rfl) dC (SP.gq (i := 16) rfl (Gd.onT rfl rfl rfl dC) (SQ.loadVarK 2 isAgg27 sizeOf27 rfl rfl rfl) dC (SP.go (i := 14) rfl (Gd.onT rfl rfl rfl dC) (SO.call call25 rfl (meet_spec E g7 _ _ _ A B hxa7 hxb7 hfa hfb)) dC (.inr (by rintro _ g8 _ ⟨rfl, hle8, x8, rfl, hx8⟩; exact ⟨by assumption, (by exact .refl _)⟩)) ?_))))))
 rintro _ g8 _ ⟨rfl, hle8, x8, rfl, hx8⟩
 obtain ⟨q8, d8, rfl⟩ := hx8.form
 have hxa8 := hxa7.mono hle8
 have hxb8 := hxb7.mono hle8
 refine SP.go (i := 17) rfl (Gd.onT rfl rfl rfl dC) (SO.call call26 rfl (refMeet_spec E g8 _ _ _ A B hxa8 hxb8 hfa hfb hca)) dC (.inr (by rintro _ g9 _ ⟨rfl, hle9, x9, rfl, hx9⟩; exact ⟨by exact Le.trans (by assumption) (by assumption), (by exact .refl _)⟩)) ?_
 rintro _ g9 _ ⟨rfl, hle9, x9, rfl, hx9⟩
 obtain ⟨q9, d9, rfl⟩ := hx9.form
 have hxa9 := hxa8.mono hle9
 have hxb9 := hxb8.mono hle9
 have hx89 := hx8.mono hle9
 have hle79 := hle8.trans hle9
 clear hle8 hle9
 refine SP.go (i := 18) rfl (Gd.onT rfl rfl rfl dC) (SO.call call13 rfl (lawSame_refl E g9 _ _ _ _ hx89 hx9 hfx)) dC (.inr (by rintro _ _ _ ⟨rfl, rfl, rfl⟩; exact ⟨by assumption, (by exact .refl _)⟩)) ?_
 rintro _ _ _ ⟨rfl, rfl, rfl⟩
 refine SP.U (i := 19) rfl (SU.pickT rfl rfl) (SP.U (i := 20) rfl (SU.move rfl) (SP.gq (i := 21) rfl (Gd.onT rfl rfl rfl dC) (SQ.loadVarK 2 isAgg27 sizeOf27 rfl rfl rfl) dC (SP.gq (i := 22) rfl (Gd.onT rfl rfl rfl dC) (SQ.loadVarK 3 isAgg27 sizeOf27 rfl rfl rfl) dC (SP.gq (i := 24) rfl (Gd.onT rfl rfl rfl dC) (SQ.loadVarK 2 isAgg27 sizeOf27 rfl rfl rfl) dC (SP.gq (i := 25) rfl (Gd.onT rfl rfl rfl dC) (SQ.loadVarK 3 isAgg27 sizeOf27 rfl rfl rfl) dC (SP.go (i := 23) rfl (Gd.onT rfl rfl rfl dC) (SO.call call25 rfl (meet_spec E g9 _ _ _ B A hxb9 hxa9 hfb hfa)) dC (.inr (by rintro _ g10 _ ⟨rfl, hle10, x10, rfl, hx10⟩; exact ⟨by exact Le.trans (by assumption) (by assumption), (by exact .refl _)⟩)) ?_))))))
 rintro _ g10 _ ⟨rfl, hle10, x10, rfl, hx10⟩
 obtain ⟨q10, d10, rfl⟩ := hx10.form
 have hxa10 := hxa9.mono hle10
 have hxb10 := hxb9.mono hle10
 have hle710 := hle79.trans hle10
 clear hle79 hle10
 refine SP.go (i := 26) rfl (Gd.onT rfl rfl rfl dC) (SO.call call26 rfl (refMeet_spec E g10 _ _ _ B A hxb10 hxa10 hfb hfa hcb)) dC (.inr (by rintro _ g11 _ ⟨rfl, hle11, x11, rfl, hx11⟩; exact ⟨by exact Le.trans (by assumption) (by assumption), (by exact .refl _)⟩)) ?_
 rintro _ g11 _ ⟨rfl, hle11, x11, rfl, hx11⟩
 obtain ⟨q11, d11, rfl⟩ := hx11.form
 have hx1011 := hx10.mono hle11
 refine SP.go (i := 27) rfl (Gd.onT rfl rfl rfl dC) (SO.call call13 rfl (lawSame_refl E g11 _ _ _ _ hx1011 hx11 hfy)) dC (.inr (by rintro _ _ _ ⟨rfl, rfl, rfl⟩; exact ⟨by exact Le.trans (by assumption) (by assumption), (by exact .refl _)⟩)) ?_
 rintro _ _ _ ⟨rfl, rfl, rfl⟩
 refine SP.U (i := 28) rfl (SU.pickT rfl rfl) (SP.U (i := 29) rfl (SU.assign rfl) (SP.nil (ST.thenN (SC.ret (ST.drop (s' := s) (.cons _ (.cons _ (.cons _ (.cons _ (.cons _ (.cons _ (.cons _ (.refl _)))))))) ?_)))))
 exact ST.ret1 (.inl rfl) results6 rfl ⟨rfl, rfl, hle15.trans (hle6.trans (hle7.trans (hle710.trans hle11)))⟩
end Go.Proofs.YtkdibcicncjpdaaGreat
namespace Go.Proofs.YtkdibcicncjpdaaGreat.cellsUnionsDone
open _root_.Go.Proofs.Tryz _root_.Go.Proofs.YtkdibcicncjpdaaGreat.Tryz
open Go Go.Sy Go.Pl Go.Proofs Go.Proofs.YtkdibcicncjpdaaGreat
open Go.ChangeShapes Go.WideShapes Go.ChangeAt Go.RowKit
set_option linter.unusedVariables false
theorem own : ownKnob Tryz.prog.godebug = none := by kernel_rfl
theorem laidOut : laidOutB Tryz.prog = true := by kernel_rfl
set_option maxRecDepth 100000 in
theorem lifted (os : Os) (started : os.Started) (H : Type) (enc : TypeId × Value → H) :
  ReturnsInHanded {} Tryz.checked os 6 .any (Rows.cellsUnionsSpec.pre6 enc Tryz.prog f6 Rows.cellsUnionsRow.domain false) (Rows.cellsUnionsSpec.post enc Tryz.prog f6 false true false false) := by
 refine returnsInHanded_of_change (C := Tryz.checked) own started (by kernel_rfl) func6
  (ChangeSpec.witness6 (enc := enc) (C := Tryz.checked) false ⟨#[], #[.agg #[.int .i64 0, .slice none 0 0, .int .i64 0], .agg #[.int .i64 0, .int .i64 0, .int .i64 0], .agg #[.int .i64 0, .int .i64 0, .int .i64 0]], []⟩ 8 (by kernel_rfl) (by kernel_rfl) (by kernel_rfl) (by kernel_rfl)) ?_
 intro W base args ds gs before hval0 hW hcnd _
 have hval : ∀ (j : Nat) t v, f6.params[j]? = some t → args[j]? = some v → Value.okWide Tryz.prog W .any base t v := hval0
 have hW' := hW
 obtain ⟨p, q, hA0, hV, rfl, hfz, hnd⟩ := hW
 have hA : DataW.TrodAll enc Tryz.prog W 0 (fun _ => true) true f6.params.toList args.toList ds p := hA0
 rw [params6] at hA hval
 obtain ⟨v0, vs0, d0, ds0, p0, q0, hargs, rfl, rfl, h0, r0⟩ := trodAll_cons hA
 obtain ⟨v1, vs1, d1, ds1, p1, q1, rfl, rfl, rfl, h1, r1⟩ := trodAll_cons r0
 obtain ⟨v2, vs2, d2, ds2, p2, q2, rfl, rfl, rfl, h2, r2⟩ := trodAll_cons r1
 obtain ⟨rfl, rfl, rfl⟩ := trodAll_nil r2
 obtain rfl : args = #[v0, v1, v2] := by cases args; simp_all
 obtain ⟨rfl, rfl⟩ := trodVars_none hV
 have lt0 : ∀ x ∈ p0, x.block < W.heap.size := by obtain ⟨m, hm⟩ := h0; exact DataW.trod_lt m _ _ _ hm
 have lt1 : ∀ x ∈ p1, x.block < W.heap.size := by obtain ⟨m, hm⟩ := h1; exact DataW.trod_lt m _ _ _ hm
 have lt2 : ∀ x ∈ p2, x.block < W.heap.size := by obtain ⟨m, hm⟩ := h2; exact DataW.trod_lt m _ _ _ hm
 obtain ⟨kd, y, u, ls, e0, hls⟩ := shape_of (hval 0 40 v0 rfl rfl) h0
 obtain ⟨a0, a1, a2, e1⟩ := three_of (hval 1 34 v1 rfl rfl) h1
 obtain ⟨b0, b1, b2, e2⟩ := three_of (hval 2 34 v2 rfl rfl) h2
 clear hA0 hval0
 have walk : Calls Tryz.prog 6 #[v0, v1, v2] W fun e w' => e = .returned (.bool true) ∧ Below W.heap.size W w' := by
  rw [e0, e1, e2]
  refine (cellsUnions_spec (E0 W) rfl (held W) [] u kd y ls a0 a1 a2 b0 b1 b2 hls W (at_start W)).mono ?_
  rintro e w' ⟨v, g', s', rfl, hat, rfl, rfl, hle⟩
  exact ⟨rfl, at_below hat hle⟩
 refine walk.mono fun e W' ⟨he, bel⟩ => ?_
 subst he
 exact ⟨_, rfl, _, _, _, [], _, [], hW', trodAll_mk1 (shut_bool underlying4 _), (trodAll_cons_mk (Below.trod laidOut (by kernel_rfl) (of_decide_eq_true (by kernel_rfl)) h0 bel lt0) (trodAll_cons_mk (Below.trod laidOut (by kernel_rfl) (of_decide_eq_true (by kernel_rfl)) h1 bel lt1) (trodAll_cons_mk (Below.trod laidOut (by kernel_rfl) (of_decide_eq_true (by kernel_rfl)) h2 bel lt2) trodAll_mk0))), rfl, bel.frame _, fun h => by cases h⟩
theorem over : Rows.cellsUnionsRow.holds Tryz.pinned (OpenSpec.ofChange Rows.cellsUnionsSpec) :=
 OpenClaim.holds_of_wide 6 f6 rfl rfl rfl rfl rfl rfl rfl ⟨rfl, rfl, rfl, rfl, rfl⟩ rfl rfl rfl rfl rfl (by kernel_rfl) func6 (by kernel_rfl)
  (of_decide_eq_true (by kernel_rfl)) (by unfold Func.isWrapper; first | (rw [if_pos (by decide +kernel)]; kernel_rfl) | (rw [if_neg (by decide +kernel)]; exact ⟨rfl, rfl⟩))
  (fun os started H enc _ => lifted os started H enc)
theorem proved : Rows.CellsUnionsSaid := over
#print axioms proved
end Go.Proofs.YtkdibcicncjpdaaGreat.cellsUnionsDone
