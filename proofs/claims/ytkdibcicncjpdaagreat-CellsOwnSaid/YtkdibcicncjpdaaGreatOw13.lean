/- Mad5 Spo1 Spo2 Frm Uni1 Uni2 Uni3 Mee1 -/
import Derived.Test.YtkdibcicncjpdaaGreatOw12
import Derived.Test.YtkdibcicncjpdaaGreatOw07
import Derived.Test.YtkdibcicncjpdaaGreatRows
import Derived.WalkKit
import Derived.ProofKit
import Derived.OpenShut
import Derived.ShutString
import Derived.ChangeOld
import Derived.Below
import Derived.Deep.Slices
import Derived.Lib.SmallJoins
import Derived.Laws.IdiomArrays
import Derived.Test.YtkdibcicncjpdaaGreatOw06
set_option linter.unusedSimpArgs false
set_option linter.unusedVariables false
namespace Go.Proofs.YtkdibcicncjpdaaGreat
open _root_.Go.Proofs.Tryz _root_.Go.Proofs.YtkdibcicncjpdaaGreat.Tryz
open Go Go.Sy Go.Pl Go.Proofs
set_option maxRecDepth 100000
set_option maxHeartbeats 1000000
def three (j : Int) : List (List Int) := if j = 0 then [[0, 1]] else if j = 1 then [[0, 1], [1, 2]] else [[0, 1], [1, 2], [0, 2]]
def sel3 (j : Int) (a b c : Value) : Value := if j = 0 then a else if j = 1 then b else c
theorem sel3_get {j : Int} (h : 0 ≤ j ∧ j < 3) (a b c : Value) : #[a, b, c][0 + j.toNat * 1]? = some (sel3 j a b c) := by
 rcases (by omega : j = 0 ∨ j = 1 ∨ j = 2) with rfl | rfl | rfl <;> rfl
theorem three_lists {g : PH} {j : Int} (h : 0 ≤ j ∧ j < 3) {a b c : Value} (ha : Lists g a [[0, 1]]) (hb : Lists g b [[0, 1], [1, 2]]) (hc : Lists g c [[0, 1], [1, 2], [0, 2]]) : Lists g (sel3 j a b c) (three j) := by
 rcases (by omega : j = 0 ∨ j = 1 ∨ j = 2) with rfl | rfl | rfl
 ·exact ha
 ·exact hb
 ·exact hc
theorem three_small (j : Int) : (three j).length ≤ 3 ∧ ∀ x ∈ three j, x.length ≤ 2 := by
 unfold three
 split
 ·exact ⟨by decide, by decide⟩
 ·split
  ·exact ⟨by decide, by decide⟩
  ·exact ⟨by decide, by decide⟩
theorem surf_small (y : Int) : 4 ≤ (surfC y).length ∧ (surfC y).length ≤ 14 ∧ ∀ x ∈ surfC y, x.length ≤ 3 := by
 unfold surfC
 split
 ·exact ⟨by decide, by decide, by decide⟩
 ·split
  ·exact ⟨by decide, by decide, by decide⟩
  ·refine ⟨by rw [surf2_length]; decide, by rw [surf2_length]; decide, fun x hx => ?_⟩
   obtain ⟨i, _, hx⟩ := List.mem_flatMap.1 hx
   simp at hx
   rcases hx with rfl | rfl <;> simp
def baseM (m : Int) (ls : List (List Int)) (y : Int) : List Cl :=
 if m = 3 then simpC (surfC y) else if m = 4 then refProdC (simpC (three (modW y 3))) (simpC (three (modW (IntKind.i64.wrap (y.tdiv 3)) 3)))
 else if m = 5 then polyC (2 + modW y 5).toNat else if m = 6 then refProdC (refProdC (simpC [[0, 1]]) (simpC [[0, 1]])) (simpC [[0, 1]])
 else if m = 7 then simpC (setsC ls ++ (surfC y).take (2 + modW y 2).toNat) else simpC (setsC ls)
theorem baseM_fits (m : Int) (ls : List (List Int)) (y : Int) : Fits (baseM m ls y) := by
 unfold baseM
 have h5 := modW_range y 5 dC dC
 repeat' split
 ·exact (simpC_fits _).1
 ·exact (refProdC_fits _ _).1
 ·exact canonC_fits (polyAll_fits oM).1
 ·exact (refProdC_fits _ _).1
 ·exact (simpC_fits _).1
 ·exact (simpC_fits _).1
def bigC (b : List Cl) : List Cl := if (b.length : Int) > 45 then torusC else b
def madeC (kd : Int) (ls : List (List Int)) (y : Int) : List Cl := renC (bigC (baseM (modW kd 8) ls y)) y
theorem Tryz.build92 (p1 : Option Addr) (n1 c1 : Nat) (p2 : Option Addr) (n2 c2 : Nat) (p3 : Option Addr) (n3 c3 : Nat) (w : World) : (Instr.build 92 #[(0, .slice p1 n1 c1), (1, .slice p2 n2 c2), (2, .slice p3 n3 c3)]).run Tryz.prog w = .ok (.agg #[.slice p1 n1 c1, .slice p2 n2 c2, .slice p3 n3 c3]) w := by
 have hz : (Value.agg #[Value.slice none 0 0, Value.slice none 0 0, Value.slice none 0 0]).cells = #[.slice none 0 0, .slice none 0 0, .slice none 0 0] := rfl
 have h1 : (Value.slice p1 n1 c1).cells = #[.slice p1 n1 c1] := rfl
 have h2 : (Value.slice p2 n2 c2).cells = #[.slice p2 n2 c2] := rfl
 have h3 : (Value.slice p3 n3 c3).cells = #[.slice p3 n3 c3] := rfl
 simp [Instr.build, Instr.fill, hz, h1, h2, h3]
theorem made_spec (E : World) (g : PH) (s : Own) (v : Value) (kd y : Int) (ls : List (List Int)) (hv : Lists g v ls) :
  Ctr Tryz.prog E 20 #[.agg #[vi kd, v, vi y]] g s (fun r g' s' => s = s' ∧ Le g g' ∧ ∃ x, r = .agg #[x] ∧ Cells g' x (madeC kd ls y)) := by
 obtain ⟨p, n, c, rfl⟩ : ∃ p n c, v = .slice p n c := by
  obtain ⟨rs0, hrs0, _⟩ := hv
  obtain ⟨p, c, rfl⟩ := SlA.form hrs0
  exact ⟨_, _, _, rfl⟩
 have hm8 := modW_range kd 8 dC dC
 have hy3 := modW_range y 3 dC dC
 have hy33 := modW_range (IntKind.i64.wrap (y.tdiv 3)) 3 dC dC
 have hy5 := modW_range y 5 dC dC
 have hy2 := modW_range y 2 dC dC
 have hss := sets_small ls
 have hsf := surf_small y
 unfold madeC
 have hfit := baseM_fits (modW kd 8) ls y
 refine Ctr.of (args := [.agg #[vi kd, .slice p n c, vi y]]) func20 rfl ntmps20 (Nat.le_of_ble_eq_true rfl) ?_
 refine SC.seq (SC.region (SL.W (SO.box rfl) ?_))
 rintro _ _ _ ⟨b1, rfl, rfl, rfl⟩
 refine SL.W (SO.alloc zeroValue27) ?_
 rintro _ _ _ ⟨b2, rfl, rfl, rfl⟩
 refine SL.nil (ST.thenN (SC.seq (SC.region (SL.W (SO.alloc zeroValue27) ?_))))
 rintro _ _ _ ⟨b3, rfl, rfl, rfl⟩
 refine SL.nil (ST.thenN ?_)
 refine SC.to (fun w hw => hw) (g' := g) (s' := pt b3 (.cells #[.slice none 0 0] 27 (0, 0)) :: pt b2 (.cells #[.slice none 0 0] 27 (0, 0)) :: pt b1 (.cells #[vi kd, .slice p n c, vi y] 40 (0, 0)) :: s) ?_
 refine SC.cut (ι := PH × Value) (fun _ => [(1, pp b1 0), (2, pp b2 0), (3, pp b3 0)]) (fun i => i.1) (fun i => pt b3 (.cells #[i.2] 27 (0, 0)) :: pt b2 (.cells #[.slice none 0 0] 27 (0, 0)) :: pt b1 (.cells #[vi kd, .slice p n c, vi y] 40 (0, 0)) :: s) (fun i => Le g i.1 ∧ Cells i.1 i.2 (baseM (modW kd 8) ls y)) ?_ ?_
 ·rcases (by omega : (modW kd 8 = 0 ∨ modW kd 8 = 1 ∨ modW kd 8 = 2) ∨ modW kd 8 = 3 ∨ modW kd 8 = 4 ∨ modW kd 8 = 5 ∨ modW kd 8 = 6 ∨ modW kd 8 = 7) with (hm | hm | hm) | hm | hm | hm | hm | hm
  ·refine SC.seq (SC.region (SL.U (SU.fieldAddr underlying40 rfl sizeOf3 rfl) (SL.K (SQ.load (v := vi kd) isAgg3 rfl (CellAt.own 2 rfl rfl)) (SL.W (SO.call call38 rfl (mod_spec E g _ _ 8 dC)) ?_))))
   rintro _ _ _ ⟨rfl, rfl, rfl⟩
   rw [hm]
   refine SL.nil (ST.thenN (SC.block (SC.seq (SC.seq (SC.region (SL.U (SU.eql rfl rfl) (SL.A rfl (SL.nil (ST.thenN (SC.condT rfl (SC.skip (ST.thenN (SC.condT rfl (SC.region (SL.U (SU.fieldAddr underlying40 rfl sizeOf22 rfl) (SL.K (SQ.load (v := .slice p n c) isAgg22 rfl (CellAt.own 2 rfl rfl)) (SL.W (SO.call call10 rfl (sets_spec E g _ _ ls hv)) ?_)))))))))))))))))
   rintro v16 g1 _ ⟨rs1, rfl, hle1, hall1⟩
   refine SL.freezeRow fun g2 hle2 hs2 => ?_
   have hls : Lists g2 v16 (setsC ls) := ⟨rs1, hs2, hall1.mono fun _ _ => ListR.mono hle2⟩
   refine SL.W (SO.call call14 rfl (refSimplicial_spec E g2 _ _ _ hls oM (fun x hx => by have := hss.2 x hx; omega))) ?_
   rintro _ g3 _ ⟨rfl, hle3, u, rfl, hu⟩
   obtain ⟨q, d, rfl⟩ := hu.form
   refine SL.on (SO.storeAllK 0 sizeOf27 rfl rfl rfl rfl rfl (by exact ⟨rfl, trivial⟩)) ?_
   rintro _ _ _ ⟨rfl, rfl⟩
   refine SL.nil (ST.blockN ?_)
   exact ST.mid (g3, _) ⟨rfl, rfl, rfl, trivial⟩ rfl rfl ⟨hle1.trans (hle2.trans hle3), hu⟩
  ·refine SC.seq (SC.region (SL.U (SU.fieldAddr underlying40 rfl sizeOf3 rfl) (SL.K (SQ.load (v := vi kd) isAgg3 rfl (CellAt.own 2 rfl rfl)) (SL.W (SO.call call38 rfl (mod_spec E g _ _ 8 dC)) ?_))))
   rintro _ _ _ ⟨rfl, rfl, rfl⟩
   rw [hm]
   refine SL.nil (ST.thenN (SC.block (SC.seq (SC.seq (SC.region (SL.U (SU.eql rfl rfl) (SL.A rfl (SL.nil (ST.thenN (SC.condF rfl (SC.seq (SC.region (SL.U (SU.eql rfl rfl) (SL.A rfl (SL.nil (ST.thenN (SC.condT rfl (SC.skip (ST.thenN (SC.condT rfl (SC.region (SL.U (SU.fieldAddr underlying40 rfl sizeOf22 rfl) (SL.K (SQ.load (v := .slice p n c) isAgg22 rfl (CellAt.own 2 rfl rfl)) (SL.W (SO.call call10 rfl (sets_spec E g _ _ ls hv)) ?_))))))))))))))))))))))))
   rintro v16 g1 _ ⟨rs1, rfl, hle1, hall1⟩
   refine SL.freezeRow fun g2 hle2 hs2 => ?_
   have hls : Lists g2 v16 (setsC ls) := ⟨rs1, hs2, hall1.mono fun _ _ => ListR.mono hle2⟩
   refine SL.W (SO.call call14 rfl (refSimplicial_spec E g2 _ _ _ hls oM (fun x hx => by have := hss.2 x hx; omega))) ?_
   rintro _ g3 _ ⟨rfl, hle3, u, rfl, hu⟩
   obtain ⟨q, d, rfl⟩ := hu.form
   refine SL.on (SO.storeAllK 0 sizeOf27 rfl rfl rfl rfl rfl (by exact ⟨rfl, trivial⟩)) ?_
   rintro _ _ _ ⟨rfl, rfl⟩
   refine SL.nil (ST.blockN ?_)
   exact ST.mid (g3, _) ⟨rfl, rfl, rfl, trivial⟩ rfl rfl ⟨hle1.trans (hle2.trans hle3), hu⟩
  ·refine SC.seq (SC.region (SL.U (SU.fieldAddr underlying40 rfl sizeOf3 rfl) (SL.K (SQ.load (v := vi kd) isAgg3 rfl (CellAt.own 2 rfl rfl)) (SL.W (SO.call call38 rfl (mod_spec E g _ _ 8 dC)) ?_))))
   rintro _ _ _ ⟨rfl, rfl, rfl⟩
   rw [hm]
   refine SL.nil (ST.thenN (SC.block (SC.seq (SC.seq (SC.region (SL.U (SU.eql rfl rfl) (SL.A rfl (SL.nil (ST.thenN (SC.condF rfl (SC.seq (SC.region (SL.U (SU.eql rfl rfl) (SL.A rfl (SL.nil (ST.thenN (SC.condF rfl (SC.region (SL.U (SU.eql rfl rfl) (SL.A rfl (SL.nil (ST.thenN (SC.condT rfl (SC.region (SL.U (SU.fieldAddr underlying40 rfl sizeOf22 rfl) (SL.K (SQ.load (v := .slice p n c) isAgg22 rfl (CellAt.own 2 rfl rfl)) (SL.W (SO.call call10 rfl (sets_spec E g _ _ ls hv)) ?_)))))))))))))))))))))))))))
   rintro v16 g1 _ ⟨rs1, rfl, hle1, hall1⟩
   refine SL.freezeRow fun g2 hle2 hs2 => ?_
   have hls : Lists g2 v16 (setsC ls) := ⟨rs1, hs2, hall1.mono fun _ _ => ListR.mono hle2⟩
   refine SL.W (SO.call call14 rfl (refSimplicial_spec E g2 _ _ _ hls oM (fun x hx => by have := hss.2 x hx; omega))) ?_
   rintro _ g3 _ ⟨rfl, hle3, u, rfl, hu⟩
   obtain ⟨q, d, rfl⟩ := hu.form
   refine SL.on (SO.storeAllK 0 sizeOf27 rfl rfl rfl rfl rfl (by exact ⟨rfl, trivial⟩)) ?_
   rintro _ _ _ ⟨rfl, rfl⟩
   refine SL.nil (ST.blockN ?_)
   exact ST.mid (g3, _) ⟨rfl, rfl, rfl, trivial⟩ rfl rfl ⟨hle1.trans (hle2.trans hle3), hu⟩
  ·refine SC.seq (SC.region (SL.U (SU.fieldAddr underlying40 rfl sizeOf3 rfl) (SL.K (SQ.load (v := vi kd) isAgg3 rfl (CellAt.own 2 rfl rfl)) (SL.W (SO.call call38 rfl (mod_spec E g _ _ 8 dC)) ?_))))
   rintro _ _ _ ⟨rfl, rfl, rfl⟩
   rw [hm]
   refine SL.nil (ST.thenN (SC.block (SC.seq (SC.seq (SC.region (SL.U (SU.eql rfl rfl) (SL.A rfl (SL.nil (ST.thenN (SC.condF rfl (SC.seq (SC.region (SL.U (SU.eql rfl rfl) (SL.A rfl (SL.nil (ST.thenN (SC.condF rfl (SC.region (SL.U (SU.eql rfl rfl) (SL.A rfl (SL.nil (ST.thenN (SC.condF rfl (SC.seq (SC.region (SL.U (SU.eql rfl rfl) (SL.A rfl (SL.nil (ST.thenN ?_)))))))))))))))))))))))))))))
   refine SC.condT rfl (SC.region (SL.U (SU.fieldAddr underlying40 rfl sizeOf3 rfl) (SL.K (SQ.load (v := vi y) isAgg3 rfl (CellAt.own 2 rfl rfl)) (SL.W (SO.call call64 rfl (surface_spec E g _ y)) ?_))))
   rintro v22 g1 _ ⟨rfl, hle1, hls⟩
   refine SL.W (SO.call call14 rfl (refSimplicial_spec E g1 _ _ _ hls oM (fun x hx => by have := hsf.2.2 x hx; omega))) ?_
   rintro _ g3 _ ⟨rfl, hle3, u, rfl, hu⟩
   obtain ⟨q, d, rfl⟩ := hu.form
   refine SL.on (SO.storeAllK 0 sizeOf27 rfl rfl rfl rfl rfl (by exact ⟨rfl, trivial⟩)) ?_
   rintro _ _ _ ⟨rfl, rfl⟩
   refine SL.nil (ST.blockN ?_)
   exact ST.mid (g3, _) ⟨rfl, rfl, rfl, trivial⟩ rfl rfl ⟨hle1.trans hle3, hu⟩
  ·refine SC.seq (SC.region (SL.U (SU.fieldAddr underlying40 rfl sizeOf3 rfl) (SL.K (SQ.load (v := vi kd) isAgg3 rfl (CellAt.own 2 rfl rfl)) (SL.W (SO.call call38 rfl (mod_spec E g _ _ 8 dC)) ?_))))
   rintro _ _ _ ⟨rfl, rfl, rfl⟩
   rw [hm]
   refine SL.nil (ST.thenN (SC.block (SC.seq (SC.seq (SC.region (SL.U (SU.eql rfl rfl) (SL.A rfl (SL.nil (ST.thenN (SC.condF rfl (SC.seq (SC.region (SL.U (SU.eql rfl rfl) (SL.A rfl (SL.nil (ST.thenN (SC.condF rfl (SC.region (SL.U (SU.eql rfl rfl) (SL.A rfl (SL.nil (ST.thenN (SC.condF rfl (SC.seq (SC.region (SL.U (SU.eql rfl rfl) (SL.A rfl (SL.nil (ST.thenN ?_)))))))))))))))))))))))))))))
   refine SC.condF rfl (SC.seq (SC.region (SL.U (SU.eql rfl rfl) (SL.A rfl (SL.nil (ST.thenN (SC.condT rfl (SC.seq (SC.region (SL.U (SU.fieldAddr underlying40 rfl sizeOf3 rfl) (SL.K (SQ.load (v := vi y) isAgg3 rfl (CellAt.own 2 rfl rfl)) (SL.W (SO.call call38 rfl (mod_spec E g _ _ 3 dC)) ?_))))))))))))
   rintro _ _ _ ⟨rfl, rfl, rfl⟩
   refine SL.A rfl (SL.nil (ST.thenN (SC.seq (SC.region (SL.W (SO.buildSlice sty45 rfl rfl rfl (szs_mk ⟨rfl, rfl, trivial⟩) dC) ?_)))))
   rintro _ _ _ ⟨b29, rfl, rfl, rfl⟩
   refine SL.freeze fun g1 hle1 hb29 => ?_
   refine SL.W (SO.buildSlice sty22 rfl rfl rfl (szs_mk ⟨rfl, trivial⟩) dC) ?_
   rintro _ _ _ ⟨b30, rfl, rfl, rfl⟩
   refine SL.freeze fun g2 hle2 hb30 => ?_
   have hlit30 : Lists g2 (.slice (some ⟨b30, 0, none⟩) 1 1) [[0, 1]] := ⟨[svOf (.slice (some ⟨b29, 0, none⟩) 2 2)], SlA.lit hb30 rfl rfl, ⟨SlA.lit (hle2 _ _ hb29) rfl rfl, trivial⟩⟩
   refine SL.W (SO.buildSlice sty45 rfl rfl rfl (szs_mk ⟨rfl, rfl, trivial⟩) dC) ?_
   rintro _ _ _ ⟨b31, rfl, rfl, rfl⟩
   refine SL.freeze fun g3 hle3 hb31 => ?_
   refine SL.W (SO.buildSlice sty45 rfl rfl rfl (szs_mk ⟨rfl, rfl, trivial⟩) dC) ?_
   rintro _ _ _ ⟨b32, rfl, rfl, rfl⟩
   refine SL.freeze fun g4 hle4 hb32 => ?_
   refine SL.W (SO.buildSlice sty22 rfl rfl rfl (szs_mk ⟨rfl, rfl, trivial⟩) dC) ?_
   rintro _ _ _ ⟨b33, rfl, rfl, rfl⟩
   refine SL.freeze fun g5 hle5 hb33 => ?_
   have hlit33 : Lists g5 (.slice (some ⟨b33, 0, none⟩) 2 2) [[0, 1], [1, 2]] := ⟨[svOf (.slice (some ⟨b31, 0, none⟩) 2 2), svOf (.slice (some ⟨b32, 0, none⟩) 2 2)], SlA.lit hb33 rfl rfl, ⟨SlA.lit (hle5 _ _ (hle4 _ _ hb31)) rfl rfl, SlA.lit (hle5 _ _ hb32) rfl rfl, trivial⟩⟩
   refine SL.W (SO.buildSlice sty45 rfl rfl rfl (szs_mk ⟨rfl, rfl, trivial⟩) dC) ?_
   rintro _ _ _ ⟨b34, rfl, rfl, rfl⟩
   refine SL.freeze fun g6 hle6 hb34 => ?_
   refine SL.W (SO.buildSlice sty45 rfl rfl rfl (szs_mk ⟨rfl, rfl, trivial⟩) dC) ?_
   rintro _ _ _ ⟨b35, rfl, rfl, rfl⟩
   refine SL.freeze fun g7 hle7 hb35 => ?_
   refine SL.W (SO.buildSlice sty45 rfl rfl rfl (szs_mk ⟨rfl, rfl, trivial⟩) dC) ?_
   rintro _ _ _ ⟨b36, rfl, rfl, rfl⟩
   refine SL.freeze fun g8 hle8 hb36 => ?_
   refine SL.W (SO.buildSlice sty22 rfl rfl rfl (szs_mk ⟨rfl, rfl, rfl, trivial⟩) dC) ?_
   rintro _ _ _ ⟨b37, rfl, rfl, rfl⟩
   refine SL.freeze fun g9 hle9 hb37 => ?_
   have hlit37 : Lists g9 (.slice (some ⟨b37, 0, none⟩) 3 3) [[0, 1], [1, 2], [0, 2]] := ⟨[svOf (.slice (some ⟨b34, 0, none⟩) 2 2), svOf (.slice (some ⟨b35, 0, none⟩) 2 2), svOf (.slice (some ⟨b36, 0, none⟩) 2 2)], SlA.lit hb37 rfl rfl, ⟨SlA.lit (hle9 _ _ (hle8 _ _ (hle7 _ _ hb34))) rfl rfl, SlA.lit (hle9 _ _ (hle8 _ _ hb35)) rfl rfl, SlA.lit (hle9 _ _ hb36) rfl rfl, trivial⟩⟩
   refine SL.U (SU.build rfl (build92 _ _ _ _ _ _ _ _ _)) (SL.W (SO.alloc zeroValue92) ?_)
   rintro _ _ _ ⟨b5, rfl, rfl, rfl⟩
   refine SL.on (SO.storeAllK 0 sizeOf92 rfl rfl rfl rfl rfl (by exact ⟨rfl, rfl, rfl, trivial⟩)) ?_
   rintro _ _ _ ⟨rfl, rfl⟩
   refine SL.nil (ST.thenN ?_)
   have hl1 := three_lists hy3 (hlit30.mono (hle3.trans (hle4.trans (hle5.trans (hle6.trans (hle7.trans (hle8.trans hle9))))))) (hlit33.mono (hle6.trans (hle7.trans (hle8.trans hle9)))) hlit37
   have hl2 := three_lists hy33 (hlit30.mono (hle3.trans (hle4.trans (hle5.trans (hle6.trans (hle7.trans (hle8.trans hle9))))))) (hlit33.mono (hle6.trans (hle7.trans (hle8.trans hle9)))) hlit37
   refine SC.to (fun w hw => hw) (g' := g9) (s' := pt b5 (.cells #[.slice (some ⟨b30, 0, none⟩) 1 1, .slice (some ⟨b33, 0, none⟩) 2 2, .slice (some ⟨b37, 0, none⟩) 3 3] 92 (0, 0)) :: pt b3 (.cells #[.slice none 0 0] 27 (0, 0)) :: pt b2 (.cells #[.slice none 0 0] 27 (0, 0)) :: pt b1 (.cells #[vi kd, .slice p n c, vi y] 40 (0, 0)) :: s) ?_
   refine SC.draw [12] [(0, 2), (1, 2), (2, 1), (4, 2), (5, 1), (6, 2), (3, 0), (7, 0), (8, 2), (9, 1), (10, 0), (11, 0), (12, 0)] Tryz.mixed (by kernel_rfl) ?_
   refine SP.U (i := 0) rfl (SU.move rfl) (SP.U (i := 1) rfl (SU.indexAddrA underlying92 sizeOf22 rfl rfl oM oM) (SP.K (i := 2) rfl (SQ.load (v := sel3 (modW y 3) (.slice (some ⟨b30, 0, none⟩) 1 1) (.slice (some ⟨b33, 0, none⟩) 2 2) (.slice (some ⟨b37, 0, none⟩) 3 3)) isAgg22 rfl (CellAt.own 0 rfl (sel3_get hy3 _ _ _))) (SP.U (i := 4) rfl (SU.fieldAddr underlying40 rfl sizeOf3 rfl) (SP.K (i := 5) rfl (SQ.load (v := vi y) isAgg3 rfl (CellAt.own 3 rfl rfl)) (SP.U (i := 6) rfl (SU.quo rfl rfl dC) (SP.o (i := 3) rfl (SO.call call14 rfl (refSimplicial_spec E g9 _ _ _ hl1 (by have := (three_small (modW y 3)).1; omega) (fun x hx => by have := (three_small (modW y 3)).2 x hx; omega))) dC (.inr (by rintro _ ga _ ⟨rfl, hlea, ua, rfl, hua⟩; exact ⟨by assumption, (by exact .refl _)⟩)) ?_))))))
   rintro _ ga _ ⟨rfl, hlea, ua, rfl, hua⟩
   obtain ⟨qa, da, rfl⟩ := hua.form
   refine SP.o (i := 7) rfl (SO.call call38 rfl (mod_spec E ga _ _ 3 dC)) dC (.inr (by rintro _ _ _ ⟨rfl, rfl, rfl⟩; exact ⟨by assumption, (by exact .refl _)⟩)) ?_
   rintro _ _ _ ⟨rfl, rfl, rfl⟩
   refine SP.U (i := 8) rfl (SU.indexAddrA underlying92 sizeOf22 rfl rfl oM oM) (SP.K (i := 9) rfl (SQ.load (v := sel3 (modW (IntKind.i64.wrap (y.tdiv 3)) 3) (.slice (some ⟨b30, 0, none⟩) 1 1) (.slice (some ⟨b33, 0, none⟩) 2 2) (.slice (some ⟨b37, 0, none⟩) 3 3)) isAgg22 rfl (CellAt.own 0 rfl (sel3_get hy33 _ _ _))) (SP.o (i := 10) rfl (SO.call call14 rfl (refSimplicial_spec E ga _ _ _ (hl2.mono hlea) (by have := (three_small (modW (IntKind.i64.wrap (y.tdiv 3)) 3)).1; omega) (fun x hx => by have := (three_small (modW (IntKind.i64.wrap (y.tdiv 3)) 3)).2 x hx; omega))) dC (.inr (by rintro _ gb _ ⟨rfl, hleb, ub, rfl, hub⟩; exact ⟨by exact Le.trans (by assumption) (by assumption), (by exact .refl _)⟩)) ?_))
   rintro _ gb _ ⟨rfl, hleb, ub, rfl, hub⟩
   obtain ⟨qb, db, rfl⟩ := hub.form
   have hleab := hlea.trans hleb
   refine SP.o (i := 11) rfl (SO.call call18 rfl (refProduct_spec E gb _ _ _ _ _ (hua.mono hleb) hub (simpC_fits _).1 (simpC_fits _).1)) dC (.inr (by rintro _ gc _ ⟨rfl, hlec, uc, rfl, huc⟩; exact ⟨by exact Le.trans (by assumption) (by assumption), (by exact .refl _)⟩)) ?_
   rintro _ gc _ ⟨rfl, hlec, uc, rfl, huc⟩
   obtain ⟨qc, dc, rfl⟩ := huc.form
   refine SP.on (i := 12) rfl (SO.storeAllK 1 sizeOf27 rfl rfl rfl rfl rfl (by exact ⟨rfl, trivial⟩)) (.inl dC) ?_
   rintro _ _ _ ⟨rfl, rfl⟩
   refine SP.nil (ST.blockN (ST.drop (s' := pt b3 (.cells #[(Value.slice qc _ dc)] 27 (0, 0)) :: pt b2 (.cells #[.slice none 0 0] 27 (0, 0)) :: pt b1 (.cells #[vi kd, .slice p n c, vi y] 40 (0, 0)) :: s) (.cons _ (.refl _)) ?_))
   exact ST.mid (gc, _) ⟨rfl, rfl, rfl, trivial⟩ rfl rfl ⟨(hle1.trans (hle2.trans (hle3.trans (hle4.trans (hle5.trans (hle6.trans (hle7.trans (hle8.trans hle9)))))))).trans (hlea.trans (hleb.trans hlec)), huc⟩
  ·refine SC.seq (SC.region (SL.U (SU.fieldAddr underlying40 rfl sizeOf3 rfl) (SL.K (SQ.load (v := vi kd) isAgg3 rfl (CellAt.own 2 rfl rfl)) (SL.W (SO.call call38 rfl (mod_spec E g _ _ 8 dC)) ?_))))
   rintro _ _ _ ⟨rfl, rfl, rfl⟩
   rw [hm]
   refine SL.nil (ST.thenN (SC.block (SC.seq (SC.seq (SC.region (SL.U (SU.eql rfl rfl) (SL.A rfl (SL.nil (ST.thenN (SC.condF rfl (SC.seq (SC.region (SL.U (SU.eql rfl rfl) (SL.A rfl (SL.nil (ST.thenN (SC.condF rfl (SC.region (SL.U (SU.eql rfl rfl) (SL.A rfl (SL.nil (ST.thenN (SC.condF rfl (SC.seq (SC.region (SL.U (SU.eql rfl rfl) (SL.A rfl (SL.nil (ST.thenN ?_)))))))))))))))))))))))))))))
   refine SC.condF rfl (SC.seq (SC.region (SL.U (SU.eql rfl rfl) (SL.A rfl (SL.nil (ST.thenN (SC.condF rfl (SC.seq (SC.region (SL.U (SU.eql rfl rfl) (SL.A rfl (SL.nil (ST.thenN (SC.condT rfl (SC.region (SL.U (SU.fieldAddr underlying40 rfl sizeOf3 rfl) (SL.K (SQ.load (v := vi y) isAgg3 rfl (CellAt.own 2 rfl rfl)) (SL.W (SO.call call38 rfl (mod_spec E g _ _ 5 dC)) ?_))))))))))))))))))
   rintro _ _ _ ⟨rfl, rfl, rfl⟩
   refine SL.U (SU.eq (v' := vi (((2 + modW y 5).toNat : Nat) : Int)) (SU.add rfl rfl oM) (congrArg vi oM)) (SL.W (SO.call call65 rfl (polygon_spec E g _ (2 + modW y 5).toNat oM oM)) ?_)
   rintro _ g3 _ ⟨rfl, hle3, u, rfl, hu⟩
   obtain ⟨q, d, rfl⟩ := hu.form
   refine SL.on (SO.storeAllK 0 sizeOf27 rfl rfl rfl rfl rfl (by exact ⟨rfl, trivial⟩)) ?_
   rintro _ _ _ ⟨rfl, rfl⟩
   refine SL.nil (ST.blockN ?_)
   exact ST.mid (g3, _) ⟨rfl, rfl, rfl, trivial⟩ rfl rfl ⟨hle3, hu⟩
  ·refine SC.seq (SC.region (SL.U (SU.fieldAddr underlying40 rfl sizeOf3 rfl) (SL.K (SQ.load (v := vi kd) isAgg3 rfl (CellAt.own 2 rfl rfl)) (SL.W (SO.call call38 rfl (mod_spec E g _ _ 8 dC)) ?_))))
   rintro _ _ _ ⟨rfl, rfl, rfl⟩
   rw [hm]
   refine SL.nil (ST.thenN (SC.block (SC.seq (SC.seq (SC.region (SL.U (SU.eql rfl rfl) (SL.A rfl (SL.nil (ST.thenN (SC.condF rfl (SC.seq (SC.region (SL.U (SU.eql rfl rfl) (SL.A rfl (SL.nil (ST.thenN (SC.condF rfl (SC.region (SL.U (SU.eql rfl rfl) (SL.A rfl (SL.nil (ST.thenN (SC.condF rfl (SC.seq (SC.region (SL.U (SU.eql rfl rfl) (SL.A rfl (SL.nil (ST.thenN ?_)))))))))))))))))))))))))))))
   refine SC.condF rfl (SC.seq (SC.region (SL.U (SU.eql rfl rfl) (SL.A rfl (SL.nil (ST.thenN (SC.condF rfl (SC.seq (SC.region (SL.U (SU.eql rfl rfl) (SL.A rfl (SL.nil (ST.thenN (SC.condF rfl (SC.seq (SC.region (SL.U (SU.eql rfl rfl) (SL.A rfl (SL.nil (ST.thenN (SC.condT rfl (SC.seq (SC.region (SL.W (SO.buildSlice sty45 rfl rfl rfl (szs_mk ⟨rfl, rfl, trivial⟩) dC) ?_))))))))))))))))))))))))
   rintro _ _ _ ⟨b60, rfl, rfl, rfl⟩
   refine SL.freeze fun g1 hle1 hb60 => ?_
   refine SL.W (SO.buildSlice sty22 rfl rfl rfl (szs_mk ⟨rfl, trivial⟩) dC) ?_
   rintro _ _ _ ⟨b61, rfl, rfl, rfl⟩
   refine SL.freeze fun g2 hle2 hb61 => ?_
   have hlit61 : Lists g2 (.slice (some ⟨b61, 0, none⟩) 1 1) [[0, 1]] := ⟨[svOf (.slice (some ⟨b60, 0, none⟩) 2 2)], SlA.lit hb61 rfl rfl, ⟨SlA.lit (hle2 _ _ hb60) rfl rfl, trivial⟩⟩
   refine SL.W (SO.call call14 rfl (refSimplicial_spec E g2 _ _ _ hlit61 dC dC)) ?_
   rintro _ ga _ ⟨rfl, hlea, ua, rfl, hua⟩
   obtain ⟨qa, da, rfl⟩ := hua.form
   refine SL.W (SO.alloc zeroValue27) ?_
   rintro _ _ _ ⟨b6, rfl, rfl, rfl⟩
   refine SL.on (SO.storeAllK 0 sizeOf27 rfl rfl rfl rfl rfl (by exact ⟨rfl, trivial⟩)) ?_
   rintro _ _ _ ⟨rfl, rfl⟩
   refine SL.nil (ST.thenN ?_)
   refine SC.to (fun w hw => hw) (g' := ga) (s' := pt b6 (.cells #[.slice qa (simpC [[0, 1]]).length da] 27 (0, 0)) :: pt b3 (.cells #[.slice none 0 0] 27 (0, 0)) :: pt b2 (.cells #[.slice none 0 0] 27 (0, 0)) :: pt b1 (.cells #[vi kd, .slice p n c, vi y] 40 (0, 0)) :: s) ?_
   refine SC.draw [5] [(0, 1), (1, 1), (3, 1), (2, 0), (4, 0), (5, 0)] Tryz.mixed (by kernel_rfl) ?_
   refine SP.K (i := 0) rfl (SQ.loadVarK 0 isAgg27 sizeOf27 rfl rfl rfl) (SP.K (i := 1) rfl (SQ.loadVarK 0 isAgg27 sizeOf27 rfl rfl rfl) (SP.K (i := 3) rfl (SQ.loadVarK 0 isAgg27 sizeOf27 rfl rfl rfl) (SP.o (i := 2) rfl (SO.call call18 rfl (refProduct_spec E ga _ _ _ _ _ hua hua (simpC_fits _).1 (simpC_fits _).1)) dC (.inr (by rintro _ gb _ ⟨rfl, hleb, ub, rfl, hub⟩; exact ⟨by assumption, (by exact .refl _)⟩)) ?_)))
   rintro _ gb _ ⟨rfl, hleb, ub, rfl, hub⟩
   obtain ⟨qb, db, rfl⟩ := hub.form
   refine SP.o (i := 4) rfl (SO.call call18 rfl (refProduct_spec E gb _ _ _ _ _ hub (hua.mono hleb) (refProdC_fits _ _).1 (simpC_fits _).1)) dC (.inr (by rintro _ gc _ ⟨rfl, hlec, uc, rfl, huc⟩; exact ⟨by exact Le.trans (by assumption) (by assumption), (by exact .refl _)⟩)) ?_
   rintro _ gc _ ⟨rfl, hlec, uc, rfl, huc⟩
   obtain ⟨qc, dc, rfl⟩ := huc.form
   refine SP.on (i := 5) rfl (SO.storeAllK 1 sizeOf27 rfl rfl rfl rfl rfl (by exact ⟨rfl, trivial⟩)) (.inl dC) ?_
   rintro _ _ _ ⟨rfl, rfl⟩
   refine SP.nil (ST.blockN (ST.drop (s' := pt b3 (.cells #[(Value.slice qc _ dc)] 27 (0, 0)) :: pt b2 (.cells #[.slice none 0 0] 27 (0, 0)) :: pt b1 (.cells #[vi kd, .slice p n c, vi y] 40 (0, 0)) :: s) (.cons _ (.refl _)) ?_))
   exact ST.mid (gc, _) ⟨rfl, rfl, rfl, trivial⟩ rfl rfl ⟨(hle1.trans hle2).trans (hlea.trans (hleb.trans hlec)), huc⟩
  ·refine SC.seq (SC.region (SL.U (SU.fieldAddr underlying40 rfl sizeOf3 rfl) (SL.K (SQ.load (v := vi kd) isAgg3 rfl (CellAt.own 2 rfl rfl)) (SL.W (SO.call call38 rfl (mod_spec E g _ _ 8 dC)) ?_))))
   rintro _ _ _ ⟨rfl, rfl, rfl⟩
   rw [hm]
   refine SL.nil (ST.thenN (SC.block (SC.seq (SC.seq (SC.region (SL.U (SU.eql rfl rfl) (SL.A rfl (SL.nil (ST.thenN (SC.condF rfl (SC.seq (SC.region (SL.U (SU.eql rfl rfl) (SL.A rfl (SL.nil (ST.thenN (SC.condF rfl (SC.region (SL.U (SU.eql rfl rfl) (SL.A rfl (SL.nil (ST.thenN (SC.condF rfl (SC.seq (SC.region (SL.U (SU.eql rfl rfl) (SL.A rfl (SL.nil (ST.thenN ?_)))))))))))))))))))))))))))))
   refine SC.condF rfl (SC.seq (SC.region (SL.U (SU.eql rfl rfl) (SL.A rfl (SL.nil (ST.thenN (SC.condF rfl (SC.seq (SC.region (SL.U (SU.eql rfl rfl) (SL.A rfl (SL.nil (ST.thenN (SC.condF rfl (SC.seq (SC.region (SL.U (SU.eql rfl rfl) (SL.A rfl (SL.nil (ST.thenN (SC.condF rfl (SC.seq (SC.region (SL.U (SU.eql rfl rfl) (SL.A rfl (SL.nil (ST.thenN (SC.condT rfl ?_))))))))))))))))))))))))))))
   refine SC.draw [13] [(0, 2), (1, 1), (3, 2), (4, 1), (6, 2), (7, 1), (2, 0), (5, 0), (8, 0), (9, 2), (10, 2), (11, 0), (12, 0), (13, 0)] Tryz.mixed (by kernel_rfl) ?_
   refine SP.U (i := 0) rfl (SU.fieldAddr underlying40 rfl sizeOf22 rfl) (SP.K (i := 1) rfl (SQ.load (v := .slice p n c) isAgg22 rfl (CellAt.own 2 rfl rfl)) (SP.U (i := 3) rfl (SU.fieldAddr underlying40 rfl sizeOf3 rfl) (SP.K (i := 4) rfl (SQ.load (v := vi y) isAgg3 rfl (CellAt.own 2 rfl rfl)) (SP.U (i := 6) rfl (SU.fieldAddr underlying40 rfl sizeOf3 rfl) (SP.K (i := 7) rfl (SQ.load (v := vi y) isAgg3 rfl (CellAt.own 2 rfl rfl)) (SP.o (i := 2) rfl (SO.call call10 rfl (sets_spec E g _ _ ls hv)) dC (.inr (by rintro v72 g1 _ ⟨rs1, rfl, hle1, hall1⟩; exact ⟨by assumption, (by exact .cons _ (.refl _))⟩)) ?_))))))
   rintro v72 g1 _ ⟨rs1, rfl, hle1, hall1⟩
   refine SP.o (i := 5) rfl (SO.call call64 rfl (surface_spec E g1 _ y)) dC (.inr (by rintro v75 g2 _ ⟨rfl, hle2, hsv⟩; exact ⟨by exact Le.trans (by assumption) (by assumption), (by exact .cons _ (.refl _))⟩)) ?_
   rintro v75 g2 _ ⟨rfl, hle2, hsv⟩
   obtain ⟨rs2, hrs2, hall2⟩ := hsv
   have hrl2 := hall2.length
   have hrl1 := hall1.length
   obtain ⟨q2, d2, rfl⟩ := SlA.form hrs2
   have hcap2 := (SlA.cap hrs2).2
   have hcut := SlA.cut hrs2 (l := 0) (m := (2 + modW y 2).toNat) (Nat.zero_le _) oM
   rw [List.drop_zero, Nat.sub_zero] at hcut
   refine SP.o (i := 8) rfl (SO.call call38 rfl (mod_spec E g2 _ _ 2 dC)) dC (.inr (by rintro _ _ _ ⟨rfl, rfl, rfl⟩; exact ⟨by exact Le.trans (by assumption) (by assumption), (by exact .cons _ (.refl _))⟩)) ?_
   rintro _ _ _ ⟨rfl, rfl, rfl⟩
   refine SP.U (i := 9) rfl (SU.add rfl rfl oM) (SP.U (i := 10) rfl (SU.sliceH underlying22 sizeOf45 rfl rfl oM oM) (SP.o (i := 11) rfl (SO.appA (e := encSv) 0 sty22 rfl rfl rfl hcut (by rw [List.length_take]; omega) (by rw [List.length_take]; omega)) dC (.inr (by rintro v81 _ _ ⟨rfl, rfl⟩; exact ⟨by exact Le.trans (by assumption) (by assumption), (by exact .cons _ (.refl _))⟩)) ?_))
   rintro v81 _ _ ⟨rfl, rfl⟩
   refine SP.freezeRow fun g3 hle3 hs3 => ?_
   have hls : Lists g3 v81 (setsC ls ++ (surfC y).take (2 + modW y 2).toNat) := ⟨_, hs3, (hall1.mono fun _ _ => ListR.mono (hle2.trans hle3)).append ((All2.take _ hall2).mono fun _ _ => ListR.mono hle3)⟩
   have hle13 := hle1.trans (hle2.trans hle3)
   refine SP.o (i := 12) rfl (SO.call call14 rfl (refSimplicial_spec E g3 _ _ _ hls (by rw [List.length_append, List.length_take]; omega) (fun x hx => by rcases List.mem_append.1 hx with h | h; (have := hss.2 x h; omega); (have := hsf.2.2 x (List.mem_of_mem_take h); omega)))) dC (.inr (by rintro _ g4 _ ⟨rfl, hle4, u, rfl, hu⟩; exact ⟨by exact Le.trans (by assumption) (by assumption), (by exact .refl _)⟩)) ?_
   rintro _ g4 _ ⟨rfl, hle4, u, rfl, hu⟩
   obtain ⟨q, d, rfl⟩ := hu.form
   refine SP.on (i := 13) rfl (SO.storeAllK 0 sizeOf27 rfl rfl rfl rfl rfl (by exact ⟨rfl, trivial⟩)) (.inl dC) ?_
   rintro _ _ _ ⟨rfl, rfl⟩
   refine SP.nil (ST.blockN ?_)
   exact ST.mid (g4, _) ⟨rfl, rfl, rfl, trivial⟩ rfl rfl ⟨hle1.trans (hle2.trans (hle3.trans hle4)), hu⟩
 rintro ⟨g1, bv⟩ ⟨hle1, hbv⟩
 dsimp only at hle1 hbv ⊢
 generalize hB : baseM (modW kd 8) ls y = B at *
 obtain ⟨qb, db, rfl⟩ := hbv.form
 refine SC.seq (SC.seq (SC.region (SL.U (SU.fieldAddr underlying27 rfl sizeOf25 rfl) (SL.K (SQ.load (v := .slice qb B.length db) isAgg25 rfl (CellAt.own 0 rfl rfl)) (SL.U (SU.lenN underlying25 rfl) (SL.U (SU.gtr rfl rfl) (SL.nil (ST.thenN ?_))))))))
 refine SC.ifP rfl (fun hbig => ?_) (fun hbig => ?_)
 ·refine SC.region (SL.W (SO.call call66 rfl (torus_spec E g1 _)) ?_)
  rintro _ g2 _ ⟨rfl, hle2, ut, rfl, hut⟩
  obtain ⟨qt, dt, rfl⟩ := hut.form
  refine SL.on (SO.storeAllK 0 sizeOf27 rfl rfl rfl rfl rfl (by exact ⟨rfl, trivial⟩)) ?_
  rintro _ _ _ ⟨rfl, rfl⟩
  refine SL.nil (ST.thenN (SC.seq ?_))
  refine SC.to (fun w hw => hw) (g' := g2) (s' := pt b3 (.cells #[(Value.slice qt torusC.length dt)] 27 (0, 0)) :: pt b2 (.cells #[.slice none 0 0] 27 (0, 0)) :: pt b1 (.cells #[vi kd, .slice p n c, vi y] 40 (0, 0)) :: s) ?_
  refine SC.region (SL.K (SQ.loadVarK 0 isAgg27 sizeOf27 rfl rfl rfl) (SL.U (SU.fieldAddr underlying40 rfl sizeOf3 rfl) (SL.K (SQ.load (v := vi y) isAgg3 rfl (CellAt.own 2 rfl rfl)) (SL.W (SO.call call67 rfl (renumbered_spec E g2 _ _ torusC y hut (refProdC_fits _ _).1)) ?_))))
  rintro _ g3 _ ⟨rfl, hle3, x3, rfl, hx3⟩
  obtain ⟨q3, d3, rfl⟩ := hx3.form
  refine SL.on (SO.storeAllK 1 sizeOf27 rfl rfl rfl rfl rfl (by exact ⟨rfl, trivial⟩)) ?_
  rintro _ _ _ ⟨rfl, rfl⟩
  refine SL.nil (ST.thenN (SC.ret ?_))
  exact ST.retCD 1 s (.inl rfl) results20 rfl isAgg27 sizeOf27 rfl rfl (.cons _ (.cons _ (.cons _ (.refl _)))) ⟨rfl, hle1.trans (hle2.trans hle3), _, rfl, by unfold bigC; rw [if_pos hbig]; exact hx3⟩
 ·refine SC.skip (ST.thenN (SC.seq ?_))
  refine SC.to (fun w hw => hw) (g' := g1) (s' := pt b3 (.cells #[(Value.slice qb B.length db)] 27 (0, 0)) :: pt b2 (.cells #[.slice none 0 0] 27 (0, 0)) :: pt b1 (.cells #[vi kd, .slice p n c, vi y] 40 (0, 0)) :: s) ?_
  refine SC.region (SL.K (SQ.loadVarK 0 isAgg27 sizeOf27 rfl rfl rfl) (SL.U (SU.fieldAddr underlying40 rfl sizeOf3 rfl) (SL.K (SQ.load (v := vi y) isAgg3 rfl (CellAt.own 2 rfl rfl)) (SL.W (SO.call call67 rfl (renumbered_spec E g1 _ _ B y hbv hfit)) ?_))))
  rintro _ g3 _ ⟨rfl, hle3, x3, rfl, hx3⟩
  obtain ⟨q3, d3, rfl⟩ := hx3.form
  refine SL.on (SO.storeAllK 1 sizeOf27 rfl rfl rfl rfl rfl (by exact ⟨rfl, trivial⟩)) ?_
  rintro _ _ _ ⟨rfl, rfl⟩
  refine SL.nil (ST.thenN (SC.ret ?_))
  exact ST.retCD 1 s (.inl rfl) results20 rfl isAgg27 sizeOf27 rfl rfl (.cons _ (.cons _ (.cons _ (.refl _)))) ⟨rfl, hle1.trans hle3, _, rfl, by unfold bigC; rw [if_neg hbig]; exact hx3⟩
theorem modW_rangeL (a b : Int) (h0 : 0 < b) (h1 : b ≤ 1099511627776) : 0 ≤ modW a b ∧ modW a b < b := by
 have h2 : a.tmod b < b := Int.tmod_lt_of_pos a h0
 have h3 : -b < a.tmod b := by
  have := Int.lt_tmod_of_pos a h0
  omega
 unfold modW
 rw [IntWalk.i64_in _ oM, Int.tmod_eq_emod_of_nonneg oM]
 exact ⟨Int.emod_nonneg _ oM, Int.emod_lt_of_pos _ h0⟩
theorem modW_nat (a : Int) (n : Nat) (h0 : 0 < n) (h1 : n ≤ 1099511627776) : modW a n = (((modW a n).toNat : Nat) : Int) ∧ (modW a n).toNat < n := by
 have := modW_rangeL a n oM oM
 omega
def dflC : Cl := ⟨0, 0, []⟩
def pickC (l : List Cl) (n : Int) : Cl := l.getD (modW n l.length).toNat dflC
def Small (l : List Cl) : Prop := l.length ≤ 5000 ∧ ∀ c ∈ l, c.sides.length ≤ 1000000
theorem Small.fits {l : List Cl} (h : Small l) : Fits l := ⟨by have := h.1; omega, fun c hc => by have := h.2 c hc; omega⟩
theorem canonC_small {l : List Cl} (h : Small l) : Small (canonC l) := by
 refine ⟨by simp [canonC, sortBy_length]; exact h.1, fun c hc => ?_⟩
 simp only [canonC, List.mem_map] at hc
 obtain ⟨c0, h0, rfl⟩ := hc
 simp only [normC, sortBy_length]
 exact h.2 c0 ((sortBy_mem l c0).1 h0)
theorem simpC_small (ls : List (List Int)) : Small (simpC ls) := by
 unfold simpC
 cases h : simpAll [] ls with
 | none => exact ⟨by simp, by simp⟩
 | some all =>
  obtain ⟨h1, h2⟩ := simpAll_facts [] ls (by simp) (by simp) all h
  refine canonC_small ⟨by rw [simpCells_length]; omega, fun c hc => ?_⟩
  obtain ⟨p, hp, rfl⟩ := List.mem_map.1 hc
  have h3 : p.1 ∈ all := by
   have := List.mem_map_of_mem (f := Prod.fst) hp
   simpa using this
  have h4 := h2 _ h3
  have h5 := simpSides_length all p.1 p.1.length
  simp only [simpCell]
  omega
theorem refProdC_small (a b : List Cl) : Small (refProdC a b) := by
 refine ⟨by have := (refProdC_fits a b).2; omega, ?_⟩
 unfold refProdC
 split
 ·simp
 ·rename_i hbad
  split
  ·have ha : (refCheckC a).2 = 0 := Decidable.of_not_not fun h => hbad (by simp [refProdBad, h])
   have hb : (refCheckC b).2 = 0 := Decidable.of_not_not fun h => hbad (by simp [refProdBad, h])
   obtain ⟨_, _, hat, haf⟩ := refRight_facts ha
   obtain ⟨_, _, hbt, hbf⟩ := refRight_facts hb
   rw [← hat] at haf
   rw [← hbt] at hbf
   have hprod : prodAll a b = (tabC a).flatMap fun x => (tabC b).map (prodCell (tabC a) (tabC b) x) := by unfold prodAll; rw [← hat, ← hbt]
   intro c hc
   simp only [canonC, List.mem_map] at hc
   obtain ⟨c0, h0, rfl⟩ := hc
   simp only [normC, sortBy_length]
   have hc := (sortBy_mem _ c0).1 h0
   rw [hprod] at hc
   obtain ⟨x, hx, hc⟩ := List.mem_flatMap.1 hc
   obtain ⟨y, hy, rfl⟩ := List.mem_map.1 hc
   have h1 := (form_ok (haf x hx)).1
   have h2 := (form_ok (hbf y hy)).1
   simp [prodCell]
   omega
  ·simp
theorem polyC_small {n : Nat} (h : n ≤ 6) : Small (polyC n) := by
 refine canonC_small ⟨by have := (polyAll_fits h).2; omega, fun c hc => ?_⟩
 unfold polyAll at hc
 rcases List.mem_append.1 hc with hc | hc
 ·rcases List.mem_append.1 hc with hc | hc
  ·rcases List.mem_append.1 hc with hc | hc
   ·obtain ⟨i, _, rfl⟩ := List.mem_map.1 hc
    simp
   ·obtain ⟨i, _, rfl⟩ := List.mem_map.1 hc
    simp
  ·simp at hc
   subst hc
   simp [polyS_length]
   omega
 ·split at hc
  ·simp at hc
   subst hc
   simp [polyS_length]
   omega
  ·simp at hc
theorem baseM_small (m : Int) (ls : List (List Int)) (y : Int) : Small (baseM m ls y) := by
 unfold baseM
 have h5 := modW_range y 5 dC dC
 repeat' split
 ·exact simpC_small _
 ·exact refProdC_small _ _
 ·exact polyC_small oM
 ·exact refProdC_small _ _
 ·exact simpC_small _
 ·exact simpC_small _
theorem madeC_small (kd : Int) (ls : List (List Int)) (y : Int) : Small (madeC kd ls y) := by
 have hb : Small (bigC (baseM (modW kd 8) ls y)) := by
  unfold bigC
  split
  ·exact refProdC_small _ _
  ·exact baseM_small _ _ _
 refine canonC_small ⟨by rw [List.length_map]; exact hb.1, fun c hc => ?_⟩
 obtain ⟨x, hx, rfl⟩ := List.mem_map.1 hc
 simpa [renCell] using hb.2 x hx
set_option maxHeartbeats 2000000
open Go.ChangeShapes Go.WideShapes Go.ChangeAt Go.RowKit
set_option maxRecDepth 100000
def held (W : World) : PH := fun b => W.heap[b]?
def E0 (W : World) : World := { W with drawn := 0 }
theorem at_start (W : World) : At (E0 W) (held W) [] W := ⟨rfl, ⟨rfl, Nat.zero_le _⟩, rfl, fun _ _ h => h, by simp, by simp, List.Pairwise.nil⟩
theorem at_below {W W' : World} {g : PH} {s : Own} (h : At (E0 W) g s W') (hl : Le (held W) g) : Below W.heap.size W W' := by
 have hb : ∀ k, k < W.heap.size → W'.heap[k]? = W.heap[k]? := fun k hk => by
  have h1 : W.heap[k]? = some W.heap[k] := Array.getElem?_eq_getElem hk
  rw [h1]
  exact h.known k _ (hl k _ h1)
 refine ⟨h.os, h.tape.1, h.output, ?_, hb⟩
 refine Decidable.of_not_not fun hc => ?_
 have h1 := hb W'.heap.size oM
 rw [Array.getElem?_eq_none (Nat.le_refl _), Array.getElem?_eq_getElem oM] at h1
 cases h1
theorem row_sl {W : World} {a : Addr} {len cap : Nat} {xs : List Value} (hl : len ≤ cap) (hx : xs.length = len) (hc : ∀ i x, xs[i]? = some x → W.cell? (a.add i) = some x) : Sl (held W) 1 (.slice (some a) len cap) len xs := by
 refine ⟨some a, cap, rfl, ⟨oM, hl⟩, fun hne => ?_⟩
 obtain ⟨b, o, sp⟩ := a
 have h0 : 0 < xs.length := List.length_pos_iff.2 hne
 have hc0 := hc 0 xs[0] (List.getElem?_eq_getElem h0)
 have hsp : sp = none := by simpa [Addr.add] using World.cell?_spot hc0
 subst hsp
 have hadd : ∀ i, (⟨b, o, none⟩ : Addr).add i = ⟨b, o + i, none⟩ := fun i => by unfold Addr.add; split <;> simp_all
 simp only [hadd] at hc
 have hcell : ∀ i x, xs[i]? = some x → ∃ cs T fr, W.heap[b]? = some (.cells cs T fr) ∧ cs[o + i]? = some x := fun i x hi => by
  have h1 := hc i x hi
  unfold World.cell? at h1
  split at h1
  ·rename_i cs T fr hh
   exact ⟨cs, T, fr, hh, by simpa using h1⟩
  ·cases h1
 obtain ⟨cs, T, fr, hb, _⟩ := hcell 0 xs[0] (List.getElem?_eq_getElem h0)
 refine ⟨b, o, cs, T, fr, rfl, hb, fun j x hj => ?_⟩
 obtain ⟨cs', T', fr', hb', h2⟩ := hcell j x hj
 rw [hb] at hb'
 cases hb'
 exact h2
section
variable {H : Type} {enc : TypeId × Value → H} {W : World} {base : Nat} {spare : Nat → Bool} {hd : Bool}
theorem Tryz.cells3 : Tryz.prog.cellsOf 3 = 1 := by kernel_rfl
theorem Tryz.cells45 : Tryz.prog.cellsOf 45 = 1 := by kernel_rfl
theorem Tryz.cells40 : Tryz.prog.cellsOf 40 = 3 := by kernel_rfl
theorem ints_of {fuel : Nat} {v : Value} {x : DataW H × List MemPlace} (h : DataW.trod enc Tryz.prog W base spare hd fuel 45 [v] = some x) : ∃ (l : List Int) (r : Sv), v = .slice r.p r.n r.c ∧ Ints (held W) v l := by
 rcases open_ints underlying45 underlying3 cells3 h with ⟨hcs, _⟩ | ⟨a, len, cap, zs, hcs, _, hl, _, hz, _, hcell, _⟩
 ·simp at hcs
  subst hcs
  exact ⟨[], ⟨none, 0, 0⟩, rfl, Sl.nil _ _⟩
 ·simp at hcs
  subst hcs
  have hlz : len ≤ zs.length := by rw [hz]; split <;> omega
  have hlen : (zs.take len).length = len := by rw [List.length_take]; omega
  have he : (zs.take len).flatMap encInt.enc = (zs.take len).map vi := by
   rw [List.flatMap_def]
   induction zs.take len with
   | nil => rfl
   | cons y t ih => simp [encInt] at ih ⊢; exact ih
  refine ⟨zs.take len, ⟨some a, len, cap⟩, rfl, ?_⟩
  show Sl (held W) 1 _ (zs.take len).length ((zs.take len).flatMap encInt.enc)
  rw [he, hlen]
  refine row_sl hl (by rw [List.length_map, hlen]) fun i y hi => ?_
  rw [List.getElem?_map] at hi
  cases hc : (zs.take len)[i]? with
  | none => rw [hc] at hi; cases hi
  | some z =>
   rw [hc] at hi
   cases hi
   have hil : i < (zs.take len).length := (List.getElem?_eq_some_iff.1 hc).1
   have hi2 : i < zs.length := oM
   rw [hcell i hi2]
   have : zs.getD i 0 = z := by
    rw [List.getElem?_take] at hc
    split at hc
    ·rw [List.getD_eq_getElem?_getD, hc]; rfl
    ·cases hc
   rw [this]
theorem all2_map {α β γ : Type} {R : α → β → Prop} {f : γ → α} {k : γ → β} : ∀ {l : List γ}, (∀ i ∈ l, R (f i) (k i)) → All2 R (l.map f) (l.map k)
 | [], _ => trivial
 | x :: l, h => ⟨h x (by simp), all2_map fun i hi => h i (by simp [hi])⟩
instance : Inhabited (List Int × Sv) := ⟨([], ⟨none, 0, 0⟩)⟩
theorem lists_of {fuel : Nat} {v : Value} {x : DataW H × List MemPlace} (h : DataW.trod enc Tryz.prog W base spare hd fuel 22 [v] = some x) : ∃ ls, Lists (held W) v ls := by
 rcases Go.Deep.open_slice1 underlying22 cells45 h with ⟨hcs, _⟩ | ⟨a, len, cap, m, n, V, D, Pl, hcs, _, hl, _, hmm, _, hx⟩
 ·simp at hcs
  subst hcs
  exact ⟨[], [], Sl.nil _ _, trivial⟩
 ·simp at hcs
  subst hcs
  have hlm : len ≤ m := by rw [hmm]; split <;> omega
  obtain ⟨f, hf⟩ := Go.Deep.choose_lt (α := List Int × Sv) (n := len) (p := fun i y => V i = .slice y.2.p y.2.n y.2.c ∧ Ints (held W) (V i) y.1) fun i hi => by
   obtain ⟨l, r, h1, h2⟩ := ints_of (hx i oM).2
   exact ⟨(l, r), h1, h2⟩
  refine ⟨(List.range len).map fun i => (f i).1, (List.range len).map fun i => (f i).2, ?_, all2_map fun i hi => ?_⟩
  ·show Sl (held W) 1 _ ((List.range len).map fun i => (f i).2).length (((List.range len).map fun i => (f i).2).flatMap encSv.enc)
   have he : ((List.range len).map fun i => (f i).2).flatMap encSv.enc = (List.range len).map fun i => V i := by
    have : ∀ l : List Nat, (∀ i ∈ l, i < len) → (l.map fun i => (f i).2).flatMap encSv.enc = l.map fun i => V i := by
     intro l
     induction l with
     | nil => intro _; rfl
     | cons y t ih =>
      intro hy
      rw [List.map_cons, List.flatMap_cons, ih fun i hi => hy i (by simp [hi]), List.map_cons, (hf y (hy y (by simp))).1]
      rfl
    exact this _ fun i hi => List.mem_range.1 hi
   rw [he, List.length_map, List.length_range]
   refine row_sl hl (by simp) fun i y hi => ?_
   rw [List.getElem?_map] at hi
   cases hc : (List.range len)[i]? with
   | none => rw [hc] at hi; cases hi
   | some z =>
    rw [hc] at hi
    cases hi
    obtain ⟨h1, h2⟩ := List.getElem?_eq_some_iff.1 hc
    simp at h1 h2
    subst h2
    exact (hx i oM).1
  ·have := hf i (List.mem_range.1 hi)
   unfold ListR
   rw [← this.1]
   exact this.2
theorem shape_of {r : Reach} {b0 : Nat} {v : Value} {d : DataW H} {p : List MemPlace} (hv : Value.okWide Tryz.prog W r b0 40 v) (h : DataW.Trod enc Tryz.prog W base spare hd 40 v d p) : ∃ (k y : Int) (u : Value) (ls : List (List Int)), v = .agg #[vi k, u, vi y] ∧ Lists (held W) u ls := by
 obtain ⟨c0, c1, c2, y0, y1, y2, n, rfl, _, _, h0, h1, h2⟩ := Go.Joins.open_agg3 underlying40 (by kernel_rfl) cells40 hv h
 obtain ⟨a, e0, _, _⟩ := DataW.trod_int underlying3 h0
 obtain ⟨c, e2, _, _⟩ := DataW.trod_int underlying3 h2
 obtain ⟨ls, hls⟩ := lists_of h1
 simp at e0 e2
 subst e0
 subst e2
 exact ⟨a, c, c1, ls, rfl, hls⟩
end
def clash (A : List Cl) (y : Cl) : Bool := match findT A y.id with
 | some x => !decide (x = y)
 | none => false
def isNew (A : List Cl) (y : Cl) : Bool := (findT A y.id).isNone
def unionC (A B : List Cl) : List Cl × Bool := if B.any (clash A) then ([], false) else (canonC (A ++ B.filter (isNew A)), true)
theorem union_fits {A B : List Cl} (hA : Fits A) (hB : Fits B) (h : A.length + B.length < 1099511627776) : Fits (A ++ B.filter (isNew A)) := by
 have hl := List.length_filter_le (isNew A) B
 refine ⟨by rw [List.length_append]; omega, fun c hc => ?_⟩
 rcases List.mem_append.1 hc with hc | hc
 ·exact hA.2 c hc
 ·exact hB.2 c (List.mem_filter.1 hc).1
def unionC2 (A B : List Cl) : List Cl × Bool := if A.any (clash B) then ([], false) else (canonC (A ++ B.filter (isNew A)), true)
theorem find_self {A : List Cl} (h : (A.map Cl.id).Nodup) {x : Cl} (hx : x ∈ A) : findT A x.id = some x := by
 induction A with
 | nil => simp at hx
 | cons c t ih =>
  simp only [List.map_cons, List.nodup_cons] at h
  unfold findT
  rcases List.mem_cons.1 hx with rfl | hx
  ·simp
  ·have hne : ¬ c.id = x.id := fun e => h.1 (by rw [e]; exact List.mem_map.2 ⟨x, hx, rfl⟩)
   rw [List.find?_cons]
   simp only [hne, decide_false]
   exact ih h.2 hx
theorem clash_any {A B : List Cl} (hA : (A.map Cl.id).Nodup) (hB : (B.map Cl.id).Nodup) (h : A.any (clash B) = true) : B.any (clash A) = true := by
 obtain ⟨x, hx, hc⟩ := List.any_eq_true.1 h
 unfold clash at hc
 cases hf : findT B x.id with
 | none => rw [hf] at hc; cases hc
 | some y =>
  rw [hf] at hc
  obtain ⟨hy, hid⟩ := findT_mem hf
  refine List.any_eq_true.2 ⟨y, hy, ?_⟩
  unfold clash
  rw [hid, find_self hA hx]
  have hne : ¬ y = x := by simpa using hc
  simpa using fun e => hne e.symm
theorem unionC2_eq {A B : List Cl} (hA : (A.map Cl.id).Nodup) (hB : (B.map Cl.id).Nodup) : unionC2 A B = unionC A B := by
 have : A.any (clash B) = B.any (clash A) := by
  rw [Bool.eq_iff_iff]
  exact ⟨clash_any hA hB, clash_any hB hA⟩
 unfold unionC2 unionC
 rw [this]
theorem union_new (E : World) (g : PH) (s : Own) (v u : Value) (a b : List Cl) (hv : Cells g v a) (hu : Cells g u b) (ha : Fits a) (hb : Fits b) (hab : a.length + b.length < 1099511627776) :
  Ctr Tryz.prog E 23 #[.agg #[v], .agg #[u]] g s (fun r g' s' => s = s' ∧ Le g g' ∧ ∃ x, r = .tuple #[.agg #[x], vb (unionC (tabC a) (tabC b)).2] ∧ CellsK (mns g' g) x (unionC (tabC a) (tabC b)).1) := by
 rw [← unionC2_eq (tabC_nodup a) (tabC_nodup b)]
 obtain ⟨vp0, vc0, hvf⟩ := hv.form
 obtain ⟨up0, uc0, huf⟩ := hu.form
 have hta := tabC_length a
 have htb := tabC_length b
 have hfa := tabC_fits ha
 have hfb := tabC_fits hb
 have hfu := union_fits hfa hfb oM
 have hnA := tabC_nodup a
 have hnB := tabC_nodup b
 refine Ctr.of (args := [.agg #[v], .agg #[u]]) func23 rfl ntmps23 (Nat.le_of_ble_eq_true rfl) ?_
 refine SC.seq (SC.region (SL.W (SO.box rfl) ?_))
 rintro _ _ _ ⟨b2, rfl, rfl, rfl⟩
 refine SL.W (SO.box rfl) ?_
 rintro _ _ _ ⟨b3, rfl, rfl, rfl⟩
 refine SL.W (SO.alloc zeroValue27) ?_
 rintro _ _ _ ⟨b4, rfl, rfl, rfl⟩
 refine SL.A rfl (SL.nil (ST.thenN (SC.seq ?_)))
 refine SC.draw [] [(0, 1), (2, 1), (1, 0), (3, 0), (4, 2), (5, 2)] Tryz.mixed (by kernel_rfl) ?_
 refine SP.K (i := 0) rfl (SQ.loadVarK 2 isAgg27 sizeOf27 rfl rfl rfl) (SP.K (i := 2) rfl (SQ.loadVarK 1 isAgg27 sizeOf27 rfl rfl rfl) (SP.o (i := 1) rfl (SO.call call50 rfl (of_spec E g _ _ a hv ha)) dC (.inr (by rintro tv g1 _ ⟨rfl, hle1, hTa0⟩; exact ⟨by assumption, (by exact .refl _)⟩)) ?_))
 rintro tv g1 _ ⟨rfl, hle1, hTa0⟩
 refine SP.o (i := 3) rfl (SO.call call50 rfl (of_spec E g1 _ _ b (hu.mono hle1) hb)) dC (.inr (by rintro uv g2 _ ⟨rfl, hle2, hTb⟩; exact ⟨by exact Le.trans (by assumption) (by assumption), (by exact .refl _)⟩)) ?_
 rintro uv g2 _ ⟨rfl, hle2, hTb⟩
 have hTa := hTa0.mono hle2
 obtain ⟨ba, ma, iva, ra, rfl, hba, hma, hIa, halla⟩ := hTa
 obtain ⟨bb, mb, ivb, rb, rfl, hbb, hmb, hIb, hallb⟩ := hTb
 obtain ⟨qa, da, rfl⟩ := hIa.form
 obtain ⟨qb, db, rfl⟩ := hIb.form
 refine SP.U (i := 4) rfl (SU.assign rfl) (SP.U (i := 5) rfl (SU.assign rfl) (SP.nil (ST.thenN (SC.seq (SC.region (SL.W (SO.alloc zeroValue27) ?_))))))
 rintro _ _ _ ⟨b8, rfl, rfl, rfl⟩
 refine SL.nil (ST.thenN (SC.seq (SC.seq (SC.region (SL.M rfl (SL.U (SU.nilCheck rfl) (SL.U (SU.fieldAddr underlying88 rfl sizeOf45 rfl) (SL.K (SQ.load (v := .slice qa ((tabC a).map Cl.id).length da) isAgg45 rfl (CellAt.known hba rfl)) (SL.U (SU.lenN underlying45 rfl) (SL.M rfl (SL.nil (ST.thenN (SC.block ?_)))))))))))))
 have eal := halla.length
 have ebl := hallb.length
 generalize tabC a = A at *
 generalize tabC b = B at *
 have hids := all2_ids halla
 have hidsB := all2_ids hallb
 have hnr : (ra.map Rc.id).Nodup := by rw [← hids]; exact hnA
 have hnrB : (rb.map Rc.id).Nodup := by rw [← hidsB]; exact hnB
 refine SC.nilRow 51 3 ?_
 simp only [List.length_map] at hIa hIb hba hbb ⊢
 refine SC.loop (ι := Value × List Rc × Nat) (fun i => [(2, pp b2 0), (3, pp b3 0), (4, pp b4 0), (5, vb false), (6, pp ba 0), (7, pp bb 0), (8, pp b8 0), (24, .slice qa A.length da), (25, vi A.length), (26, vi i.2.2)]) (fun _ => g2) (fun i => rowA encCell 51 i.1 i.2.1 :: pt b8 (.cells #[i.1] 27 (0, 0)) :: pt b4 (.cells #[.slice none 0 0] 27 (0, 0)) :: pt b3 (.cells #[u] 27 (0, 0)) :: pt b2 (.cells #[v] 27 (0, 0)) :: s)
  (fun i => i.2.2 ≤ A.length ∧ All2 (CellR g2) (A.take i.2.2) i.2.1 ∧ (A.take i.2.2).any (clash B) = false) (fun i => A.length - i.2.2)
  (.slice none 0 0, [], 0) ⟨rfl, rfl, rfl, rfl, rfl, rfl, rfl, rfl, rfl, rfl, trivial⟩ rfl rfl ⟨Nat.zero_le _, trivial, rfl⟩ ?_
 rintro ⟨ov, acc, k⟩ ⟨hk, hacc, hno⟩
 dsimp only at hk hacc hno ⊢
 have hal := hacc.length
 rw [List.length_take] at hal
 refine SC.seq (SC.region (SL.U (SU.lss rfl rfl) (SL.nil (ST.thenN (SC.seq ?_)))))
 refine SC.ifP rfl (fun hlt => ?_) (fun hlt => ?_)
 ·have hkl : k < A.length := oM
  have hkr : k < ra.length := oM
  have hbi := hIa.based (by simp; omega)
  have hcr := halla.get (List.getElem?_eq_getElem hkl) (List.getElem?_eq_getElem hkr)
  have hmem : A[k] ∈ A := List.getElem_mem hkl
  have hget : mget (ra.map rcPair) A[k].id = some (rcv ra[k]) := by
   rw [mget_pairs, ← hcr.1, find_nodup hnr (List.getElem?_eq_getElem hkr)]; rfl
  have htk : A.take (k + 1) = A.take k ++ [A[k]] := List.take_succ_eq_append_getElem hkl
  have hgi : (A.map Cl.id)[((k : Nat) : Int).toNat]? = some A[k].id := by simp [hkl]
  generalize A[k] = x at *
  have hxl := hfa.2 x hmem
  obtain ⟨xp, xc, hrx, hxs⟩ := cellR_form hcr
  rw [hrx] at hget hcr
  obtain ⟨z, hz1, hz2, hz3⟩ := all2_look hallb zeroCR x.id
  obtain ⟨zi, zd, zp, zn, zc⟩ := z
  have hz2' : (mget (rb.map rcPair) x.id).isSome = (findT B x.id).isSome := hz2
  have hz3' : CellR g2 ((findT B x.id).getD zeroC) ⟨zi, zd, zp, zn, zc⟩ := hz3
  cases hf0 : findT B x.id with
  | none =>
   have hcl : clash B x = false := by unfold clash; rw [hf0]
   refine SC.skip (ST.thenN (SC.seq (SC.block (SC.seq (SC.region (SL.U (SU.indexAddr underlying45 sizeOf3 rfl rfl hbi oM sL) (SL.K (SQ.elem1 isAgg3 rfl hIa.rd hgi rfl) (SL.A rfl (SL.nil (ST.thenN (SC.seq (SC.seq (SC.region (SL.M rfl (SL.U (SU.nilCheck rfl) (SL.U (SU.fieldAddr underlying88 rfl sizeOf86 rfl) (SL.K (SQ.load isAgg86 rfl (CellAt.known hbb rfl)) (SL.M rfl (SL.K (SQ.eq (v' := .tuple #[rcv ⟨zi, zd, zp, zn, zc⟩, vb false]) (SQ.lookupOk mty86 rfl rfl (MapAt.known hmb)) (by rw [hz1, hz2', hf0]; rfl)) ?_)))))))))))))))))))
   refine SL.M rfl (SL.U (SU.extract rfl rfl) (SL.U (SU.extract rfl rfl) (SL.W (SO.alloc zeroValue51) ?_)))
   rintro _ _ _ ⟨b11, rfl, rfl, rfl⟩
   refine SL.on (SO.storeAllK 0 sizeOf51 rfl rfl rfl rfl rfl (by exact ⟨rfl, rfl, rfl, trivial⟩)) ?_
   rintro _ _ _ ⟨rfl, rfl⟩
   refine SL.A rfl (SL.nil (ST.thenN (SC.seq ?_)))
   refine SC.draw [] [(0, 2), (1, 2), (2, 2), (3, 2), (4, 2), (5, 1), (6, 2), (7, 1), (8, 1), (9, 0), (10, 2), (11, 2)] Tryz.mixed (by kernel_rfl) ?_
   refine SP.U (i := 0) rfl (SU.move rfl) (SP.U (i := 1) rfl (SU.move rfl) (SP.off (i := 2) rfl (Gd.onF rfl rfl rfl dC) dC (SP.off (i := 3) rfl (Gd.onF rfl rfl rfl dC) dC (SP.off (i := 4) rfl (Gd.onF rfl rfl rfl dC) dC (SP.off1 (i := 5) rfl (Gd.onF rfl rfl rfl dC) dC (SP.off (i := 6) rfl (Gd.onF rfl rfl rfl dC) dC (SP.off1 (i := 7) rfl (Gd.onF rfl rfl rfl dC) dC (SP.off1 (i := 8) rfl (Gd.onF rfl rfl rfl dC) dC (SP.offo (i := 9) rfl (Gd.onF rfl rfl rfl dC) dC ⟨by exact Le.refl _, (by exact .refl _)⟩ ?_)))))))))
   refine SP.off (i := 10) rfl (Gd.onF rfl rfl rfl dC) dC (SP.U (i := 11) rfl (SU.pickF rfl rfl) (SP.nil (ST.thenN (SC.condF rfl (SC.skip (ST.thenN ?_))))))
   refine SC.draw [9, 10, 11] [(0, 2), (1, 1), (2, 2), (3, 2), (4, 2), (5, 1), (6, 2), (7, 1), (8, 0), (9, 0), (10, 0), (11, 0)] Tryz.mixed (by kernel_rfl) ?_
   refine SP.U (i := 0) rfl (SU.fieldAddr underlying27 rfl sizeOf25 rfl) (SP.K (i := 1) rfl (SQ.load (v := ov) isAgg25 rfl (CellAt.own 2 rfl rfl)) (SP.U (i := 2) rfl (SU.move rfl) (SP.U (i := 3) rfl (SU.nilCheck rfl) (SP.U (i := 4) rfl (SU.fieldAddr underlying88 rfl sizeOf86 rfl) (SP.K (i := 5) rfl (SQ.load isAgg86 rfl (CellAt.known hba rfl)) (SP.U (i := 6) rfl (SU.move rfl) (SP.K (i := 7) rfl (SQ.eq (SQ.lookup mty86 rfl rfl (MapAt.known hma)) (by (rw [hget]; done))) ?_)))))))
   refine SP.o (i := 8) rfl (SO.buildSlice sty25 rfl rfl rfl (szs_mk (by exact ⟨rfl, trivial⟩)) dC) dC (.inr (by rintro _ _ _ ⟨b60, rfl, rfl, rfl⟩; exact ⟨by exact Le.refl _, (by exact .cons _ (.refl _))⟩)) ?_
   rintro _ _ _ ⟨b60, rfl, rfl, rfl⟩
   refine SP.o (i := 9) rfl (SO.app1A (e := encCell) (l := acc) 1 ⟨x.id, x.dim, ⟨xp, x.sides.length, xc⟩⟩ sty25 rfl rfl rfl rfl rfl oM oM) dC (.inl dC) ?_
   rintro v61 _ _ ⟨rfl, rfl⟩
   refine SP.facts fun ⟨w0, hw0⟩ => ?_
   obtain ⟨q9, d9, rfl⟩ := rowA_form (i := 1) hw0 rfl
   clear hw0 w0
   refine SP.ou (i := 10) rfl (SU.fieldAddr underlying27 rfl sizeOf25 rfl) dC (.inl dC) (SP.on (i := 11) rfl (SO.storeAllK 2 sizeOf25 rfl rfl rfl rfl rfl (by exact ⟨rfl, trivial⟩)) (.inl dC) ?_)
   rintro _ _ _ ⟨rfl, rfl⟩
   refine SP.nil (ST.blockN (ST.thenN (SC.region (SL.U (SU.add rfl rfl oM) (SL.M rfl (SL.nil (ST.drop (s' := rowA encCell 51 (.slice q9 (acc ++ [(⟨x.id, x.dim, ⟨xp, x.sides.length, xc⟩⟩ : Rc)]).length d9) (acc ++ [⟨x.id, x.dim, ⟨xp, x.sides.length, xc⟩⟩]) :: pt b8 (.cells #[(.slice q9 (acc ++ [(⟨x.id, x.dim, ⟨xp, x.sides.length, xc⟩⟩ : Rc)]).length d9)] 27 (0, 0)) :: pt b4 (.cells #[.slice none 0 0] 27 (0, 0)) :: pt b3 (.cells #[u] 27 (0, 0)) :: pt b2 (.cells #[v] 27 (0, 0)) :: s) (.cons _ (.refl _)) ?_)))))))
   refine ST.again (_, acc ++ [⟨x.id, x.dim, ⟨xp, x.sides.length, xc⟩⟩], k + 1) ⟨rfl, rfl, rfl, rfl, rfl, rfl, rfl, rfl, rfl, rfl, trivial⟩ rfl rfl ⟨lN, ?_, ?_⟩ lN
   ·dsimp only
    rw [htk]
    exact hacc.append ⟨hcr, trivial⟩
   ·dsimp only
    rw [htk, List.any_append, hno]
    simp [hcl]
  | some y =>
   rw [hf0] at hz3'
   have hyr : CellR g2 y ⟨zi, zd, zp, zn, zc⟩ := hz3'
   have hcl0 : clash B x = !decide (y = x) := by unfold clash; rw [hf0]
   refine SC.skip (ST.thenN (SC.seq (SC.block (SC.seq (SC.region (SL.U (SU.indexAddr underlying45 sizeOf3 rfl rfl hbi oM sL) (SL.K (SQ.elem1 isAgg3 rfl hIa.rd hgi rfl) (SL.A rfl (SL.nil (ST.thenN (SC.seq (SC.seq (SC.region (SL.M rfl (SL.U (SU.nilCheck rfl) (SL.U (SU.fieldAddr underlying88 rfl sizeOf86 rfl) (SL.K (SQ.load isAgg86 rfl (CellAt.known hbb rfl)) (SL.M rfl (SL.K (SQ.eq (v' := .tuple #[rcv ⟨zi, zd, zp, zn, zc⟩, vb true]) (SQ.lookupOk mty86 rfl rfl (MapAt.known hmb)) (by rw [hz1, hz2', hf0]; rfl)) ?_)))))))))))))))))))
   refine SL.M rfl (SL.U (SU.extract rfl rfl) (SL.U (SU.extract rfl rfl) (SL.W (SO.alloc zeroValue51) ?_)))
   rintro _ _ _ ⟨b11, rfl, rfl, rfl⟩
   refine SL.on (SO.storeAllK 0 sizeOf51 rfl rfl rfl rfl rfl (by exact ⟨rfl, rfl, rfl, trivial⟩)) ?_
   rintro _ _ _ ⟨rfl, rfl⟩
   refine SL.A rfl (SL.nil (ST.thenN (SC.seq ?_)))
   refine SC.draw [] [(0, 2), (1, 2), (2, 2), (3, 2), (4, 2), (5, 1), (6, 2), (7, 1), (8, 1), (9, 0), (10, 2), (11, 2)] Tryz.mixed (by kernel_rfl) ?_
   refine SP.U (i := 0) rfl (SU.move rfl) (SP.U (i := 1) rfl (SU.move rfl) (SP.gu (i := 2) rfl (Gd.onT rfl rfl rfl dC) (SU.move rfl) dC (SP.gu (i := 3) rfl (Gd.onT rfl rfl rfl dC) (SU.nilCheck rfl) dC (SP.gu (i := 4) rfl (Gd.onT rfl rfl rfl dC) (SU.fieldAddr underlying88 rfl sizeOf86 rfl) dC (SP.gq (i := 5) rfl (Gd.onT rfl rfl rfl dC) (SQ.load isAgg86 rfl (CellAt.known hba rfl)) dC (SP.gu (i := 6) rfl (Gd.onT rfl rfl rfl dC) (SU.move rfl) dC (SP.gq (i := 7) rfl (Gd.onT rfl rfl rfl dC) (SQ.eq (SQ.lookup mty86 rfl rfl (MapAt.known hma)) (by (rw [hget]; done))) dC ?_)))))))
   refine SP.gq (i := 8) rfl (Gd.onT rfl rfl rfl dC) (SQ.loadVarK 0 isAgg51 sizeOf51 rfl rfl rfl) dC (SP.go (i := 9) rfl (Gd.onT rfl rfl rfl dC) (SO.call call69 rfl (same_spec E g2 _ x y ⟨x.id, x.dim, ⟨xp, x.sides.length, xc⟩⟩ ⟨zi, zd, zp, zn, zc⟩ hcr hyr hxl)) dC (.inr (by rintro _ _ _ ⟨rfl, rfl, rfl⟩; exact ⟨by exact Le.refl _, (by exact .refl _)⟩)) ?_)
   rintro _ _ _ ⟨rfl, rfl, rfl⟩
   refine SP.gu (i := 10) rfl (Gd.onT rfl rfl rfl dC) (SU.notP rfl) dC (SP.U (i := 11) rfl (SU.pickT rfl rfl) (SP.nil (ST.thenN ?_)))
   refine SC.ifP rfl (fun hne => ?_) (fun hne => ?_)
   ·have hbad : A.any (clash B) = true := List.any_eq_true.2 ⟨x, hmem, by rw [hcl0]; simpa using fun e => hne e.symm⟩
    refine SC.seq (SC.region (SL.U (SU.build rfl (buildE27)) (SL.on (SO.storeAllK 3 sizeOf27 rfl rfl rfl rfl rfl (by exact ⟨rfl, trivial⟩)) ?_)))
    rintro _ _ _ ⟨rfl, rfl⟩
    refine SL.A rfl (SL.nil (ST.thenN (SC.ret (ST.thenR (ST.blockR (ST.thenR (ST.thenR (ST.blockR (ST.thenR ?_)))))))))
    exact ST.retCD1 3 s (.inl rfl) results23 rfl rfl isAgg27 sizeOf27 rfl rfl (.cons _ (.cons _ (.cons _ (.cons _ (.cons _ (.cons _ (.refl _))))))) ⟨rfl, hle1.trans hle2, _, by unfold unionC2; rw [if_pos hbad]; rfl, by unfold unionC2; rw [if_pos hbad]; exact ⟨[], RK.nil _ _ _, trivial⟩⟩
   ·have hcl : clash B x = false := by rw [hcl0, ← Decidable.of_not_not hne]; simp
    refine SC.skip (ST.thenN ?_)
    refine SC.draw [9, 10, 11] [(0, 2), (1, 1), (2, 2), (3, 2), (4, 2), (5, 1), (6, 2), (7, 1), (8, 0), (9, 0), (10, 0), (11, 0)] Tryz.mixed (by kernel_rfl) ?_
    refine SP.U (i := 0) rfl (SU.fieldAddr underlying27 rfl sizeOf25 rfl) (SP.K (i := 1) rfl (SQ.load (v := ov) isAgg25 rfl (CellAt.own 2 rfl rfl)) (SP.U (i := 2) rfl (SU.move rfl) (SP.U (i := 3) rfl (SU.nilCheck rfl) (SP.U (i := 4) rfl (SU.fieldAddr underlying88 rfl sizeOf86 rfl) (SP.K (i := 5) rfl (SQ.load isAgg86 rfl (CellAt.known hba rfl)) (SP.U (i := 6) rfl (SU.move rfl) (SP.K (i := 7) rfl (SQ.eq (SQ.lookup mty86 rfl rfl (MapAt.known hma)) (by (rw [hget]; done))) ?_)))))))
    refine SP.o (i := 8) rfl (SO.buildSlice sty25 rfl rfl rfl (szs_mk (by exact ⟨rfl, trivial⟩)) dC) dC (.inr (by rintro _ _ _ ⟨b60, rfl, rfl, rfl⟩; exact ⟨by exact Le.refl _, (by exact .cons _ (.refl _))⟩)) ?_
    rintro _ _ _ ⟨b60, rfl, rfl, rfl⟩
    refine SP.o (i := 9) rfl (SO.app1A (e := encCell) (l := acc) 1 ⟨x.id, x.dim, ⟨xp, x.sides.length, xc⟩⟩ sty25 rfl rfl rfl rfl rfl oM oM) dC (.inl dC) ?_
    rintro v61 _ _ ⟨rfl, rfl⟩
    refine SP.facts fun ⟨w0, hw0⟩ => ?_
    obtain ⟨q9, d9, rfl⟩ := rowA_form (i := 1) hw0 rfl
    clear hw0 w0
    refine SP.ou (i := 10) rfl (SU.fieldAddr underlying27 rfl sizeOf25 rfl) dC (.inl dC) (SP.on (i := 11) rfl (SO.storeAllK 2 sizeOf25 rfl rfl rfl rfl rfl (by exact ⟨rfl, trivial⟩)) (.inl dC) ?_)
    rintro _ _ _ ⟨rfl, rfl⟩
    refine SP.nil (ST.blockN (ST.thenN (SC.region (SL.U (SU.add rfl rfl oM) (SL.M rfl (SL.nil (ST.drop (s' := rowA encCell 51 (.slice q9 (acc ++ [(⟨x.id, x.dim, ⟨xp, x.sides.length, xc⟩⟩ : Rc)]).length d9) (acc ++ [⟨x.id, x.dim, ⟨xp, x.sides.length, xc⟩⟩]) :: pt b8 (.cells #[(.slice q9 (acc ++ [(⟨x.id, x.dim, ⟨xp, x.sides.length, xc⟩⟩ : Rc)]).length d9)] 27 (0, 0)) :: pt b4 (.cells #[.slice none 0 0] 27 (0, 0)) :: pt b3 (.cells #[u] 27 (0, 0)) :: pt b2 (.cells #[v] 27 (0, 0)) :: s) (.cons _ (.refl _)) ?_)))))))
    refine ST.again (_, acc ++ [⟨x.id, x.dim, ⟨xp, x.sides.length, xc⟩⟩], k + 1) ⟨rfl, rfl, rfl, rfl, rfl, rfl, rfl, rfl, rfl, rfl, trivial⟩ rfl rfl ⟨lN, ?_, ?_⟩ lN
    ·dsimp only
     rw [htk]
     exact hacc.append ⟨hcr, trivial⟩
    ·dsimp only
     rw [htk, List.any_append, hno]
     simp [hcl]
 ·have hkk : A.take k = A := List.take_of_length_le oM
  rw [hkk] at hacc hno
  have hlA : acc.length = A.length := hacc.length.symm
  clear hal
  refine SC.exit (ST.thenX (ST.thenX (ST.blockX (ST.thenN (SC.seq (SC.seq (SC.region (SL.M rfl (SL.U (SU.nilCheck rfl) (SL.U (SU.fieldAddr underlying88 rfl sizeOf45 rfl) (SL.K (SQ.load (v := .slice qb B.length db) isAgg45 rfl (CellAt.known hbb rfl)) (SL.U (SU.lenN underlying45 rfl) (SL.M rfl (SL.nil (ST.thenN (SC.block ?_))))))))))))))))
  refine SC.loop (ι := Value × List Rc × Nat) (fun i => [(2, pp b2 0), (3, pp b3 0), (4, pp b4 0), (5, vb false), (6, pp ba 0), (7, pp bb 0), (8, pp b8 0), (67, .slice qb B.length db), (68, vi B.length), (69, vi i.2.2)]) (fun _ => g2) (fun i => rowA encCell 51 i.1 i.2.1 :: pt b8 (.cells #[i.1] 27 (0, 0)) :: pt b4 (.cells #[.slice none 0 0] 27 (0, 0)) :: pt b3 (.cells #[u] 27 (0, 0)) :: pt b2 (.cells #[v] 27 (0, 0)) :: s)
   (fun i => i.2.2 ≤ B.length ∧ All2 (CellR g2) (A ++ (B.take i.2.2).filter (isNew A)) i.2.1) (fun i => B.length - i.2.2)
   (ov, acc, 0) ⟨rfl, rfl, rfl, rfl, rfl, rfl, rfl, rfl, rfl, rfl, trivial⟩ rfl rfl ⟨Nat.zero_le _, by simpa using hacc⟩ ?_
  clear hlA hacc
  rintro ⟨ov, acc, k⟩ ⟨hk, hacc⟩
  dsimp only at hk hacc ⊢
  have hal := hacc.length
  have hfl := List.length_filter_le (isNew A) (B.take k)
  rw [List.length_append] at hal
  rw [List.length_take] at hfl
  refine SC.seq (SC.region (SL.U (SU.lss rfl rfl) (SL.nil (ST.thenN (SC.seq ?_)))))
  refine SC.ifP rfl (fun hlt2 => ?_) (fun hlt2 => ?_)
  ·have hkl : k < B.length := oM
   have hkr : k < rb.length := oM
   have hbi := hIb.based (by simp; omega)
   have hcr := hallb.get (List.getElem?_eq_getElem hkl) (List.getElem?_eq_getElem hkr)
   have hget : mget (rb.map rcPair) B[k].id = some (rcv rb[k]) := by
    rw [mget_pairs, ← hcr.1, find_nodup hnrB (List.getElem?_eq_getElem hkr)]; rfl
   have htk : B.take (k + 1) = B.take k ++ [B[k]] := List.take_succ_eq_append_getElem hkl
   have hgi : (B.map Cl.id)[((k : Nat) : Int).toNat]? = some B[k].id := by simp [hkl]
   generalize B[k] = x at *
   obtain ⟨xp, xc, hrx, hxs⟩ := cellR_form hcr
   rw [hrx] at hget hcr
   obtain ⟨z, hz1, hz2, hz3⟩ := all2_look halla zeroCR x.id
   obtain ⟨zi, zd, zp, zn, zc⟩ := z
   have hz2' : (mget (ra.map rcPair) x.id).isSome = (findT A x.id).isSome := hz2
   refine SC.skip (ST.thenN (SC.seq (SC.block (SC.seq (SC.region (SL.U (SU.indexAddr underlying45 sizeOf3 rfl rfl hbi oM sL) (SL.K (SQ.elem1 isAgg3 rfl hIb.rd hgi rfl) (SL.A rfl (SL.nil (ST.thenN (SC.seq (SC.region (SL.M rfl (SL.U (SU.nilCheck rfl) (SL.U (SU.fieldAddr underlying88 rfl sizeOf86 rfl) (SL.K (SQ.load isAgg86 rfl (CellAt.known hba rfl)) (SL.M rfl (SL.K (SQ.eq (v' := .tuple #[rcv ⟨zi, zd, zp, zn, zc⟩, vb (findT A x.id).isSome]) (SQ.lookupOk mty86 rfl rfl (MapAt.known hma)) (by (rw [hz1, hz2']; done))) ?_))))))))))))))))))
   refine SL.M rfl (SL.U (SU.extract rfl rfl) (SL.U (SU.extract rfl rfl) (SL.W (SO.alloc zeroValue51) ?_)))
   rintro _ _ _ ⟨b15, rfl, rfl, rfl⟩
   refine SL.on (SO.storeAllK 0 sizeOf51 rfl rfl rfl rfl rfl (by exact ⟨rfl, rfl, rfl, trivial⟩)) ?_
   rintro _ _ _ ⟨rfl, rfl⟩
   refine SL.A rfl (SL.nil (ST.thenN (SC.seq (SC.region (SL.M rfl (SL.U (SU.not rfl) (SL.nil (ST.thenN ?_))))))))
   refine SC.ifB rfl (fun hnw => ?_) (fun hnw => ?_)
   ·have hnew : isNew A x = true := by unfold isNew; cases hf : findT A x.id with | none => rfl | some w => rw [hf] at hnw; cases hnw
    refine SC.draw [9, 10, 11] [(0, 2), (1, 1), (2, 2), (3, 2), (4, 2), (5, 1), (6, 2), (7, 1), (8, 0), (9, 0), (10, 0), (11, 0)] Tryz.mixed (by kernel_rfl) ?_
    refine SP.U (i := 0) rfl (SU.fieldAddr underlying27 rfl sizeOf25 rfl) (SP.K (i := 1) rfl (SQ.load (v := ov) isAgg25 rfl (CellAt.own 2 rfl rfl)) (SP.U (i := 2) rfl (SU.move rfl) (SP.U (i := 3) rfl (SU.nilCheck rfl) (SP.U (i := 4) rfl (SU.fieldAddr underlying88 rfl sizeOf86 rfl) (SP.K (i := 5) rfl (SQ.load isAgg86 rfl (CellAt.known hbb rfl)) (SP.U (i := 6) rfl (SU.move rfl) (SP.K (i := 7) rfl (SQ.eq (SQ.lookup mty86 rfl rfl (MapAt.known hmb)) (by (rw [hget]; done))) ?_)))))))
    refine SP.o (i := 8) rfl (SO.buildSlice sty25 rfl rfl rfl (szs_mk (by exact ⟨rfl, trivial⟩)) dC) dC (.inr (by rintro _ _ _ ⟨b92, rfl, rfl, rfl⟩; exact ⟨by exact Le.refl _, (by exact .cons _ (.refl _))⟩)) ?_
    rintro _ _ _ ⟨b92, rfl, rfl, rfl⟩
    refine SP.o (i := 9) rfl (SO.app1A (e := encCell) (l := acc) 1 ⟨x.id, x.dim, ⟨xp, x.sides.length, xc⟩⟩ sty25 rfl rfl rfl rfl rfl oM oM) dC (.inl dC) ?_
    rintro v93 _ _ ⟨rfl, rfl⟩
    refine SP.facts fun ⟨w0, hw0⟩ => ?_
    obtain ⟨q9, d9, rfl⟩ := rowA_form (i := 1) hw0 rfl
    clear hw0 w0
    refine SP.ou (i := 10) rfl (SU.fieldAddr underlying27 rfl sizeOf25 rfl) dC (.inl dC) (SP.on (i := 11) rfl (SO.storeAllK 2 sizeOf25 rfl rfl rfl rfl rfl (by exact ⟨rfl, trivial⟩)) (.inl dC) ?_)
    rintro _ _ _ ⟨rfl, rfl⟩
    refine SP.nil (ST.blockN (ST.thenN (SC.region (SL.U (SU.add rfl rfl oM) (SL.M rfl (SL.nil (ST.drop (s' := rowA encCell 51 (.slice q9 (acc ++ [(⟨x.id, x.dim, ⟨xp, x.sides.length, xc⟩⟩ : Rc)]).length d9) (acc ++ [⟨x.id, x.dim, ⟨xp, x.sides.length, xc⟩⟩]) :: pt b8 (.cells #[(.slice q9 (acc ++ [(⟨x.id, x.dim, ⟨xp, x.sides.length, xc⟩⟩ : Rc)]).length d9)] 27 (0, 0)) :: pt b4 (.cells #[.slice none 0 0] 27 (0, 0)) :: pt b3 (.cells #[u] 27 (0, 0)) :: pt b2 (.cells #[v] 27 (0, 0)) :: s) (.cons _ (.refl _)) ?_)))))))
    refine ST.again (_, acc ++ [⟨x.id, x.dim, ⟨xp, x.sides.length, xc⟩⟩], k + 1) ⟨rfl, rfl, rfl, rfl, rfl, rfl, rfl, rfl, rfl, rfl, trivial⟩ rfl rfl ⟨lN, ?_⟩ lN
    dsimp only
    rw [htk, List.filter_append, ← List.append_assoc]
    simp only [List.filter_cons, hnew, if_true, List.filter_nil]
    exact hacc.append ⟨hcr, trivial⟩
   ·have hnew : isNew A x = false := by unfold isNew; cases hf : findT A x.id with | none => rw [hf] at hnw; cases hnw | some w => rfl
    refine SC.skip (ST.blockN (ST.thenN (SC.region (SL.U (SU.add rfl rfl oM) (SL.M rfl (SL.nil (ST.drop (s' := rowA encCell 51 ov acc :: pt b8 (.cells #[ov] 27 (0, 0)) :: pt b4 (.cells #[.slice none 0 0] 27 (0, 0)) :: pt b3 (.cells #[u] 27 (0, 0)) :: pt b2 (.cells #[v] 27 (0, 0)) :: s) (.cons _ (.refl _)) ?_)))))))
    refine ST.again (ov, acc, k + 1) ⟨rfl, rfl, rfl, rfl, rfl, rfl, rfl, rfl, rfl, rfl, trivial⟩ rfl rfl ⟨lN, ?_⟩ lN
    dsimp only
    rw [htk, List.filter_append]
    simp only [List.filter_cons, hnew, List.filter_nil]
    simpa using hacc
  ·have hkk2 : B.take k = B := List.take_of_length_le oM
   rw [hkk2] at hacc
   refine SC.exit (ST.thenX (ST.thenX (ST.blockX (ST.thenN (SC.seq (SC.freezeRow fun g3 hle3 hs3 => ?_))))))
   have hov : Cells g3 ov (A ++ B.filter (isNew A)) := ⟨acc, hs3, hacc.mono fun _ _ => CellR.mono hle3⟩
   refine SC.region (SL.K (SQ.loadVarK 0 isAgg27 sizeOf27 rfl rfl rfl) (SL.W (SO.call call30 rfl (canon_new E g3 _ _ _ hov hfu)) ?_))
   rintro _ g4 _ ⟨rfl, hle4, x4, rfl, hx4⟩
   obtain ⟨q4, d4, rfl⟩ := (hx4.cells (mns_le _ _)).form
   refine SL.on (SO.storeAllK 1 sizeOf27 rfl rfl rfl rfl rfl (by exact ⟨rfl, trivial⟩)) ?_
   rintro _ _ _ ⟨rfl, rfl⟩
   refine SL.A rfl (SL.nil (ST.thenN (SC.ret ?_)))
   exact ST.retCD1 1 s (.inl rfl) results23 rfl rfl isAgg27 sizeOf27 rfl rfl (.cons _ (.cons _ (.cons _ (.cons _ (.refl _))))) ⟨rfl, hle1.trans (hle2.trans (hle3.trans hle4)), _, by unfold unionC2; rw [if_neg (by rw [hno]; simp)]; rfl, by unfold unionC2; rw [if_neg (by rw [hno]; simp)]; exact hx4.mono (mns_anti (hle1.trans (hle2.trans hle3)))⟩
theorem lawSame_spec (E : World) (g : PH) (s : Own) (v u : Value) (l m : List Cl) (hv : Cells g v l) (hu : Cells g u m) (hf : Fits l) :
  Ctr Tryz.prog E 13 #[.agg #[v], .agg #[u]] g s (fun r g' s' => r = vb (decide (l = m)) ∧ g = g' ∧ s = s') := by
 obtain ⟨ra, hra, halla⟩ := hv
 obtain ⟨rb, hrb, hallb⟩ := hu
 have eal := halla.length
 have ebl := hallb.length
 have hll := hf.1
 obtain ⟨pa, ca, rfl⟩ := hra.form
 obtain ⟨pb, cb, rfl⟩ := hrb.form
 refine Ctr.of (args := [.agg #[.slice pa ra.length ca], .agg #[.slice pb rb.length cb]]) func13 rfl ntmps13 (Nat.le_of_ble_eq_true rfl) ?_
 refine SC.seq (SC.region (SL.W (SO.box rfl) ?_))
 rintro _ _ _ ⟨b2, rfl, rfl, rfl⟩
 refine SL.W (SO.box rfl) ?_
 rintro _ _ _ ⟨b3, rfl, rfl, rfl⟩
 refine SL.A rfl (SL.nil (ST.thenN (SC.seq (SC.seq (SC.region (SL.U (SU.fieldAddr underlying27 rfl sizeOf25 rfl) (SL.K (SQ.load (v := .slice pa ra.length ca) isAgg25 rfl (CellAt.own 1 rfl rfl)) (SL.U (SU.lenN underlying25 rfl) (SL.U (SU.fieldAddr underlying27 rfl sizeOf25 rfl) (SL.K (SQ.load (v := .slice pb rb.length cb) isAgg25 rfl (CellAt.own 0 rfl rfl)) (SL.U (SU.lenN underlying25 rfl) (SL.U (SU.neq rfl rfl) (SL.nil (ST.thenN ?_))))))))))))))
 refine SC.ifP rfl (fun hne => ?_) (fun hne => ?_)
 ·refine SC.seq (SC.region (SL.A rfl (SL.nil (ST.thenN (SC.ret (ST.thenR (ST.drop (s' := s) (.cons _ (.cons _ (.refl _))) ?_)))))))
  exact ST.ret1 (.inl rfl) results13 rfl ⟨by rw [decide_eq_false (fun e : l = m => by rw [e] at eal; omega)], rfl, rfl⟩
 ·refine SC.skip (ST.thenN (SC.seq (SC.seq (SC.region (SL.A rfl (SL.nil (ST.thenN (SC.block ?_))))))))
  have hlen : l.length = m.length := oM
  refine SC.loop (ι := Nat) (fun k => [(2, pp b2 0), (3, pp b3 0), (5, vi k)]) (fun _ => g) (fun _ => pt b3 (.cells #[.slice pb rb.length cb] 27 (0, 0)) :: pt b2 (.cells #[.slice pa ra.length ca] 27 (0, 0)) :: s) (fun k => k ≤ l.length ∧ l.take k = m.take k) (fun k => l.length - k) 0
   ⟨rfl, rfl, rfl, trivial⟩ rfl rfl ⟨Nat.zero_le _, by simp⟩ ?_
  rintro k ⟨hk, heq⟩
  refine SC.seq (SC.seq (SC.region (SL.M rfl (SL.U (SU.fieldAddr underlying27 rfl sizeOf25 rfl) (SL.K (SQ.load (v := .slice pa ra.length ca) isAgg25 rfl (CellAt.own 1 rfl rfl)) (SL.U (SU.lenN underlying25 rfl) (SL.U (SU.lss rfl rfl) (SL.nil (ST.thenN ?_)))))))))
  refine SC.ifP rfl (fun hlt => ?_) (fun hlt => ?_)
  ·have hkl : k < l.length := oM
   have hkm : k < m.length := oM
   have hb1 := hra.based oM
   have hb2 := hrb.based oM
   have h1 := halla.get (List.getElem?_eq_getElem hkl) (List.getElem?_eq_getElem (show k < ra.length by omega))
   have h2 := hallb.get (List.getElem?_eq_getElem hkm) (List.getElem?_eq_getElem (show k < rb.length by omega))
   have g1 : ra[((k : Nat) : Int).toNat]? = some ra[k] := List.getElem?_eq_getElem (show k < ra.length by omega)
   have g2 : rb[((k : Nat) : Int).toNat]? = some rb[k] := List.getElem?_eq_getElem (show k < rb.length by omega)
   have hxl := hf.2 _ (List.getElem_mem hkl)
   refine SC.skip (ST.thenN (SC.seq (SC.block (SC.seq ?_))))
   refine SC.draw [] [(0, 2), (1, 1), (2, 2), (3, 2), (4, 1), (5, 2), (6, 1), (7, 2), (8, 2), (9, 1), (10, 0), (11, 2)] Tryz.mixed (by kernel_rfl) ?_
   refine SP.U (i := 0) rfl (SU.fieldAddr underlying27 rfl sizeOf25 rfl) (SP.K (i := 1) rfl (SQ.load (v := .slice pa ra.length ca) isAgg25 rfl (CellAt.own 1 rfl rfl)) (SP.U (i := 2) rfl (SU.move rfl) (SP.U (i := 3) rfl (SU.indexAddr underlying25 sizeOf51 rfl rfl hb1 oM sL) (SP.K (i := 4) rfl (SQ.elemA isAgg51 sizeOf51 rfl hra.rd g1) (SP.U (i := 5) rfl (SU.fieldAddr underlying27 rfl sizeOf25 rfl) (SP.K (i := 6) rfl (SQ.load (v := .slice pb rb.length cb) isAgg25 rfl (CellAt.own 0 rfl rfl)) (SP.U (i := 7) rfl (SU.move rfl) (SP.U (i := 8) rfl (SU.indexAddr underlying25 sizeOf51 rfl rfl hb2 oM sL) (SP.K (i := 9) rfl (SQ.elemA isAgg51 sizeOf51 rfl hrb.rd g2) (SP.o (i := 10) rfl (SO.call call53 rfl (sameCell_spec E g _ l[k] m[k] _ _ h1 h2 hxl)) dC (.inr (by rintro _ _ _ ⟨rfl, rfl, rfl⟩; exact ⟨by exact Le.refl _, (by exact .refl _)⟩)) ?_))))))))))
   rintro _ _ _ ⟨rfl, rfl, rfl⟩
   refine SP.U (i := 11) rfl (SU.notP rfl) (SP.nil (ST.thenN ?_))
   refine SC.ifP rfl (fun hd => ?_) (fun hd => ?_)
   ·refine SC.seq (SC.region (SL.A rfl (SL.nil (ST.thenN (SC.ret (ST.blockR (ST.thenR (ST.thenR (ST.blockR (ST.thenR (ST.drop (s' := s) (.cons _ (.cons _ (.refl _))) ?_)))))))))))
    exact ST.ret1 (.inl rfl) results13 rfl ⟨by rw [decide_eq_false (fun e : l = m => hd (by simp [e]))], rfl, rfl⟩
   ·refine SC.skip (ST.blockN (ST.thenN (SC.region (SL.M rfl (SL.U (SU.add rfl rfl oM) (SL.A rfl (SL.nil ?_)))))))
    exact ST.again (k + 1) ⟨rfl, rfl, rfl, trivial⟩ rfl rfl ⟨oM, by rw [List.take_succ_eq_append_getElem hkl, List.take_succ_eq_append_getElem hkm, heq, Decidable.of_not_not hd]⟩ oM
  ·refine SC.exit (ST.thenX (ST.thenX (ST.blockX (ST.thenN (SC.seq (SC.region (SL.A rfl (SL.nil (ST.thenN (SC.ret ?_))))))))))
   have heq2 : l = m := by rw [List.take_of_length_le oM, List.take_of_length_le oM] at heq; exact heq
   refine ST.drop (s' := s) (.cons _ (.cons _ (.refl _))) ?_
   exact ST.ret1 (.inl rfl) results13 rfl ⟨by rw [decide_eq_true heq2], rfl, rfl⟩
def adjT (A : List Cl) (k : Int) : Option (List Int) := (findT A k).map fun c => c.sides.map Side.cell
theorem reachF_dfs (A : List Cl) : ∀ (n : Nat) (id : Int) (vis : List Int), reachF A n id vis = dfs (adjT A) n id vis
 | 0, _, _ => rfl
 | n + 1, id, vis => by
  rw [reachF_succ, dfs_succ]
  unfold adjT
  cases findT A id with
  | none => rfl
  | some c =>
   simp only [Option.map_some, List.foldl_map]
   congr 2
   funext v x
   exact reachF_dfs A n x.cell v
theorem adjT_some {A : List Cl} {k : Int} {l : List Int} (h : adjT A k = some l) : ∃ c, findT A k = some c ∧ c.sides.map Side.cell = l := by
 unfold adjT at h
 cases hf : findT A k with
 | none => rw [hf] at h; cases h
 | some c => rw [hf] at h; injection h with h; exact ⟨c, rfl, h⟩
theorem cntF_strict (A : List Cl) : ∀ v k l, adjT A k = some l → l ≠ [] → v.contains k = false → cntF A (v ++ [k]) < cntF A v := by
 intro v k l hl _ hv
 obtain ⟨c, hf, _⟩ := adjT_some hl
 obtain ⟨hm, rfl⟩ := findT_mem hf
 exact cntF_lt hm hv
def ClosedT (A : List Cl) (v : List Int) : Prop := ∀ x ∈ v, ∀ l, adjT A x = some l → ∀ y ∈ l, adjT A y ≠ none → y ∈ v
theorem clos_fold (A : List Cl) : ∀ (ids v : List Int), ClosedT A v → ClosedT A (ids.foldl (fun v id => reachF A (A.length + 1) id v) v) ∧ (∀ x ∈ v, x ∈ ids.foldl (fun v id => reachF A (A.length + 1) id v) v) ∧
  (∀ id ∈ ids, adjT A id ≠ none → id ∈ ids.foldl (fun v id => reachF A (A.length + 1) id v) v) ∧ ∀ x ∈ ids.foldl (fun v id => reachF A (A.length + 1) id v) v, x ∈ v ∨ ∃ id ∈ ids, Rch (adjT A) id x
 | [], v, h => ⟨h, fun _ h => h, by simp, fun _ h => .inl h⟩
 | id :: ids, v, h => by
  have hc := dfs_complete (adjT A) (cntF A) (fun v v' h => cntF_mono h) (cntF_strict A) (A.length + 1) id v (Nat.lt_succ_of_le (cntF_le _ _))
  have hs := dfs_sub (adjT A) (A.length + 1) id v
  have hd := dfs_sound (adjT A) (A.length + 1) id v
  rw [← reachF_dfs] at hc hs hd
  have hcl : ClosedT A (reachF A (A.length + 1) id v) := by
   intro x hx l hl y hy hn
   by_cases hv : x ∈ v
   ·exact hs y (h x hv l hl y hy hn)
   ·exact hc.2 x hx hv l hl y hy hn
  obtain ⟨h1, h2, h3, h4⟩ := clos_fold A ids _ hcl
  simp only [List.foldl_cons]
  refine ⟨h1, fun x hx => h2 x (hs x hx), fun q hq hn => ?_, fun x hx => ?_⟩
  ·rcases List.mem_cons.1 hq with rfl | hq
   ·exact h2 _ (hc.1 hn)
   ·exact h3 q hq hn
  ·rcases h4 x hx with h5 | ⟨q, hq, h5⟩
   ·rcases hd x h5 with h6 | h6
    ·exact .inl h6
    ·exact .inr ⟨id, by simp, h6⟩
   ·exact .inr ⟨q, by simp [hq], h5⟩
theorem mem_closF (A : List Cl) (ids : List Int) (x : Int) : x ∈ closF A ids ↔ ∃ id ∈ ids, Rch (adjT A) id x := by
 obtain ⟨h1, _, h3, h4⟩ := clos_fold A ids [] (fun x hx => absurd hx (by simp))
 refine ⟨fun h => (h4 x h).resolve_left (by simp), fun ⟨id, hid, hr⟩ => ?_⟩
 have key : ∀ a b, Rch (adjT A) a b → a ∈ closF A ids → b ∈ closF A ids := by
  intro a b hr
  induction hr with
  | refl a _ => exact fun h => h
  | step a b c l hl hb r ih => exact fun h => ih (h1 a h l hl b hb r.node)
 exact key id x hr (h3 id hid hr.node)
def costF (A : List Cl) (m : List Int) : Nat := ((A.filter fun c => !m.contains c.id).map fun c => c.sides.length).sum
structure Wide (A : List Cl) (ids left m : List Int) : Prop where
 sound : ∀ x ∈ m, ∃ id ∈ ids, Rch (adjT A) id x
 todo : ∀ x ∈ left, adjT A x ≠ none → ∃ id ∈ ids, Rch (adjT A) id x
 start : ∀ x ∈ ids, adjT A x ≠ none → x ∈ left ∨ x ∈ m
 sides : ∀ x ∈ m, ∀ l, adjT A x = some l → ∀ y ∈ l, adjT A y ≠ none → y ∈ left ∨ y ∈ m
 few : left.length + costF A m ≤ ids.length + costF A []
def meetI (A B : List Cl) (id : Int) : Bool := match findT B id with
 | some y => decide ((findT A id).getD zeroC = y)
 | none => false
def meetP (A B : List Cl) (c : Cl) : Bool := (closF A [c.id]).all (meetI A B)
def meetC (A B : List Cl) : List Cl := A.filter (meetP A B)
theorem Rch.last {adj : Int → Option (List Int)} {a b : Int} (h : Rch adj a b) : adj b ≠ none := by
 induction h with
 | refl _ h => exact h
 | step _ _ _ _ _ _ _ ih => exact ih
theorem closF_in {A : List Cl} {ids : List Int} {x : Int} (h : x ∈ closF A ids) : ∃ c, findT A x = some c := by
 obtain ⟨id, _, hr⟩ := (mem_closF A ids x).1 h
 have := hr.last
 unfold adjT at this
 cases hf : findT A x with
 | none => rw [hf] at this; simp at this
 | some c => exact ⟨c, rfl⟩
end Go.Proofs.YtkdibcicncjpdaaGreat
