/- Mad5 Spo1 -/
import Derived.Test.YtkdibcicncjpdaaGreatUn12
set_option linter.unusedSimpArgs false
set_option linter.unusedVariables false
namespace Go.Proofs.YtkdibcicncjpdaaGreat
open _root_.Go.Proofs.Tryz _root_.Go.Proofs.YtkdibcicncjpdaaGreat.Tryz
open Go Go.Sy Go.Pl Go.Proofs
set_option maxRecDepth 100000
set_option maxHeartbeats 1000000
def three (j : Int) : List (List Int) := if j = 0 then [[0, 1]] else if j = 1 then [[0, 1], [1, 2]] else [[0, 1], [1, 2], [0, 2]]
def sel3 (j : Int) (a b c : Value) : Value := if j = 0 then a else if j = 1 then b else c
theorem sel3_get {j : Int} (h : 0 ≤ j ∧ j < 3) (a b c : Value) : #[a, b, c][0 + j.toNat * 1]? = some (sel3 j a b c) := by
 rcases (by omega : j = 0 ∨ j = 1 ∨ j = 2) with rfl | rfl | rfl <;> rfl
theorem three_lists {g : PH} {j : Int} (h : 0 ≤ j ∧ j < 3) {a b c : Value} (ha : Lists g a [[0, 1]]) (hb : Lists g b [[0, 1], [1, 2]]) (hc : Lists g c [[0, 1], [1, 2], [0, 2]]) : Lists g (sel3 j a b c) (three j) := by
 rcases (by omega : j = 0 ∨ j = 1 ∨ j = 2) with rfl | rfl | rfl
 ·exact ha
 ·exact hb
 ·exact hc
theorem three_small (j : Int) : (three j).length ≤ 3 ∧ ∀ x ∈ three j, x.length ≤ 2 := by
 unfold three
 split
 ·exact ⟨by decide, by decide⟩
 ·split
  ·exact ⟨by decide, by decide⟩
  ·exact ⟨by decide, by decide⟩
theorem sets_small (ls : List (List Int)) : (setsC ls).length ≤ 5 ∧ ∀ x ∈ setsC ls, x.length ≤ 4 := by
 refine ⟨by simp [setsC]; omega, fun x hx => ?_⟩
 obtain ⟨l, _, rfl⟩ := List.mem_map.1 hx
 simp
 omega
theorem surf_small (y : Int) : 4 ≤ (surfC y).length ∧ (surfC y).length ≤ 14 ∧ ∀ x ∈ surfC y, x.length ≤ 3 := by
 unfold surfC
 split
 ·exact ⟨by decide, by decide, by decide⟩
 ·split
  ·exact ⟨by decide, by decide, by decide⟩
  ·refine ⟨by rw [surf2_length]; decide, by rw [surf2_length]; decide, fun x hx => ?_⟩
   obtain ⟨i, _, hx⟩ := List.mem_flatMap.1 hx
   simp at hx
   rcases hx with rfl | rfl <;> simp
def baseM (m : Int) (ls : List (List Int)) (y : Int) : List Cl :=
 if m = 3 then simpC (surfC y) else if m = 4 then refProdC (simpC (three (modW y 3))) (simpC (three (modW (IntKind.i64.wrap (y.tdiv 3)) 3)))
 else if m = 5 then polyC (2 + modW y 5).toNat else if m = 6 then refProdC (refProdC (simpC [[0, 1]]) (simpC [[0, 1]])) (simpC [[0, 1]])
 else if m = 7 then simpC (setsC ls ++ (surfC y).take (2 + modW y 2).toNat) else simpC (setsC ls)
theorem baseM_fits (m : Int) (ls : List (List Int)) (y : Int) : Fits (baseM m ls y) := by
 unfold baseM
 have h5 := modW_range y 5 dC dC
 repeat' split
 ·exact (simpC_fits _).1
 ·exact (refProdC_fits _ _).1
 ·exact canonC_fits (polyAll_fits oM).1
 ·exact (refProdC_fits _ _).1
 ·exact (simpC_fits _).1
 ·exact (simpC_fits _).1
def bigC (b : List Cl) : List Cl := if (b.length : Int) > 45 then torusC else b
def madeC (kd : Int) (ls : List (List Int)) (y : Int) : List Cl := renC (bigC (baseM (modW kd 8) ls y)) y
theorem bigC_fits {b : List Cl} (h : Fits b) : Fits (bigC b) := by
 unfold bigC
 split
 ·exact (refProdC_fits _ _).1
 ·exact h
theorem Tryz.build92 (p1 : Option Addr) (n1 c1 : Nat) (p2 : Option Addr) (n2 c2 : Nat) (p3 : Option Addr) (n3 c3 : Nat) (w : World) : (Instr.build 92 #[(0, .slice p1 n1 c1), (1, .slice p2 n2 c2), (2, .slice p3 n3 c3)]).run Tryz.prog w = .ok (.agg #[.slice p1 n1 c1, .slice p2 n2 c2, .slice p3 n3 c3]) w := by
 have hz : (Value.agg #[Value.slice none 0 0, Value.slice none 0 0, Value.slice none 0 0]).cells = #[.slice none 0 0, .slice none 0 0, .slice none 0 0] := rfl
 have h1 : (Value.slice p1 n1 c1).cells = #[.slice p1 n1 c1] := rfl
 have h2 : (Value.slice p2 n2 c2).cells = #[.slice p2 n2 c2] := rfl
 have h3 : (Value.slice p3 n3 c3).cells = #[.slice p3 n3 c3] := rfl
 simp [Instr.build, Instr.fill, hz, h1, h2, h3]
theorem made_spec (E : World) (g : PH) (s : Own) (v : Value) (kd y : Int) (ls : List (List Int)) (hv : Lists g v ls) :
  Ctr Tryz.prog E 20 #[.agg #[vi kd, v, vi y]] g s (fun r g' s' => s = s' ∧ Le g g' ∧ ∃ x, r = .agg #[x] ∧ Cells g' x (madeC kd ls y)) := by
 obtain ⟨p, n, c, rfl⟩ : ∃ p n c, v = .slice p n c := by
  obtain ⟨rs0, hrs0, _⟩ := hv
  obtain ⟨p, c, rfl⟩ := SlA.form hrs0
  exact ⟨_, _, _, rfl⟩
 have hm8 := modW_range kd 8 dC dC
 have hy3 := modW_range y 3 dC dC
 have hy33 := modW_range (IntKind.i64.wrap (y.tdiv 3)) 3 dC dC
 have hy5 := modW_range y 5 dC dC
 have hy2 := modW_range y 2 dC dC
 have hss := sets_small ls
 have hsf := surf_small y
 unfold madeC
 have hfit := baseM_fits (modW kd 8) ls y
 refine Ctr.of (args := [.agg #[vi kd, .slice p n c, vi y]]) func20 rfl ntmps20 (Nat.le_of_ble_eq_true rfl) ?_
 refine SC.seq (SC.region (SL.W (SO.box rfl) ?_))
 rintro _ _ _ ⟨b1, rfl, rfl, rfl⟩
 refine SL.W (SO.alloc zeroValue27) ?_
 rintro _ _ _ ⟨b2, rfl, rfl, rfl⟩
 refine SL.nil (ST.thenN (SC.seq (SC.region (SL.W (SO.alloc zeroValue27) ?_))))
 rintro _ _ _ ⟨b3, rfl, rfl, rfl⟩
 refine SL.nil (ST.thenN ?_)
 refine SC.to (fun w hw => hw) (g' := g) (s' := pt b3 (.cells #[.slice none 0 0] 27 (0, 0)) :: pt b2 (.cells #[.slice none 0 0] 27 (0, 0)) :: pt b1 (.cells #[vi kd, .slice p n c, vi y] 40 (0, 0)) :: s) ?_
 refine SC.cut (ι := PH × Value) (fun _ => [(1, pp b1 0), (2, pp b2 0), (3, pp b3 0)]) (fun i => i.1) (fun i => pt b3 (.cells #[i.2] 27 (0, 0)) :: pt b2 (.cells #[.slice none 0 0] 27 (0, 0)) :: pt b1 (.cells #[vi kd, .slice p n c, vi y] 40 (0, 0)) :: s) (fun i => Le g i.1 ∧ Cells i.1 i.2 (baseM (modW kd 8) ls y)) ?_ ?_
 ·rcases (by omega : (modW kd 8 = 0 ∨ modW kd 8 = 1 ∨ modW kd 8 = 2) ∨ modW kd 8 = 3 ∨ modW kd 8 = 4 ∨ modW kd 8 = 5 ∨ modW kd 8 = 6 ∨ modW kd 8 = 7) with (hm | hm | hm) | hm | hm | hm | hm | hm
  ·refine SC.seq (SC.region (SL.U (SU.fieldAddr underlying40 rfl sizeOf3 rfl) (SL.K (SQ.load (v := vi kd) isAgg3 rfl (CellAt.own 2 rfl rfl)) (SL.W (SO.call call38 rfl (mod_spec E g _ _ 8 dC)) ?_))))
   rintro _ _ _ ⟨rfl, rfl, rfl⟩
   rw [hm]
   refine SL.nil (ST.thenN (SC.block (SC.seq (SC.seq (SC.region (SL.U (SU.eql rfl rfl) (SL.A rfl (SL.nil (ST.thenN (SC.condT rfl (SC.skip (ST.thenN (SC.condT rfl (SC.region (SL.U (SU.fieldAddr underlying40 rfl sizeOf22 rfl) (SL.K (SQ.load (v := .slice p n c) isAgg22 rfl (CellAt.own 2 rfl rfl)) (SL.W (SO.call call10 rfl (sets_spec E g _ _ ls hv)) ?_)))))))))))))))))
   rintro v16 g1 _ ⟨rs1, rfl, hle1, hall1⟩
   refine SL.freezeRow fun g2 hle2 hs2 => ?_
   have hls : Lists g2 v16 (setsC ls) := ⟨rs1, hs2, hall1.mono fun _ _ => ListR.mono hle2⟩
   refine SL.W (SO.call call14 rfl (refSimplicial_spec E g2 _ _ _ hls oM (fun x hx => by have := hss.2 x hx; omega))) ?_
   rintro _ g3 _ ⟨rfl, hle3, u, rfl, hu⟩
   obtain ⟨q, d, rfl⟩ := hu.form
   refine SL.on (SO.storeAllK 0 sizeOf27 rfl rfl rfl rfl rfl (by exact ⟨rfl, trivial⟩)) ?_
   rintro _ _ _ ⟨rfl, rfl⟩
   refine SL.nil (ST.blockN ?_)
   exact ST.mid (g3, _) ⟨rfl, rfl, rfl, trivial⟩ rfl rfl ⟨hle1.trans (hle2.trans hle3), hu⟩
  ·refine SC.seq (SC.region (SL.U (SU.fieldAddr underlying40 rfl sizeOf3 rfl) (SL.K (SQ.load (v := vi kd) isAgg3 rfl (CellAt.own 2 rfl rfl)) (SL.W (SO.call call38 rfl (mod_spec E g _ _ 8 dC)) ?_))))
   rintro _ _ _ ⟨rfl, rfl, rfl⟩
   rw [hm]
   refine SL.nil (ST.thenN (SC.block (SC.seq (SC.seq (SC.region (SL.U (SU.eql rfl rfl) (SL.A rfl (SL.nil (ST.thenN (SC.condF rfl (SC.seq (SC.region (SL.U (SU.eql rfl rfl) (SL.A rfl (SL.nil (ST.thenN (SC.condT rfl (SC.skip (ST.thenN (SC.condT rfl (SC.region (SL.U (SU.fieldAddr underlying40 rfl sizeOf22 rfl) (SL.K (SQ.load (v := .slice p n c) isAgg22 rfl (CellAt.own 2 rfl rfl)) (SL.W (SO.call call10 rfl (sets_spec E g _ _ ls hv)) ?_))))))))))))))))))))))))
   rintro v16 g1 _ ⟨rs1, rfl, hle1, hall1⟩
   refine SL.freezeRow fun g2 hle2 hs2 => ?_
   have hls : Lists g2 v16 (setsC ls) := ⟨rs1, hs2, hall1.mono fun _ _ => ListR.mono hle2⟩
   refine SL.W (SO.call call14 rfl (refSimplicial_spec E g2 _ _ _ hls oM (fun x hx => by have := hss.2 x hx; omega))) ?_
   rintro _ g3 _ ⟨rfl, hle3, u, rfl, hu⟩
   obtain ⟨q, d, rfl⟩ := hu.form
   refine SL.on (SO.storeAllK 0 sizeOf27 rfl rfl rfl rfl rfl (by exact ⟨rfl, trivial⟩)) ?_
   rintro _ _ _ ⟨rfl, rfl⟩
   refine SL.nil (ST.blockN ?_)
   exact ST.mid (g3, _) ⟨rfl, rfl, rfl, trivial⟩ rfl rfl ⟨hle1.trans (hle2.trans hle3), hu⟩
  ·refine SC.seq (SC.region (SL.U (SU.fieldAddr underlying40 rfl sizeOf3 rfl) (SL.K (SQ.load (v := vi kd) isAgg3 rfl (CellAt.own 2 rfl rfl)) (SL.W (SO.call call38 rfl (mod_spec E g _ _ 8 dC)) ?_))))
   rintro _ _ _ ⟨rfl, rfl, rfl⟩
   rw [hm]
   refine SL.nil (ST.thenN (SC.block (SC.seq (SC.seq (SC.region (SL.U (SU.eql rfl rfl) (SL.A rfl (SL.nil (ST.thenN (SC.condF rfl (SC.seq (SC.region (SL.U (SU.eql rfl rfl) (SL.A rfl (SL.nil (ST.thenN (SC.condF rfl (SC.region (SL.U (SU.eql rfl rfl) (SL.A rfl (SL.nil (ST.thenN (SC.condT rfl (SC.region (SL.U (SU.fieldAddr underlying40 rfl sizeOf22 rfl) (SL.K (SQ.load (v := .slice p n c) isAgg22 rfl (CellAt.own 2 rfl rfl)) (SL.W (SO.call call10 rfl (sets_spec E g _ _ ls hv)) ?_)))))))))))))))))))))))))))
   rintro v16 g1 _ ⟨rs1, rfl, hle1, hall1⟩
   refine SL.freezeRow fun g2 hle2 hs2 => ?_
   have hls : Lists g2 v16 (setsC ls) := ⟨rs1, hs2, hall1.mono fun _ _ => ListR.mono hle2⟩
   refine SL.W (SO.call call14 rfl (refSimplicial_spec E g2 _ _ _ hls oM (fun x hx => by have := hss.2 x hx; omega))) ?_
   rintro _ g3 _ ⟨rfl, hle3, u, rfl, hu⟩
   obtain ⟨q, d, rfl⟩ := hu.form
   refine SL.on (SO.storeAllK 0 sizeOf27 rfl rfl rfl rfl rfl (by exact ⟨rfl, trivial⟩)) ?_
   rintro _ _ _ ⟨rfl, rfl⟩
   refine SL.nil (ST.blockN ?_)
   exact ST.mid (g3, _) ⟨rfl, rfl, rfl, trivial⟩ rfl rfl ⟨hle1.trans (hle2.trans hle3), hu⟩
  ·refine SC.seq (SC.region (SL.U (SU.fieldAddr underlying40 rfl sizeOf3 rfl) (SL.K (SQ.load (v := vi kd) isAgg3 rfl (CellAt.own 2 rfl rfl)) (SL.W (SO.call call38 rfl (mod_spec E g _ _ 8 dC)) ?_))))
   rintro _ _ _ ⟨rfl, rfl, rfl⟩
   rw [hm]
   refine SL.nil (ST.thenN (SC.block (SC.seq (SC.seq (SC.region (SL.U (SU.eql rfl rfl) (SL.A rfl (SL.nil (ST.thenN (SC.condF rfl (SC.seq (SC.region (SL.U (SU.eql rfl rfl) (SL.A rfl (SL.nil (ST.thenN (SC.condF rfl (SC.region (SL.U (SU.eql rfl rfl) (SL.A rfl (SL.nil (ST.thenN (SC.condF rfl (SC.seq (SC.region (SL.U (SU.eql rfl rfl) (SL.A rfl (SL.nil (ST.thenN ?_)))))))))))))))))))))))))))))
   refine SC.condT rfl (SC.region (SL.U (SU.fieldAddr underlying40 rfl sizeOf3 rfl) (SL.K (SQ.load (v := vi y) isAgg3 rfl (CellAt.own 2 rfl rfl)) (SL.W (SO.call call64 rfl (surface_spec E g _ y)) ?_))))
   rintro v22 g1 _ ⟨rfl, hle1, hls⟩
   refine SL.W (SO.call call14 rfl (refSimplicial_spec E g1 _ _ _ hls oM (fun x hx => by have := hsf.2.2 x hx; omega))) ?_
   rintro _ g3 _ ⟨rfl, hle3, u, rfl, hu⟩
   obtain ⟨q, d, rfl⟩ := hu.form
   refine SL.on (SO.storeAllK 0 sizeOf27 rfl rfl rfl rfl rfl (by exact ⟨rfl, trivial⟩)) ?_
   rintro _ _ _ ⟨rfl, rfl⟩
   refine SL.nil (ST.blockN ?_)
   exact ST.mid (g3, _) ⟨rfl, rfl, rfl, trivial⟩ rfl rfl ⟨hle1.trans hle3, hu⟩
  ·refine SC.seq (SC.region (SL.U (SU.fieldAddr underlying40 rfl sizeOf3 rfl) (SL.K (SQ.load (v := vi kd) isAgg3 rfl (CellAt.own 2 rfl rfl)) (SL.W (SO.call call38 rfl (mod_spec E g _ _ 8 dC)) ?_))))
   rintro _ _ _ ⟨rfl, rfl, rfl⟩
   rw [hm]
   refine SL.nil (ST.thenN (SC.block (SC.seq (SC.seq (SC.region (SL.U (SU.eql rfl rfl) (SL.A rfl (SL.nil (ST.thenN (SC.condF rfl (SC.seq (SC.region (SL.U (SU.eql rfl rfl) (SL.A rfl (SL.nil (ST.thenN (SC.condF rfl (SC.region (SL.U (SU.eql rfl rfl) (SL.A rfl (SL.nil (ST.thenN (SC.condF rfl (SC.seq (SC.region (SL.U (SU.eql rfl rfl) (SL.A rfl (SL.nil (ST.thenN ?_)))))))))))))))))))))))))))))
   refine SC.condF rfl (SC.seq (SC.region (SL.U (SU.eql rfl rfl) (SL.A rfl (SL.nil (ST.thenN (SC.condT rfl (SC.seq (SC.region (SL.U (SU.fieldAddr underlying40 rfl sizeOf3 rfl) (SL.K (SQ.load (v := vi y) isAgg3 rfl (CellAt.own 2 rfl rfl)) (SL.W (SO.call call38 rfl (mod_spec E g _ _ 3 dC)) ?_))))))))))))
   rintro _ _ _ ⟨rfl, rfl, rfl⟩
   refine SL.A rfl (SL.nil (ST.thenN (SC.seq (SC.region (SL.W (SO.buildSlice sty45 rfl rfl rfl (szs_mk ⟨rfl, rfl, trivial⟩) dC) ?_)))))
   rintro _ _ _ ⟨b29, rfl, rfl, rfl⟩
   refine SL.freeze fun g1 hle1 hb29 => ?_
   refine SL.W (SO.buildSlice sty22 rfl rfl rfl (szs_mk ⟨rfl, trivial⟩) dC) ?_
   rintro _ _ _ ⟨b30, rfl, rfl, rfl⟩
   refine SL.freeze fun g2 hle2 hb30 => ?_
   have hlit30 : Lists g2 (.slice (some ⟨b30, 0, none⟩) 1 1) [[0, 1]] := ⟨[svOf (.slice (some ⟨b29, 0, none⟩) 2 2)], SlA.lit hb30 rfl rfl, ⟨SlA.lit (hle2 _ _ hb29) rfl rfl, trivial⟩⟩
   refine SL.W (SO.buildSlice sty45 rfl rfl rfl (szs_mk ⟨rfl, rfl, trivial⟩) dC) ?_
   rintro _ _ _ ⟨b31, rfl, rfl, rfl⟩
   refine SL.freeze fun g3 hle3 hb31 => ?_
   refine SL.W (SO.buildSlice sty45 rfl rfl rfl (szs_mk ⟨rfl, rfl, trivial⟩) dC) ?_
   rintro _ _ _ ⟨b32, rfl, rfl, rfl⟩
   refine SL.freeze fun g4 hle4 hb32 => ?_
   refine SL.W (SO.buildSlice sty22 rfl rfl rfl (szs_mk ⟨rfl, rfl, trivial⟩) dC) ?_
   rintro _ _ _ ⟨b33, rfl, rfl, rfl⟩
   refine SL.freeze fun g5 hle5 hb33 => ?_
   have hlit33 : Lists g5 (.slice (some ⟨b33, 0, none⟩) 2 2) [[0, 1], [1, 2]] := ⟨[svOf (.slice (some ⟨b31, 0, none⟩) 2 2), svOf (.slice (some ⟨b32, 0, none⟩) 2 2)], SlA.lit hb33 rfl rfl, ⟨SlA.lit (hle5 _ _ (hle4 _ _ hb31)) rfl rfl, SlA.lit (hle5 _ _ hb32) rfl rfl, trivial⟩⟩
   refine SL.W (SO.buildSlice sty45 rfl rfl rfl (szs_mk ⟨rfl, rfl, trivial⟩) dC) ?_
   rintro _ _ _ ⟨b34, rfl, rfl, rfl⟩
   refine SL.freeze fun g6 hle6 hb34 => ?_
   refine SL.W (SO.buildSlice sty45 rfl rfl rfl (szs_mk ⟨rfl, rfl, trivial⟩) dC) ?_
   rintro _ _ _ ⟨b35, rfl, rfl, rfl⟩
   refine SL.freeze fun g7 hle7 hb35 => ?_
   refine SL.W (SO.buildSlice sty45 rfl rfl rfl (szs_mk ⟨rfl, rfl, trivial⟩) dC) ?_
   rintro _ _ _ ⟨b36, rfl, rfl, rfl⟩
   refine SL.freeze fun g8 hle8 hb36 => ?_
   refine SL.W (SO.buildSlice sty22 rfl rfl rfl (szs_mk ⟨rfl, rfl, rfl, trivial⟩) dC) ?_
   rintro _ _ _ ⟨b37, rfl, rfl, rfl⟩
   refine SL.freeze fun g9 hle9 hb37 => ?_
   have hlit37 : Lists g9 (.slice (some ⟨b37, 0, none⟩) 3 3) [[0, 1], [1, 2], [0, 2]] := ⟨[svOf (.slice (some ⟨b34, 0, none⟩) 2 2), svOf (.slice (some ⟨b35, 0, none⟩) 2 2), svOf (.slice (some ⟨b36, 0, none⟩) 2 2)], SlA.lit hb37 rfl rfl, ⟨SlA.lit (hle9 _ _ (hle8 _ _ (hle7 _ _ hb34))) rfl rfl, SlA.lit (hle9 _ _ (hle8 _ _ hb35)) rfl rfl, SlA.lit (hle9 _ _ hb36) rfl rfl, trivial⟩⟩
   refine SL.U (SU.build rfl (build92 _ _ _ _ _ _ _ _ _)) (SL.W (SO.alloc zeroValue92) ?_)
   rintro _ _ _ ⟨b5, rfl, rfl, rfl⟩
   refine SL.on (SO.storeAllK 0 sizeOf92 rfl rfl rfl rfl rfl (by exact ⟨rfl, rfl, rfl, trivial⟩)) ?_
   rintro _ _ _ ⟨rfl, rfl⟩
   refine SL.nil (ST.thenN ?_)
   have hl1 := three_lists hy3 (hlit30.mono (hle3.trans (hle4.trans (hle5.trans (hle6.trans (hle7.trans (hle8.trans hle9))))))) (hlit33.mono (hle6.trans (hle7.trans (hle8.trans hle9)))) hlit37
   have hl2 := three_lists hy33 (hlit30.mono (hle3.trans (hle4.trans (hle5.trans (hle6.trans (hle7.trans (hle8.trans hle9))))))) (hlit33.mono (hle6.trans (hle7.trans (hle8.trans hle9)))) hlit37
   refine SC.to (fun w hw => hw) (g' := g9) (s' := pt b5 (.cells #[.slice (some ⟨b30, 0, none⟩) 1 1, .slice (some ⟨b33, 0, none⟩) 2 2, .slice (some ⟨b37, 0, none⟩) 3 3] 92 (0, 0)) :: pt b3 (.cells #[.slice none 0 0] 27 (0, 0)) :: pt b2 (.cells #[.slice none 0 0] 27 (0, 0)) :: pt b1 (.cells #[vi kd, .slice p n c, vi y] 40 (0, 0)) :: s) ?_
   refine SC.draw [12] [(0, 2), (1, 2), (2, 1), (4, 2), (5, 1), (6, 2), (3, 0), (7, 0), (8, 2), (9, 1), (10, 0), (11, 0), (12, 0)] Tryz.mixed (by kernel_rfl) ?_
   refine SP.U (i := 0) rfl (SU.move rfl) (SP.U (i := 1) rfl (SU.indexAddrA underlying92 sizeOf22 rfl rfl oM oM) (SP.K (i := 2) rfl (SQ.load (v := sel3 (modW y 3) (.slice (some ⟨b30, 0, none⟩) 1 1) (.slice (some ⟨b33, 0, none⟩) 2 2) (.slice (some ⟨b37, 0, none⟩) 3 3)) isAgg22 rfl (CellAt.own 0 rfl (sel3_get hy3 _ _ _))) (SP.U (i := 4) rfl (SU.fieldAddr underlying40 rfl sizeOf3 rfl) (SP.K (i := 5) rfl (SQ.load (v := vi y) isAgg3 rfl (CellAt.own 3 rfl rfl)) (SP.U (i := 6) rfl (SU.quo rfl rfl dC) (SP.o (i := 3) rfl (SO.call call14 rfl (refSimplicial_spec E g9 _ _ _ hl1 (by have := (three_small (modW y 3)).1; omega) (fun x hx => by have := (three_small (modW y 3)).2 x hx; omega))) dC (.inr (by rintro _ ga _ ⟨rfl, hlea, ua, rfl, hua⟩; exact ⟨by assumption, (by exact .refl _)⟩)) ?_))))))
   rintro _ ga _ ⟨rfl, hlea, ua, rfl, hua⟩
   obtain ⟨qa, da, rfl⟩ := hua.form
   refine SP.o (i := 7) rfl (SO.call call38 rfl (mod_spec E ga _ _ 3 dC)) dC (.inr (by rintro _ _ _ ⟨rfl, rfl, rfl⟩; exact ⟨by assumption, (by exact .refl _)⟩)) ?_
   rintro _ _ _ ⟨rfl, rfl, rfl⟩
   refine SP.U (i := 8) rfl (SU.indexAddrA underlying92 sizeOf22 rfl rfl oM oM) (SP.K (i := 9) rfl (SQ.load (v := sel3 (modW (IntKind.i64.wrap (y.tdiv 3)) 3) (.slice (some ⟨b30, 0, none⟩) 1 1) (.slice (some ⟨b33, 0, none⟩) 2 2) (.slice (some ⟨b37, 0, none⟩) 3 3)) isAgg22 rfl (CellAt.own 0 rfl (sel3_get hy33 _ _ _))) (SP.o (i := 10) rfl (SO.call call14 rfl (refSimplicial_spec E ga _ _ _ (hl2.mono hlea) (by have := (three_small (modW (IntKind.i64.wrap (y.tdiv 3)) 3)).1; omega) (fun x hx => by have := (three_small (modW (IntKind.i64.wrap (y.tdiv 3)) 3)).2 x hx; omega))) dC (.inr (by rintro _ gb _ ⟨rfl, hleb, ub, rfl, hub⟩; exact ⟨by exact Le.trans (by assumption) (by assumption), (by exact .refl _)⟩)) ?_))
   rintro _ gb _ ⟨rfl, hleb, ub, rfl, hub⟩
   obtain ⟨qb, db, rfl⟩ := hub.form
   have hleab := hlea.trans hleb
   refine SP.o (i := 11) rfl (SO.call call18 rfl (refProduct_spec E gb _ _ _ _ _ (hua.mono hleb) hub (simpC_fits _).1 (simpC_fits _).1)) dC (.inr (by rintro _ gc _ ⟨rfl, hlec, uc, rfl, huc⟩; exact ⟨by exact Le.trans (by assumption) (by assumption), (by exact .refl _)⟩)) ?_
   rintro _ gc _ ⟨rfl, hlec, uc, rfl, huc⟩
   obtain ⟨qc, dc, rfl⟩ := huc.form
   refine SP.on (i := 12) rfl (SO.storeAllK 1 sizeOf27 rfl rfl rfl rfl rfl (by exact ⟨rfl, trivial⟩)) (.inl dC) ?_
   rintro _ _ _ ⟨rfl, rfl⟩
   refine SP.nil (ST.blockN (ST.drop (s' := pt b3 (.cells #[(Value.slice qc _ dc)] 27 (0, 0)) :: pt b2 (.cells #[.slice none 0 0] 27 (0, 0)) :: pt b1 (.cells #[vi kd, .slice p n c, vi y] 40 (0, 0)) :: s) (.cons _ (.refl _)) ?_))
   exact ST.mid (gc, _) ⟨rfl, rfl, rfl, trivial⟩ rfl rfl ⟨(hle1.trans (hle2.trans (hle3.trans (hle4.trans (hle5.trans (hle6.trans (hle7.trans (hle8.trans hle9)))))))).trans (hlea.trans (hleb.trans hlec)), huc⟩
  ·refine SC.seq (SC.region (SL.U (SU.fieldAddr underlying40 rfl sizeOf3 rfl) (SL.K (SQ.load (v := vi kd) isAgg3 rfl (CellAt.own 2 rfl rfl)) (SL.W (SO.call call38 rfl (mod_spec E g _ _ 8 dC)) ?_))))
   rintro _ _ _ ⟨rfl, rfl, rfl⟩
   rw [hm]
   refine SL.nil (ST.thenN (SC.block (SC.seq (SC.seq (SC.region (SL.U (SU.eql rfl rfl) (SL.A rfl (SL.nil (ST.thenN (SC.condF rfl (SC.seq (SC.region (SL.U (SU.eql rfl rfl) (SL.A rfl (SL.nil (ST.thenN (SC.condF rfl (SC.region (SL.U (SU.eql rfl rfl) (SL.A rfl (SL.nil (ST.thenN (SC.condF rfl (SC.seq (SC.region (SL.U (SU.eql rfl rfl) (SL.A rfl (SL.nil (ST.thenN ?_)))))))))))))))))))))))))))))
   refine SC.condF rfl (SC.seq (SC.region (SL.U (SU.eql rfl rfl) (SL.A rfl (SL.nil (ST.thenN (SC.condF rfl (SC.seq (SC.region (SL.U (SU.eql rfl rfl) (SL.A rfl (SL.nil (ST.thenN (SC.condT rfl (SC.region (SL.U (SU.fieldAddr underlying40 rfl sizeOf3 rfl) (SL.K (SQ.load (v := vi y) isAgg3 rfl (CellAt.own 2 rfl rfl)) (SL.W (SO.call call38 rfl (mod_spec E g _ _ 5 dC)) ?_))))))))))))))))))
   rintro _ _ _ ⟨rfl, rfl, rfl⟩
   refine SL.U (SU.eq (v' := vi (((2 + modW y 5).toNat : Nat) : Int)) (SU.add rfl rfl oM) (congrArg vi oM)) (SL.W (SO.call call65 rfl (polygon_spec E g _ (2 + modW y 5).toNat oM oM)) ?_)
   rintro _ g3 _ ⟨rfl, hle3, u, rfl, hu⟩
   obtain ⟨q, d, rfl⟩ := hu.form
   refine SL.on (SO.storeAllK 0 sizeOf27 rfl rfl rfl rfl rfl (by exact ⟨rfl, trivial⟩)) ?_
   rintro _ _ _ ⟨rfl, rfl⟩
   refine SL.nil (ST.blockN ?_)
   exact ST.mid (g3, _) ⟨rfl, rfl, rfl, trivial⟩ rfl rfl ⟨hle3, hu⟩
  ·refine SC.seq (SC.region (SL.U (SU.fieldAddr underlying40 rfl sizeOf3 rfl) (SL.K (SQ.load (v := vi kd) isAgg3 rfl (CellAt.own 2 rfl rfl)) (SL.W (SO.call call38 rfl (mod_spec E g _ _ 8 dC)) ?_))))
   rintro _ _ _ ⟨rfl, rfl, rfl⟩
   rw [hm]
   refine SL.nil (ST.thenN (SC.block (SC.seq (SC.seq (SC.region (SL.U (SU.eql rfl rfl) (SL.A rfl (SL.nil (ST.thenN (SC.condF rfl (SC.seq (SC.region (SL.U (SU.eql rfl rfl) (SL.A rfl (SL.nil (ST.thenN (SC.condF rfl (SC.region (SL.U (SU.eql rfl rfl) (SL.A rfl (SL.nil (ST.thenN (SC.condF rfl (SC.seq (SC.region (SL.U (SU.eql rfl rfl) (SL.A rfl (SL.nil (ST.thenN ?_)))))))))))))))))))))))))))))
   refine SC.condF rfl (SC.seq (SC.region (SL.U (SU.eql rfl rfl) (SL.A rfl (SL.nil (ST.thenN (SC.condF rfl (SC.seq (SC.region (SL.U (SU.eql rfl rfl) (SL.A rfl (SL.nil (ST.thenN (SC.condF rfl (SC.seq (SC.region (SL.U (SU.eql rfl rfl) (SL.A rfl (SL.nil (ST.thenN (SC.condT rfl (SC.seq (SC.region (SL.W (SO.buildSlice sty45 rfl rfl rfl (szs_mk ⟨rfl, rfl, trivial⟩) dC) ?_))))))))))))))))))))))))
   rintro _ _ _ ⟨b60, rfl, rfl, rfl⟩
   refine SL.freeze fun g1 hle1 hb60 => ?_
   refine SL.W (SO.buildSlice sty22 rfl rfl rfl (szs_mk ⟨rfl, trivial⟩) dC) ?_
   rintro _ _ _ ⟨b61, rfl, rfl, rfl⟩
   refine SL.freeze fun g2 hle2 hb61 => ?_
   have hlit61 : Lists g2 (.slice (some ⟨b61, 0, none⟩) 1 1) [[0, 1]] := ⟨[svOf (.slice (some ⟨b60, 0, none⟩) 2 2)], SlA.lit hb61 rfl rfl, ⟨SlA.lit (hle2 _ _ hb60) rfl rfl, trivial⟩⟩
   refine SL.W (SO.call call14 rfl (refSimplicial_spec E g2 _ _ _ hlit61 dC dC)) ?_
   rintro _ ga _ ⟨rfl, hlea, ua, rfl, hua⟩
   obtain ⟨qa, da, rfl⟩ := hua.form
   refine SL.W (SO.alloc zeroValue27) ?_
   rintro _ _ _ ⟨b6, rfl, rfl, rfl⟩
   refine SL.on (SO.storeAllK 0 sizeOf27 rfl rfl rfl rfl rfl (by exact ⟨rfl, trivial⟩)) ?_
   rintro _ _ _ ⟨rfl, rfl⟩
   refine SL.nil (ST.thenN ?_)
   refine SC.to (fun w hw => hw) (g' := ga) (s' := pt b6 (.cells #[.slice qa (simpC [[0, 1]]).length da] 27 (0, 0)) :: pt b3 (.cells #[.slice none 0 0] 27 (0, 0)) :: pt b2 (.cells #[.slice none 0 0] 27 (0, 0)) :: pt b1 (.cells #[vi kd, .slice p n c, vi y] 40 (0, 0)) :: s) ?_
   refine SC.draw [5] [(0, 1), (1, 1), (3, 1), (2, 0), (4, 0), (5, 0)] Tryz.mixed (by kernel_rfl) ?_
   refine SP.K (i := 0) rfl (SQ.loadVarK 0 isAgg27 sizeOf27 rfl rfl rfl) (SP.K (i := 1) rfl (SQ.loadVarK 0 isAgg27 sizeOf27 rfl rfl rfl) (SP.K (i := 3) rfl (SQ.loadVarK 0 isAgg27 sizeOf27 rfl rfl rfl) (SP.o (i := 2) rfl (SO.call call18 rfl (refProduct_spec E ga _ _ _ _ _ hua hua (simpC_fits _).1 (simpC_fits _).1)) dC (.inr (by rintro _ gb _ ⟨rfl, hleb, ub, rfl, hub⟩; exact ⟨by assumption, (by exact .refl _)⟩)) ?_)))
   rintro _ gb _ ⟨rfl, hleb, ub, rfl, hub⟩
   obtain ⟨qb, db, rfl⟩ := hub.form
   refine SP.o (i := 4) rfl (SO.call call18 rfl (refProduct_spec E gb _ _ _ _ _ hub (hua.mono hleb) (refProdC_fits _ _).1 (simpC_fits _).1)) dC (.inr (by rintro _ gc _ ⟨rfl, hlec, uc, rfl, huc⟩; exact ⟨by exact Le.trans (by assumption) (by assumption), (by exact .refl _)⟩)) ?_
   rintro _ gc _ ⟨rfl, hlec, uc, rfl, huc⟩
   obtain ⟨qc, dc, rfl⟩ := huc.form
   refine SP.on (i := 5) rfl (SO.storeAllK 1 sizeOf27 rfl rfl rfl rfl rfl (by exact ⟨rfl, trivial⟩)) (.inl dC) ?_
   rintro _ _ _ ⟨rfl, rfl⟩
   refine SP.nil (ST.blockN (ST.drop (s' := pt b3 (.cells #[(Value.slice qc _ dc)] 27 (0, 0)) :: pt b2 (.cells #[.slice none 0 0] 27 (0, 0)) :: pt b1 (.cells #[vi kd, .slice p n c, vi y] 40 (0, 0)) :: s) (.cons _ (.refl _)) ?_))
   exact ST.mid (gc, _) ⟨rfl, rfl, rfl, trivial⟩ rfl rfl ⟨(hle1.trans hle2).trans (hlea.trans (hleb.trans hlec)), huc⟩
  ·refine SC.seq (SC.region (SL.U (SU.fieldAddr underlying40 rfl sizeOf3 rfl) (SL.K (SQ.load (v := vi kd) isAgg3 rfl (CellAt.own 2 rfl rfl)) (SL.W (SO.call call38 rfl (mod_spec E g _ _ 8 dC)) ?_))))
   rintro _ _ _ ⟨rfl, rfl, rfl⟩
   rw [hm]
   refine SL.nil (ST.thenN (SC.block (SC.seq (SC.seq (SC.region (SL.U (SU.eql rfl rfl) (SL.A rfl (SL.nil (ST.thenN (SC.condF rfl (SC.seq (SC.region (SL.U (SU.eql rfl rfl) (SL.A rfl (SL.nil (ST.thenN (SC.condF rfl (SC.region (SL.U (SU.eql rfl rfl) (SL.A rfl (SL.nil (ST.thenN (SC.condF rfl (SC.seq (SC.region (SL.U (SU.eql rfl rfl) (SL.A rfl (SL.nil (ST.thenN ?_)))))))))))))))))))))))))))))
   refine SC.condF rfl (SC.seq (SC.region (SL.U (SU.eql rfl rfl) (SL.A rfl (SL.nil (ST.thenN (SC.condF rfl (SC.seq (SC.region (SL.U (SU.eql rfl rfl) (SL.A rfl (SL.nil (ST.thenN (SC.condF rfl (SC.seq (SC.region (SL.U (SU.eql rfl rfl) (SL.A rfl (SL.nil (ST.thenN (SC.condF rfl (SC.seq (SC.region (SL.U (SU.eql rfl rfl) (SL.A rfl (SL.nil (ST.thenN (SC.condT rfl ?_))))))))))))))))))))))))))))
   refine SC.draw [13] [(0, 2), (1, 1), (3, 2), (4, 1), (6, 2), (7, 1), (2, 0), (5, 0), (8, 0), (9, 2), (10, 2), (11, 0), (12, 0), (13, 0)] Tryz.mixed (by kernel_rfl) ?_
   refine SP.U (i := 0) rfl (SU.fieldAddr underlying40 rfl sizeOf22 rfl) (SP.K (i := 1) rfl (SQ.load (v := .slice p n c) isAgg22 rfl (CellAt.own 2 rfl rfl)) (SP.U (i := 3) rfl (SU.fieldAddr underlying40 rfl sizeOf3 rfl) (SP.K (i := 4) rfl (SQ.load (v := vi y) isAgg3 rfl (CellAt.own 2 rfl rfl)) (SP.U (i := 6) rfl (SU.fieldAddr underlying40 rfl sizeOf3 rfl) (SP.K (i := 7) rfl (SQ.load (v := vi y) isAgg3 rfl (CellAt.own 2 rfl rfl)) (SP.o (i := 2) rfl (SO.call call10 rfl (sets_spec E g _ _ ls hv)) dC (.inr (by rintro v72 g1 _ ⟨rs1, rfl, hle1, hall1⟩; exact ⟨by assumption, (by exact .cons _ (.refl _))⟩)) ?_))))))
   rintro v72 g1 _ ⟨rs1, rfl, hle1, hall1⟩
   refine SP.o (i := 5) rfl (SO.call call64 rfl (surface_spec E g1 _ y)) dC (.inr (by rintro v75 g2 _ ⟨rfl, hle2, hsv⟩; exact ⟨by exact Le.trans (by assumption) (by assumption), (by exact .cons _ (.refl _))⟩)) ?_
   rintro v75 g2 _ ⟨rfl, hle2, hsv⟩
   obtain ⟨rs2, hrs2, hall2⟩ := hsv
   have hrl2 := hall2.length
   have hrl1 := hall1.length
   obtain ⟨q2, d2, rfl⟩ := SlA.form hrs2
   have hcap2 := (SlA.cap hrs2).2
   have hcut := SlA.cut hrs2 (l := 0) (m := (2 + modW y 2).toNat) (Nat.zero_le _) oM
   rw [List.drop_zero, Nat.sub_zero] at hcut
   refine SP.o (i := 8) rfl (SO.call call38 rfl (mod_spec E g2 _ _ 2 dC)) dC (.inr (by rintro _ _ _ ⟨rfl, rfl, rfl⟩; exact ⟨by exact Le.trans (by assumption) (by assumption), (by exact .cons _ (.refl _))⟩)) ?_
   rintro _ _ _ ⟨rfl, rfl, rfl⟩
   refine SP.U (i := 9) rfl (SU.add rfl rfl oM) (SP.U (i := 10) rfl (SU.sliceH underlying22 sizeOf45 rfl rfl oM oM) (SP.o (i := 11) rfl (SO.appA (e := encSv) 0 sty22 rfl rfl rfl hcut (by rw [List.length_take]; omega) (by rw [List.length_take]; omega)) dC (.inr (by rintro v81 _ _ ⟨rfl, rfl⟩; exact ⟨by exact Le.trans (by assumption) (by assumption), (by exact .cons _ (.refl _))⟩)) ?_))
   rintro v81 _ _ ⟨rfl, rfl⟩
   refine SP.freezeRow fun g3 hle3 hs3 => ?_
   have hls : Lists g3 v81 (setsC ls ++ (surfC y).take (2 + modW y 2).toNat) := ⟨_, hs3, (hall1.mono fun _ _ => ListR.mono (hle2.trans hle3)).append ((All2.take _ hall2).mono fun _ _ => ListR.mono hle3)⟩
   have hle13 := hle1.trans (hle2.trans hle3)
   refine SP.o (i := 12) rfl (SO.call call14 rfl (refSimplicial_spec E g3 _ _ _ hls (by rw [List.length_append, List.length_take]; omega) (fun x hx => by rcases List.mem_append.1 hx with h | h; (have := hss.2 x h; omega); (have := hsf.2.2 x (List.mem_of_mem_take h); omega)))) dC (.inr (by rintro _ g4 _ ⟨rfl, hle4, u, rfl, hu⟩; exact ⟨by exact Le.trans (by assumption) (by assumption), (by exact .refl _)⟩)) ?_
   rintro _ g4 _ ⟨rfl, hle4, u, rfl, hu⟩
   obtain ⟨q, d, rfl⟩ := hu.form
   refine SP.on (i := 13) rfl (SO.storeAllK 0 sizeOf27 rfl rfl rfl rfl rfl (by exact ⟨rfl, trivial⟩)) (.inl dC) ?_
   rintro _ _ _ ⟨rfl, rfl⟩
   refine SP.nil (ST.blockN ?_)
   exact ST.mid (g4, _) ⟨rfl, rfl, rfl, trivial⟩ rfl rfl ⟨hle1.trans (hle2.trans (hle3.trans hle4)), hu⟩
 rintro ⟨g1, bv⟩ ⟨hle1, hbv⟩
 dsimp only at hle1 hbv ⊢
 generalize hB : baseM (modW kd 8) ls y = B at *
 obtain ⟨qb, db, rfl⟩ := hbv.form
 refine SC.seq (SC.seq (SC.region (SL.U (SU.fieldAddr underlying27 rfl sizeOf25 rfl) (SL.K (SQ.load (v := .slice qb B.length db) isAgg25 rfl (CellAt.own 0 rfl rfl)) (SL.U (SU.lenN underlying25 rfl) (SL.U (SU.gtr rfl rfl) (SL.nil (ST.thenN ?_))))))))
 refine SC.ifP rfl (fun hbig => ?_) (fun hbig => ?_)
 ·refine SC.region (SL.W (SO.call call66 rfl (torus_spec E g1 _)) ?_)
  rintro _ g2 _ ⟨rfl, hle2, ut, rfl, hut⟩
  obtain ⟨qt, dt, rfl⟩ := hut.form
  refine SL.on (SO.storeAllK 0 sizeOf27 rfl rfl rfl rfl rfl (by exact ⟨rfl, trivial⟩)) ?_
  rintro _ _ _ ⟨rfl, rfl⟩
  refine SL.nil (ST.thenN (SC.seq ?_))
  refine SC.to (fun w hw => hw) (g' := g2) (s' := pt b3 (.cells #[(Value.slice qt torusC.length dt)] 27 (0, 0)) :: pt b2 (.cells #[.slice none 0 0] 27 (0, 0)) :: pt b1 (.cells #[vi kd, .slice p n c, vi y] 40 (0, 0)) :: s) ?_
  refine SC.region (SL.K (SQ.loadVarK 0 isAgg27 sizeOf27 rfl rfl rfl) (SL.U (SU.fieldAddr underlying40 rfl sizeOf3 rfl) (SL.K (SQ.load (v := vi y) isAgg3 rfl (CellAt.own 2 rfl rfl)) (SL.W (SO.call call67 rfl (renumbered_spec E g2 _ _ torusC y hut (refProdC_fits _ _).1)) ?_))))
  rintro _ g3 _ ⟨rfl, hle3, x3, rfl, hx3⟩
  obtain ⟨q3, d3, rfl⟩ := hx3.form
  refine SL.on (SO.storeAllK 1 sizeOf27 rfl rfl rfl rfl rfl (by exact ⟨rfl, trivial⟩)) ?_
  rintro _ _ _ ⟨rfl, rfl⟩
  refine SL.nil (ST.thenN (SC.ret ?_))
  exact ST.retCD 1 s (.inl rfl) results20 rfl isAgg27 sizeOf27 rfl rfl (.cons _ (.cons _ (.cons _ (.refl _)))) ⟨rfl, hle1.trans (hle2.trans hle3), _, rfl, by unfold bigC; rw [if_pos hbig]; exact hx3⟩
 ·refine SC.skip (ST.thenN (SC.seq ?_))
  refine SC.to (fun w hw => hw) (g' := g1) (s' := pt b3 (.cells #[(Value.slice qb B.length db)] 27 (0, 0)) :: pt b2 (.cells #[.slice none 0 0] 27 (0, 0)) :: pt b1 (.cells #[vi kd, .slice p n c, vi y] 40 (0, 0)) :: s) ?_
  refine SC.region (SL.K (SQ.loadVarK 0 isAgg27 sizeOf27 rfl rfl rfl) (SL.U (SU.fieldAddr underlying40 rfl sizeOf3 rfl) (SL.K (SQ.load (v := vi y) isAgg3 rfl (CellAt.own 2 rfl rfl)) (SL.W (SO.call call67 rfl (renumbered_spec E g1 _ _ B y hbv hfit)) ?_))))
  rintro _ g3 _ ⟨rfl, hle3, x3, rfl, hx3⟩
  obtain ⟨q3, d3, rfl⟩ := hx3.form
  refine SL.on (SO.storeAllK 1 sizeOf27 rfl rfl rfl rfl rfl (by exact ⟨rfl, trivial⟩)) ?_
  rintro _ _ _ ⟨rfl, rfl⟩
  refine SL.nil (ST.thenN (SC.ret ?_))
  exact ST.retCD 1 s (.inl rfl) results20 rfl isAgg27 sizeOf27 rfl rfl (.cons _ (.cons _ (.cons _ (.refl _)))) ⟨rfl, hle1.trans hle3, _, rfl, by unfold bigC; rw [if_neg hbig]; exact hx3⟩
theorem modW_rangeL (a b : Int) (h0 : 0 < b) (h1 : b ≤ 1099511627776) : 0 ≤ modW a b ∧ modW a b < b := by
 have h2 : a.tmod b < b := Int.tmod_lt_of_pos a h0
 have h3 : -b < a.tmod b := by
  have := Int.lt_tmod_of_pos a h0
  omega
 unfold modW
 rw [IntWalk.i64_in _ oM, Int.tmod_eq_emod_of_nonneg oM]
 exact ⟨Int.emod_nonneg _ oM, Int.emod_lt_of_pos _ h0⟩
theorem modW_nat (a : Int) (n : Nat) (h0 : 0 < n) (h1 : n ≤ 1099511627776) : modW a n = (((modW a n).toNat : Nat) : Int) ∧ (modW a n).toNat < n := by
 have := modW_rangeL a n oM oM
 omega
theorem ownS_split : ∀ {A : List Cl} {RA : List Rc} (x : Cl) (rx : Rc) (B : List Cl) (RB : List Rc), A.length = RA.length → ownS (A ++ x :: B) (RA ++ rx :: RB) = ownS A RA ++ ownC x rx :: ownS B RB
 | [], [], _, _, _, _, _ => rfl
 | a :: A, r :: RA, x, rx, B, RB, h => by simp only [List.cons_append, ownS]; rw [ownS_split x rx B RB (by simpa using h)]
 | [], _ :: _, _, _, _, _, h => by simp at h
 | _ :: _, [], _, _, _, _, h => by simp at h
theorem freezeBut {E : World} {s : Own} {w : World} {g : PH} {R : Ent} {A B : List Cl} {RA RB : List Rc} {x : Cl} {rx : Rc} (h1 : All2 CellO A RA) (h2 : All2 CellO B RB) (h : At E g (R :: (ownS (A ++ x :: B) (RA ++ rx :: RB) ++ s)) w) :
  ∃ g', Le g g' ∧ At E g' (R :: ownC x rx :: s) w ∧ All2 (CellR g') A RA ∧ All2 (CellR g') B RB := by
 rw [ownS_split x rx B RB h1.length] at h
 have hp : (R :: (ownS A RA ++ ownC x rx :: ownS B RB ++ s)).Perm (ownS A RA ++ (ownS B RB ++ (R :: ownC x rx :: s))) := by
  rw [List.append_assoc]
  refine List.perm_middle.symm.trans (List.Perm.append_left _ ?_)
  refine (List.Perm.cons R (List.perm_middle (l₁ := ownS B RB)).symm).trans ?_
  exact List.perm_middle.symm
 obtain ⟨g1, hl1, ha1, hs1⟩ := freezeO h1 (h.perm hp)
 obtain ⟨g2, hl2, ha2, hs2⟩ := freezeO h2 ha1
 exact ⟨g2, hl1.trans hl2, ha2, hs1.mono fun _ _ => CellR.mono hl2, hs2⟩
theorem SC.freezeBut {P : Program} {N : Nat} {E : World} {Q : Exit → Act → World → Prop} {f : Fr} {g : PH} {s : Own} {o : Code} {R S : Ent} {A B : List Cl} {RA RB : List Rc} {x : Cl} {rx : Rc} (h1 : All2 CellO A RA) (h2 : All2 CellO B RB)
  (h : ∀ g', Le g g' → All2 (CellR g') A RA → All2 (CellR g') B RB → SC P N E o Q f g' (R :: ownC x rx :: S :: s)) : SC P N E o Q f g (S :: R :: (ownS (A ++ x :: B) (RA ++ rx :: RB) ++ s)) := fun a w ha hw => by
 have hp : (S :: R :: (ownS (A ++ x :: B) (RA ++ rx :: RB) ++ s)).Perm (R :: (ownS (A ++ x :: B) (RA ++ rx :: RB) ++ (S :: s))) := (List.Perm.swap _ _ _).trans (List.Perm.cons R List.perm_middle.symm)
 obtain ⟨g', h3, h4, h5, h6⟩ := Go.Proofs.YtkdibcicncjpdaaGreat.freezeBut h1 h2 (hw.perm hp)
 exact h g' h3 h5 h6 a w ha h4
theorem All2.split {α β : Type} {R : α → β → Prop} : ∀ {l : List α} {rs : List β} {k : Nat}, All2 R l rs → k < l.length → ∃ A x B RA rx RB, l = A ++ x :: B ∧ rs = RA ++ rx :: RB ∧ A.length = k ∧ RA.length = k ∧ All2 R A RA ∧ R x rx ∧ All2 R B RB
 | x :: l, r :: rs, 0, h, _ => ⟨[], x, l, [], r, rs, rfl, rfl, rfl, rfl, trivial, h.1, h.2⟩
 | x :: l, r :: rs, k + 1, h, hk => by
  obtain ⟨A, y, B, RA, ry, RB, rfl, rfl, h1, h2, h3, h4, h5⟩ := All2.split h.2 (by simpa using hk)
  exact ⟨x :: A, y, B, r :: RA, ry, RB, rfl, rfl, by simp [h1], by simp [h2], ⟨h.1, h3⟩, h4, h5⟩
 | [], [], _, _, hk => by simp at hk
 | [], _ :: _, _, h, _ => h.elim
 | _ :: _, [], _, h, _ => h.elim
theorem setMid {α : Type} {A B : List α} {x y : α} {k : Nat} (h : A.length = k) : (A ++ x :: B).set k y = A ++ y :: B := by subst h; simp
theorem getMid {α : Type} {A B : List α} {x : α} {k : Nat} (h : A.length = k) : (A ++ x :: B)[k]? = some x := by subst h; simp
def dflC : Cl := ⟨0, 0, []⟩
def dflS : Side := ⟨0, 0⟩
def negS (z : Side) : Side := ⟨z.cell, IntKind.i64.wrap (0 - z.sign)⟩
def withS (x : Cl) (ss : List Side) : Cl := ⟨x.id, x.dim, ss⟩
def pickC (l : List Cl) (n : Int) : Cl := l.getD (modW n l.length).toNat dflC
def spoilM (m : Int) (l : List Cl) (k : Nat) (x : Cl) (n : Int) (j : Nat) : List Cl :=
 if m = 0 then l.set k ⟨modW n 9 - 1, x.dim, x.sides⟩
 else if m = 1 then l.set k ⟨x.id, modW n 12 - 1, x.sides⟩
 else if m = 2 then l.eraseIdx k
 else if m = 3 then l.set k (withS x (x.sides.set j ⟨(x.sides.getD j dflS).cell, modW n 4 - 2⟩))
 else if m = 4 then l.set k (withS x (x.sides.set j (negS (x.sides.getD j dflS))))
 else if m = 5 then l.set k (withS x (x.sides.set j ⟨(pickC l (IntKind.i64.wrap (n.tdiv 3))).id, (x.sides.getD j dflS).sign⟩))
 else if m = 6 then l.set k (withS x (x.sides.eraseIdx j))
 else if m = 7 then l.set k (withS x (x.sides ++ [⟨(pickC l n).id, 1 - 2 * modW n 2⟩]))
 else if m = 8 then l ++ [x]
 else if m = 9 then l.set k (withS x (x.sides ++ (pickC l n).sides))
 else if m = 10 then l.set k (withS x (x.sides.map negS))
 else if m = 11 then l ++ [⟨500 + modW n 3, modW n 4, x.sides⟩]
 else l
def sideJ (x : Cl) (n : Int) : Nat := if 0 < x.sides.length then (modW n x.sides.length).toNat else 0
def spoilC (l : List Cl) (q0 q1 q2 : Int) : List Cl :=
 if l.length = 0 then [⟨q1, 0, []⟩] else spoilM (modW q0 13) l (modW q1 l.length).toNat (pickC l q1) q2 (sideJ (pickC l q1) q2)
def Small (l : List Cl) : Prop := l.length ≤ 5000 ∧ ∀ c ∈ l, c.sides.length ≤ 1000000
theorem Small.fits {l : List Cl} (h : Small l) : Fits l := ⟨by have := h.1; omega, fun c hc => by have := h.2 c hc; omega⟩
theorem canonC_small {l : List Cl} (h : Small l) : Small (canonC l) := by
 refine ⟨by simp [canonC, sortBy_length]; exact h.1, fun c hc => ?_⟩
 simp only [canonC, List.mem_map] at hc
 obtain ⟨c0, h0, rfl⟩ := hc
 simp only [normC, sortBy_length]
 exact h.2 c0 ((sortBy_mem l c0).1 h0)
theorem simpC_small (ls : List (List Int)) : Small (simpC ls) := by
 unfold simpC
 cases h : simpAll [] ls with
 | none => exact ⟨by simp, by simp⟩
 | some all =>
  obtain ⟨h1, h2⟩ := simpAll_facts [] ls (by simp) (by simp) all h
  refine canonC_small ⟨by rw [simpCells_length]; omega, fun c hc => ?_⟩
  obtain ⟨p, hp, rfl⟩ := List.mem_map.1 hc
  have h3 : p.1 ∈ all := by
   have := List.mem_map_of_mem (f := Prod.fst) hp
   simpa using this
  have h4 := h2 _ h3
  have h5 := simpSides_length all p.1 p.1.length
  simp only [simpCell]
  omega
theorem refProdC_small (a b : List Cl) : Small (refProdC a b) := by
 refine ⟨by have := (refProdC_fits a b).2; omega, ?_⟩
 unfold refProdC
 split
 ·simp
 ·rename_i hbad
  split
  ·have ha : (refCheckC a).2 = 0 := Decidable.of_not_not fun h => hbad (by simp [refProdBad, h])
   have hb : (refCheckC b).2 = 0 := Decidable.of_not_not fun h => hbad (by simp [refProdBad, h])
   obtain ⟨_, _, hat, haf⟩ := refRight_facts ha
   obtain ⟨_, _, hbt, hbf⟩ := refRight_facts hb
   rw [← hat] at haf
   rw [← hbt] at hbf
   have hprod : prodAll a b = (tabC a).flatMap fun x => (tabC b).map (prodCell (tabC a) (tabC b) x) := by unfold prodAll; rw [← hat, ← hbt]
   intro c hc
   simp only [canonC, List.mem_map] at hc
   obtain ⟨c0, h0, rfl⟩ := hc
   simp only [normC, sortBy_length]
   have hc := (sortBy_mem _ c0).1 h0
   rw [hprod] at hc
   obtain ⟨x, hx, hc⟩ := List.mem_flatMap.1 hc
   obtain ⟨y, hy, rfl⟩ := List.mem_map.1 hc
   have h1 := (form_ok (haf x hx)).1
   have h2 := (form_ok (hbf y hy)).1
   simp [prodCell]
   omega
  ·simp
theorem polyC_small {n : Nat} (h : n ≤ 6) : Small (polyC n) := by
 refine canonC_small ⟨by have := (polyAll_fits h).2; omega, fun c hc => ?_⟩
 unfold polyAll at hc
 rcases List.mem_append.1 hc with hc | hc
 ·rcases List.mem_append.1 hc with hc | hc
  ·rcases List.mem_append.1 hc with hc | hc
   ·obtain ⟨i, _, rfl⟩ := List.mem_map.1 hc
    simp
   ·obtain ⟨i, _, rfl⟩ := List.mem_map.1 hc
    simp
  ·simp at hc
   subst hc
   simp [polyS_length]
   omega
 ·split at hc
  ·simp at hc
   subst hc
   simp [polyS_length]
   omega
  ·simp at hc
theorem baseM_small (m : Int) (ls : List (List Int)) (y : Int) : Small (baseM m ls y) := by
 unfold baseM
 have h5 := modW_range y 5 dC dC
 repeat' split
 ·exact simpC_small _
 ·exact refProdC_small _ _
 ·exact polyC_small oM
 ·exact refProdC_small _ _
 ·exact simpC_small _
 ·exact simpC_small _
theorem madeC_small (kd : Int) (ls : List (List Int)) (y : Int) : Small (madeC kd ls y) := by
 have hb : Small (bigC (baseM (modW kd 8) ls y)) := by
  unfold bigC
  split
  ·exact refProdC_small _ _
  ·exact baseM_small _ _ _
 refine canonC_small ⟨by rw [List.length_map]; exact hb.1, fun c hc => ?_⟩
 obtain ⟨x, hx, rfl⟩ := List.mem_map.1 hc
 simpa [renCell] using hb.2 x hx
theorem pickC_sides {l : List Cl} (h : Small l) (n : Int) : (pickC l n).sides.length ≤ 1000000 := by
 unfold pickC
 rw [List.getD_eq_getElem?_getD]
 cases hc : l[(modW n l.length).toNat]? with
 | none => simp [dflC]
 | some c => exact h.2 c (List.mem_of_getElem? hc)
def Mids (l : List Cl) : Prop := l.length ≤ 5001 ∧ ∀ c ∈ l, c.sides.length ≤ 3000000
theorem Mids.fits {l : List Cl} (h : Mids l) : Fits l := ⟨by have := h.1; omega, fun c hc => by have := h.2 c hc; omega⟩
theorem set_fits {l : List Cl} (h : Small l) (k : Nat) {c : Cl} (hc : c.sides.length ≤ 3000000) : Mids (l.set k c) := by
 refine ⟨by rw [List.length_set]; have := h.1; omega, fun d hd => ?_⟩
 rcases List.mem_or_eq_of_mem_set hd with hd | rfl
 ·have := h.2 d hd; omega
 ·omega
theorem snoc_fits {l : List Cl} (h : Small l) {c : Cl} (hc : c.sides.length ≤ 3000000) : Mids (l ++ [c]) := by
 refine ⟨by rw [List.length_append, List.length_singleton]; have := h.1; omega, fun d hd => ?_⟩
 rcases List.mem_append.1 hd with hd | hd
 ·have := h.2 d hd; omega
 ·simp at hd; subst hd; omega
theorem fits_ite {p : Prop} [Decidable p] {a b : List Cl} (ha : Mids a) (hb : Mids b) : Mids (if p then a else b) := by split <;> assumption
theorem spoilC_mids {l : List Cl} (h : Small l) (q0 q1 q2 : Int) : Mids (spoilC l q0 q1 q2) := by
 unfold spoilC
 split
 ·exact ⟨by simp, by simp⟩
 ·have hx := pickC_sides h q1
  have hy := pickC_sides h q2
  generalize pickC l q1 = x at *
  generalize modW q0 13 = m
  unfold spoilM
  repeat' with_reducible refine fits_ite ?_ ?_
  ·exact set_fits h _ (c := ⟨_, _, x.sides⟩) (by show x.sides.length ≤ _; omega)
  ·exact set_fits h _ (c := ⟨_, _, x.sides⟩) (by show x.sides.length ≤ _; omega)
  ·exact ⟨by have := List.length_eraseIdx_le l (modW q1 l.length).toNat; have := h.1; omega, fun c hc => by have := h.2 c (List.mem_of_mem_eraseIdx hc); omega⟩
  ·exact set_fits h _ (by simp only [withS, List.length_set]; omega)
  ·exact set_fits h _ (by simp only [withS, List.length_set]; omega)
  ·exact set_fits h _ (by simp only [withS, List.length_set]; omega)
  ·exact set_fits h _ (by simp only [withS]; have := List.length_eraseIdx_le x.sides (sideJ x q2); omega)
  ·exact set_fits h _ (by simp only [withS, List.length_append, List.length_singleton]; omega)
  ·exact snoc_fits h (c := x) oM
  ·exact set_fits h _ (by simp only [withS, List.length_append]; omega)
  ·exact set_fits h _ (by simp only [withS, List.length_map]; omega)
  ·exact snoc_fits h (c := ⟨_, _, x.sides⟩) (by show x.sides.length ≤ _; omega)
  ·exact ⟨by have := h.1; omega, fun c hc => by have := h.2 c hc; omega⟩
end Go.Proofs.YtkdibcicncjpdaaGreat
