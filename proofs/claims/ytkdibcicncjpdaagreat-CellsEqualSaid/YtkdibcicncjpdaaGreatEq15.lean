/- Mad2 Mad3 Mad4 Mad5 Spo1 -/
import Derived.Test.YtkdibcicncjpdaaGreatEq14
set_option linter.unusedSimpArgs false
set_option linter.unusedVariables false
namespace Go.Proofs.YtkdibcicncjpdaaGreat
open _root_.Go.Proofs.Tryz _root_.Go.Proofs.YtkdibcicncjpdaaGreat.Tryz
open Go Go.Sy Go.Pl Go.Proofs
set_option maxRecDepth 100000
def surf0 : List (List Int) := [[0, 1, 2], [0, 1, 3], [0, 2, 3], [1, 2, 3]]
def surf1 : List (List Int) := [[0, 1, 2], [0, 2, 3], [0, 3, 4], [0, 4, 5], [0, 1, 5], [1, 2, 4], [2, 3, 5], [1, 3, 4], [2, 4, 5], [1, 3, 5]]
def surf2 (k : Nat) : List (List Int) := (List.range k).flatMap fun (i : Nat) => [[(i : Int), ((i : Int) + 1).tmod 7, ((i : Int) + 3).tmod 7], [(i : Int), ((i : Int) + 2).tmod 7, ((i : Int) + 3).tmod 7]]
def surfC (n : Int) : List (List Int) := if modW n 3 = 0 then surf0 else if modW n 3 = 1 then surf1 else surf2 7
theorem surf2_succ (k : Nat) : surf2 (k + 1) = surf2 k ++ [[(k : Int), ((k : Int) + 1).tmod 7, ((k : Int) + 3).tmod 7], [(k : Int), ((k : Int) + 2).tmod 7, ((k : Int) + 3).tmod 7]] := by
  simp [surf2, List.range_succ, List.flatMap_append]
theorem surf2_length (k : Nat) : (surf2 k).length = 2 * k := by
  induction k with
  | zero => rfl
  | succ k ih => rw [surf2_succ, List.length_append, ih]; simp; omega
theorem surface_spec (E : World) (g : PH) (s : Own) (n : Int) : Ctr Tryz.prog E 64 #[vi n] g s (fun r g' s' => s = s' ∧ Le g g' ∧ Lists g' r (surfC n)) := by
  refine Ctr.of (args := [vi n]) func64 rfl ntmps64 (Nat.le_of_ble_eq_true rfl) ?_
  refine SC.seq (SC.region (SL.A rfl (SL.nil (ST.thenN (SC.seq (SC.seq (SC.region (SL.M rfl (SL.W (SO.call call38 rfl (mod_spec E g _ n 3 (by decide))) ?_)))))))))
  rintro _ _ _ ⟨rfl, rfl, rfl⟩
  refine SL.nil (ST.thenN (SC.block (SC.seq (SC.region (SL.U (SU.eql rfl rfl) (SL.A rfl (SL.nil (ST.thenN ?_))))))))
  refine SC.ifP rfl (fun h0 => ?_) (fun h0 => ?_)
  · skip
    refine SC.seq (SC.region (SL.W (SO.buildSlice sty45 rfl rfl rfl (szs_mk ⟨rfl, rfl, rfl, trivial⟩) (by decide)) ?_))
    rintro _ _ _ ⟨b9, rfl, rfl, rfl⟩
    refine SL.freeze fun g1 hle1 hb9 => ?_
    refine SL.W (SO.buildSlice sty45 rfl rfl rfl (szs_mk ⟨rfl, rfl, rfl, trivial⟩) (by decide)) ?_
    rintro _ _ _ ⟨b10, rfl, rfl, rfl⟩
    refine SL.freeze fun g2 hle2 hb10 => ?_
    refine SL.W (SO.buildSlice sty45 rfl rfl rfl (szs_mk ⟨rfl, rfl, rfl, trivial⟩) (by decide)) ?_
    rintro _ _ _ ⟨b11, rfl, rfl, rfl⟩
    refine SL.freeze fun g3 hle3 hb11 => ?_
    refine SL.W (SO.buildSlice sty45 rfl rfl rfl (szs_mk ⟨rfl, rfl, rfl, trivial⟩) (by decide)) ?_
    rintro _ _ _ ⟨b12, rfl, rfl, rfl⟩
    refine SL.freeze fun g4 hle4 hb12 => ?_
    refine SL.W (SO.buildSlice sty22 rfl rfl rfl (szs_mk ⟨rfl, rfl, rfl, rfl, trivial⟩) (by decide)) ?_
    rintro _ _ _ ⟨b13, rfl, rfl, rfl⟩
    refine SL.freeze fun g5 hle5 hb13 => ?_
    have hlit : Lists g5 (.slice (some ⟨b13, 0, none⟩) 4 4) surf0 := ⟨[svOf (.slice (some ⟨b9, 0, none⟩) 3 3), svOf (.slice (some ⟨b10, 0, none⟩) 3 3), svOf (.slice (some ⟨b11, 0, none⟩) 3 3), svOf (.slice (some ⟨b12, 0, none⟩) 3 3)], SlA.lit hb13 rfl rfl, ⟨SlA.lit (hle5 _ _ (hle4 _ _ (hle3 _ _ (hle2 _ _ hb9)))) rfl rfl, SlA.lit (hle5 _ _ (hle4 _ _ (hle3 _ _ hb10))) rfl rfl, SlA.lit (hle5 _ _ (hle4 _ _ hb11)) rfl rfl, SlA.lit (hle5 _ _ hb12) rfl rfl, trivial⟩⟩
    refine SL.A rfl (SL.nil (ST.thenN (SC.ret (ST.blockR (ST.thenR ?_)))))
    exact ST.ret1 (.inl rfl) results64 rfl ⟨rfl, (hle1.trans (hle2.trans (hle3.trans (hle4.trans hle5)))), by unfold surfC; rw [if_pos h0]; exact hlit⟩
  · skip
    refine SC.seq (SC.region (SL.U (SU.eql rfl rfl) (SL.A rfl (SL.nil (ST.thenN ?_)))))
    refine SC.ifP rfl (fun h1 => ?_) (fun h1 => ?_)
    · skip
      refine SC.seq (SC.region (SL.W (SO.buildSlice sty45 rfl rfl rfl (szs_mk ⟨rfl, rfl, rfl, trivial⟩) (by decide)) ?_))
      rintro _ _ _ ⟨b16, rfl, rfl, rfl⟩
      refine SL.freeze fun g1 hle1 hb16 => ?_
      refine SL.W (SO.buildSlice sty45 rfl rfl rfl (szs_mk ⟨rfl, rfl, rfl, trivial⟩) (by decide)) ?_
      rintro _ _ _ ⟨b17, rfl, rfl, rfl⟩
      refine SL.freeze fun g2 hle2 hb17 => ?_
      refine SL.W (SO.buildSlice sty45 rfl rfl rfl (szs_mk ⟨rfl, rfl, rfl, trivial⟩) (by decide)) ?_
      rintro _ _ _ ⟨b18, rfl, rfl, rfl⟩
      refine SL.freeze fun g3 hle3 hb18 => ?_
      refine SL.W (SO.buildSlice sty45 rfl rfl rfl (szs_mk ⟨rfl, rfl, rfl, trivial⟩) (by decide)) ?_
      rintro _ _ _ ⟨b19, rfl, rfl, rfl⟩
      refine SL.freeze fun g4 hle4 hb19 => ?_
      refine SL.W (SO.buildSlice sty45 rfl rfl rfl (szs_mk ⟨rfl, rfl, rfl, trivial⟩) (by decide)) ?_
      rintro _ _ _ ⟨b20, rfl, rfl, rfl⟩
      refine SL.freeze fun g5 hle5 hb20 => ?_
      refine SL.W (SO.buildSlice sty45 rfl rfl rfl (szs_mk ⟨rfl, rfl, rfl, trivial⟩) (by decide)) ?_
      rintro _ _ _ ⟨b21, rfl, rfl, rfl⟩
      refine SL.freeze fun g6 hle6 hb21 => ?_
      refine SL.W (SO.buildSlice sty45 rfl rfl rfl (szs_mk ⟨rfl, rfl, rfl, trivial⟩) (by decide)) ?_
      rintro _ _ _ ⟨b22, rfl, rfl, rfl⟩
      refine SL.freeze fun g7 hle7 hb22 => ?_
      refine SL.W (SO.buildSlice sty45 rfl rfl rfl (szs_mk ⟨rfl, rfl, rfl, trivial⟩) (by decide)) ?_
      rintro _ _ _ ⟨b23, rfl, rfl, rfl⟩
      refine SL.freeze fun g8 hle8 hb23 => ?_
      refine SL.W (SO.buildSlice sty45 rfl rfl rfl (szs_mk ⟨rfl, rfl, rfl, trivial⟩) (by decide)) ?_
      rintro _ _ _ ⟨b24, rfl, rfl, rfl⟩
      refine SL.freeze fun g9 hle9 hb24 => ?_
      refine SL.W (SO.buildSlice sty45 rfl rfl rfl (szs_mk ⟨rfl, rfl, rfl, trivial⟩) (by decide)) ?_
      rintro _ _ _ ⟨b25, rfl, rfl, rfl⟩
      refine SL.freeze fun g10 hle10 hb25 => ?_
      refine SL.W (SO.buildSlice sty22 rfl rfl rfl (szs_mk ⟨rfl, rfl, rfl, rfl, rfl, rfl, rfl, rfl, rfl, rfl, trivial⟩) (by decide)) ?_
      rintro _ _ _ ⟨b26, rfl, rfl, rfl⟩
      refine SL.freeze fun g11 hle11 hb26 => ?_
      have hlit : Lists g11 (.slice (some ⟨b26, 0, none⟩) 10 10) surf1 := ⟨[svOf (.slice (some ⟨b16, 0, none⟩) 3 3), svOf (.slice (some ⟨b17, 0, none⟩) 3 3), svOf (.slice (some ⟨b18, 0, none⟩) 3 3), svOf (.slice (some ⟨b19, 0, none⟩) 3 3), svOf (.slice (some ⟨b20, 0, none⟩) 3 3), svOf (.slice (some ⟨b21, 0, none⟩) 3 3), svOf (.slice (some ⟨b22, 0, none⟩) 3 3), svOf (.slice (some ⟨b23, 0, none⟩) 3 3), svOf (.slice (some ⟨b24, 0, none⟩) 3 3), svOf (.slice (some ⟨b25, 0, none⟩) 3 3)], SlA.lit hb26 rfl rfl, ⟨SlA.lit (hle11 _ _ (hle10 _ _ (hle9 _ _ (hle8 _ _ (hle7 _ _ (hle6 _ _ (hle5 _ _ (hle4 _ _ (hle3 _ _ (hle2 _ _ hb16)))))))))) rfl rfl, SlA.lit (hle11 _ _ (hle10 _ _ (hle9 _ _ (hle8 _ _ (hle7 _ _ (hle6 _ _ (hle5 _ _ (hle4 _ _ (hle3 _ _ hb17))))))))) rfl rfl, SlA.lit (hle11 _ _ (hle10 _ _ (hle9 _ _ (hle8 _ _ (hle7 _ _ (hle6 _ _ (hle5 _ _ (hle4 _ _ hb18)))))))) rfl rfl, SlA.lit (hle11 _ _ (hle10 _ _ (hle9 _ _ (hle8 _ _ (hle7 _ _ (hle6 _ _ (hle5 _ _ hb19))))))) rfl rfl, SlA.lit (hle11 _ _ (hle10 _ _ (hle9 _ _ (hle8 _ _ (hle7 _ _ (hle6 _ _ hb20)))))) rfl rfl, SlA.lit (hle11 _ _ (hle10 _ _ (hle9 _ _ (hle8 _ _ (hle7 _ _ hb21))))) rfl rfl, SlA.lit (hle11 _ _ (hle10 _ _ (hle9 _ _ (hle8 _ _ hb22)))) rfl rfl, SlA.lit (hle11 _ _ (hle10 _ _ (hle9 _ _ hb23))) rfl rfl, SlA.lit (hle11 _ _ (hle10 _ _ hb24)) rfl rfl, SlA.lit (hle11 _ _ hb25) rfl rfl, trivial⟩⟩
      refine SL.A rfl (SL.nil (ST.thenN (SC.ret (ST.blockR (ST.thenR ?_)))))
      exact ST.ret1 (.inl rfl) results64 rfl ⟨rfl, (hle1.trans (hle2.trans (hle3.trans (hle4.trans (hle5.trans (hle6.trans (hle7.trans (hle8.trans (hle9.trans (hle10.trans hle11)))))))))), by unfold surfC; rw [if_neg h0, if_pos h1]; exact hlit⟩
    · skip
      refine SC.skip (ST.blockN (ST.thenN (SC.seq (SC.region (SL.A rfl (SL.nil (ST.thenN (SC.seq (SC.seq (SC.region (SL.A rfl (SL.nil (ST.thenN (SC.block (SC.nilRow 45 1 ?_)))))))))))))))
      refine SC.loop (ι := PH × Value × List Sv × Nat) (fun i => [(3, i.2.1), (4, vi i.2.2.2)]) (fun i => i.1)
        (fun i => rowA encSv 45 i.2.1 i.2.2.1 :: s)
        (fun i => Le g i.1 ∧ i.2.2.2 ≤ 7 ∧ All2 (ListR i.1) (surf2 i.2.2.2) i.2.2.1) (fun i => 7 - i.2.2.2)
        (g, .slice none 0 0, [], 0) ⟨rfl, rfl, trivial⟩ rfl rfl ⟨Le.refl g, Nat.zero_le _, trivial⟩ ?_
      rintro ⟨g1, ov, rs, i⟩ ⟨hle, hi, hrs⟩
      dsimp only at hle hi hrs ⊢
      have hrl := hrs.length
      rw [surf2_length] at hrl
      refine SC.seq (SC.seq (SC.region (SL.M rfl (SL.U (SU.lss rfl rfl) (SL.nil (ST.thenN ?_))))))
      refine SC.ifP rfl (fun hlt => ?_) (fun hlt => ?_)
      · have hi7 : i < 7 := by omega
        refine SC.skip (ST.thenN (SC.seq (SC.block (SC.region (SL.M rfl (SL.M rfl (SL.M rfl (SL.U (SU.add rfl rfl (by omega)) (SL.U (SU.rem rfl rfl (by decide)) (SL.M rfl (SL.U (SU.add rfl rfl (by omega)) (SL.U (SU.rem rfl rfl (by decide)) (SL.W (SO.buildSlice sty45 rfl rfl rfl (szs_mk ⟨rfl, rfl, rfl, trivial⟩) (by decide)) ?_)))))))))))))
        rintro _ _ _ ⟨b39, rfl, rfl, rfl⟩
        refine SL.freeze fun g2 hle2 hb39 => ?_
        refine SL.M rfl (SL.M rfl (SL.U (SU.add rfl rfl (by omega)) (SL.U (SU.rem rfl rfl (by decide)) (SL.M rfl (SL.U (SU.add rfl rfl (by omega)) (SL.U (SU.rem rfl rfl (by decide)) (SL.W (SO.buildSlice sty45 rfl rfl rfl (szs_mk ⟨rfl, rfl, rfl, trivial⟩) (by decide)) ?_)))))))
        rintro _ _ _ ⟨b47, rfl, rfl, rfl⟩
        refine SL.freeze fun g3 hle3 hb47 => ?_
        refine SL.W (SO.buildSlice sty22 rfl rfl rfl (szs_mk ⟨rfl, rfl, trivial⟩) (by decide)) ?_
        rintro _ _ _ ⟨b48, rfl, rfl, rfl⟩
        refine SL.freeze fun g4 hle4 hb48 => ?_
        have hlit : SlA encSv g4 (.slice (some ⟨b48, 0, none⟩) 2 2) [⟨some ⟨b39, 0, none⟩, 3, 3⟩, ⟨some ⟨b47, 0, none⟩, 3, 3⟩] := SlA.lit hb48 rfl rfl
        refine SL.W (SO.appA (e := encSv) 0 sty22 rfl rfl rfl hlit (by (first | with_reducible rfl | ((try dsimp only); (try simp only [List.length_append, List.length_cons, List.length_nil, List.length_singleton, List.length_take, List.length_drop]) <;> omega))) (by (first | with_reducible rfl | ((try dsimp only); (try simp only [List.length_append, List.length_cons, List.length_nil, List.length_singleton, List.length_take, List.length_drop]) <;> omega)))) ?_
        rintro ov' _ _ ⟨rfl, rfl⟩
        refine SL.A rfl (SL.nil (ST.blockN (ST.thenN (SC.region (SL.M rfl (SL.U (SU.add rfl rfl (by omega)) (SL.A rfl (SL.nil ?_))))))))
        refine ST.again (g4, ov', rs ++ [⟨some ⟨b39, 0, none⟩, 3, 3⟩, ⟨some ⟨b47, 0, none⟩, 3, 3⟩], i + 1) ⟨rfl, rfl, trivial⟩ rfl rfl ⟨hle.trans (hle2.trans (hle3.trans hle4)), by (first | with_reducible rfl | ((try dsimp only); (try simp only [List.length_append, List.length_cons, List.length_nil, List.length_singleton, List.length_take, List.length_drop]) <;> omega)), ?_⟩ (by (first | with_reducible rfl | ((try dsimp only); (try simp only [List.length_append, List.length_cons, List.length_nil, List.length_singleton, List.length_take, List.length_drop]) <;> omega)))
        dsimp only
        rw [surf2_succ]
        exact (hrs.mono fun _ _ => ListR.mono (hle2.trans (hle3.trans hle4))).append ⟨SlA.lit (hle4 _ _ (hle3 _ _ hb39)) rfl rfl, SlA.lit (hle4 _ _ hb47) rfl rfl, trivial⟩
      · have hi7 : i = 7 := by omega
        subst hi7
        refine SC.exit (ST.thenX (ST.thenX (ST.blockX (ST.thenN (SC.seq (SC.freezeRow fun g2 hle2 hs2 => ?_))))))
        have hov : Lists g2 ov (surf2 7) := ⟨rs, hs2, hrs.mono fun _ _ => ListR.mono hle2⟩
        refine SC.region (SL.M rfl (SL.A rfl (SL.nil (ST.thenN (SC.ret ?_)))))
        exact ST.ret1 (.inl rfl) results64 rfl ⟨rfl, hle.trans hle2, by unfold surfC; rw [if_neg h0, if_neg h1]; exact hov⟩
end Go.Proofs.YtkdibcicncjpdaaGreat
namespace Go.Proofs.YtkdibcicncjpdaaGreat
open _root_.Go.Proofs.Tryz _root_.Go.Proofs.YtkdibcicncjpdaaGreat.Tryz
open Go Go.Sy Go.Pl Go.Proofs
set_option maxRecDepth 100000
set_option maxHeartbeats 1000000
def polyV (k : Nat) : List Cl := (List.range k).map fun (i : Nat) => ⟨(i : Int) + 1, 0, []⟩
def polyE (n k : Nat) : List Cl := (List.range k).map fun (i : Nat) => ⟨(n : Int) + i + 1, 1, [⟨(i : Int) + 1, -1⟩, ⟨((i : Int) + 1).tmod n + 1, 1⟩]⟩
def polyS (n k : Nat) : List Side := (List.range k).map fun (i : Nat) => ⟨(n : Int) + i + 1, 1⟩
def polyAll (n : Nat) : List Cl := polyV n ++ polyE n n ++ [⟨2 * (n : Int) + 1, 2, polyS n n⟩] ++ (if (n : Int).tmod 2 = 0 then [⟨2 * (n : Int) + 2, 2, polyS n n⟩] else [])
def polyC (n : Nat) : List Cl := canonC (polyAll n)
theorem polyV_succ (k : Nat) : polyV (k + 1) = polyV k ++ [⟨(k : Int) + 1, 0, []⟩] := by simp [polyV, List.range_succ]
theorem polyE_succ (n k : Nat) : polyE n (k + 1) = polyE n k ++ [⟨(n : Int) + k + 1, 1, [⟨(k : Int) + 1, -1⟩, ⟨((k : Int) + 1).tmod n + 1, 1⟩]⟩] := by simp [polyE, List.range_succ]
theorem polyS_succ (n k : Nat) : polyS n (k + 1) = polyS n k ++ [⟨(n : Int) + k + 1, 1⟩] := by simp [polyS, List.range_succ]
theorem polyS_length (n k : Nat) : (polyS n k).length = k := by simp [polyS]
theorem polyAll_fits {n : Nat} (h : n ≤ 6) : Fits (polyAll n) ∧ (polyAll n).length ≤ 14 := by
  have hl : (polyAll n).length ≤ 14 := by
    unfold polyAll
    split <;> simp [polyV, polyE] <;> omega
  refine ⟨⟨by omega, fun c hc => ?_⟩, hl⟩
  unfold polyAll at hc
  rcases List.mem_append.1 hc with hc | hc
  · rcases List.mem_append.1 hc with hc | hc
    · rcases List.mem_append.1 hc with hc | hc
      · obtain ⟨i, _, rfl⟩ := List.mem_map.1 hc
        simp
      · obtain ⟨i, _, rfl⟩ := List.mem_map.1 hc
        simp
    · simp at hc
      subst hc
      simp [polyS_length]
      omega
  · split at hc
    · simp at hc
      subst hc
      simp [polyS_length]
      omega
    · simp at hc
theorem Tryz.buildD51 (x : Int) (w : World) : (Instr.build 51 #[(0, vi x)]).run Tryz.prog w = .ok (.agg #[vi x, vi 0, .slice none 0 0]) w := by
  have hz : (Value.agg #[vi 0, vi 0, Value.slice none 0 0]).cells = #[vi 0, vi 0, .slice none 0 0] := rfl
  have h1 : ∀ z : Int, (vi z).cells = #[vi z] := fun _ => rfl
  simp [Instr.build, Instr.fill, hz, h1]
theorem polygon_spec (E : World) (g : PH) (s : Own) (n : Nat) (h2 : 2 ≤ n) (h6 : n ≤ 6) :
    Ctr Tryz.prog E 65 #[vi n] g s (fun r g' s' => s = s' ∧ Le g g' ∧ ∃ x, r = .agg #[x] ∧ Cells g' x (polyC n)) := by
  have hnn : ((n : Nat) : Int) ≠ 0 := by omega
  refine Ctr.of (args := [vi n]) func65 rfl ntmps65 (Nat.le_of_ble_eq_true rfl) ?_
  refine SC.seq (SC.region (SL.W (SO.alloc zeroValue27) ?_))
  rintro _ _ _ ⟨b2, rfl, rfl, rfl⟩
  refine SL.nil (ST.thenN (SC.seq (SC.region (SL.W (SO.alloc zeroValue27) ?_))))
  rintro _ _ _ ⟨b3, rfl, rfl, rfl⟩
  refine SL.nil (ST.thenN (SC.seq (SC.seq (SC.region (SL.A rfl (SL.nil (ST.thenN (SC.block (SC.nilRow 51 3 ?_)))))))))
  refine SC.loop (ι := Value × List Rc × Nat) (fun i => [(0, vi n), (2, pp b2 0), (3, pp b3 0), (4, vi i.2.2)]) (fun _ => g)
    (fun i => rowA encCell 51 i.1 i.2.1 :: pt b3 (.cells #[i.1] 27 (0, 0)) :: pt b2 (.cells #[.slice none 0 0] 27 (0, 0)) :: s)
    (fun i => i.2.2 ≤ n ∧ All2 (CellR g) (polyV i.2.2) i.2.1) (fun i => n - i.2.2)
    (.slice none 0 0, [], 0) ⟨rfl, rfl, rfl, rfl, trivial⟩ rfl rfl ⟨Nat.zero_le _, trivial⟩ ?_
  rintro ⟨ov, rcs, i⟩ ⟨hi, hrcs⟩
  dsimp only at hi hrcs ⊢
  have hrl := hrcs.length
  simp only [polyV, List.length_map, List.length_range] at hrl
  refine SC.seq (SC.seq (SC.region (SL.M rfl (SL.M rfl (SL.U (SU.lss rfl rfl) (SL.nil (ST.thenN ?_)))))))
  refine SC.ifP rfl (fun hlt => ?_) (fun hlt => ?_)
  · skip
    refine SC.skip (ST.thenN (SC.seq (SC.block (SC.region (SL.U (SU.fieldAddr underlying27 rfl sizeOf25 rfl) (SL.K (SQ.load (v := ov) isAgg25 rfl (CellAt.own 1 rfl rfl)) (SL.M rfl (SL.U (SU.add rfl rfl (by omega)) (SL.U (SU.build rfl (buildD51 _)) (SL.W (SO.buildSlice sty25 rfl rfl rfl (szs_mk (by exact ⟨rfl, trivial⟩)) (by decide)) ?_))))))))))
    rintro _ _ _ ⟨b19, rfl, rfl, rfl⟩
    refine SL.W (SO.app1A (e := encCell) 0 ⟨(i : Int) + 1, 0, ⟨none, 0, 0⟩⟩ sty25 rfl rfl rfl rfl rfl (by omega) (by omega)) ?_
    rintro v20 _ _ ⟨rfl, rfl⟩
    refine SL.facts fun ⟨w0, hw0⟩ => ?_
    obtain ⟨q9, d9, rfl⟩ := rowA_form (i := 0) hw0 rfl
    clear hw0 w0
    refine SL.U (SU.fieldAddr underlying27 rfl sizeOf25 rfl) (SL.on (SO.storeAllK 1 sizeOf25 rfl rfl rfl rfl rfl (by exact ⟨rfl, trivial⟩)) ?_)
    rintro _ _ _ ⟨rfl, rfl⟩
    refine SL.nil (ST.blockN (ST.thenN (SC.region (SL.M rfl (SL.U (SU.add rfl rfl (by omega)) (SL.A rfl (SL.nil ?_)))))))
    refine ST.again (_, rcs ++ [⟨(i : Int) + 1, 0, ⟨none, 0, 0⟩⟩], i + 1) ⟨rfl, rfl, rfl, rfl, trivial⟩ rfl rfl ⟨by (first | with_reducible rfl | ((try dsimp only); (try simp only [List.length_append, List.length_cons, List.length_nil, List.length_singleton, List.length_take, List.length_drop]) <;> omega)), ?_⟩ (by (first | with_reducible rfl | ((try dsimp only); (try simp only [List.length_append, List.length_cons, List.length_nil, List.length_singleton, List.length_take, List.length_drop]) <;> omega)))
    dsimp only
    rw [polyV_succ]
    exact hrcs.append ⟨⟨rfl, rfl, Sl.nil _ _⟩, trivial⟩
  · have hin : i = n := by omega
    subst hin
    refine SC.exit (ST.thenX (ST.thenX (ST.blockX (ST.thenN (SC.seq (SC.region (SL.A rfl (SL.nil (ST.thenN (SC.seq (SC.seq (SC.region (SL.A rfl (SL.nil (ST.thenN (SC.block (SC.nilRow 55 2 ?_)))))))))))))))))
    refine SC.loop (ι := PH × Value × List Rc × Value × Nat) (fun k => [(0, vi i), (2, pp b2 0), (3, pp b3 0), (5, k.2.2.2.1), (6, vi k.2.2.2.2)]) (fun k => k.1)
      (fun k => rowA encSide 55 k.2.2.2.1 (polyS i k.2.2.2.2) :: rowA encCell 51 k.2.1 k.2.2.1 :: pt b3 (.cells #[k.2.1] 27 (0, 0)) :: pt b2 (.cells #[.slice none 0 0] 27 (0, 0)) :: s)
      (fun k => Le g k.1 ∧ k.2.2.2.2 ≤ i ∧ All2 (CellR k.1) (polyV i ++ polyE i k.2.2.2.2) k.2.2.1) (fun k => i - k.2.2.2.2)
      (g, ov, rcs, .slice none 0 0, 0) ⟨rfl, rfl, rfl, rfl, rfl, trivial⟩ rfl rfl ⟨Le.refl g, Nat.zero_le _, by simpa [polyE] using hrcs⟩ ?_
    rintro ⟨g1, ov1, rcs1, sv, k⟩ ⟨hle1, hk, hrcs1⟩
    dsimp only at hle1 hk hrcs1 ⊢
    have hrl1 := hrcs1.length
    simp only [polyV, polyE, List.length_append, List.length_map, List.length_range] at hrl1
    have hsl := polyS_length i k
    refine SC.seq (SC.seq (SC.region (SL.M rfl (SL.M rfl (SL.U (SU.lss rfl rfl) (SL.nil (ST.thenN ?_)))))))
    refine SC.ifP rfl (fun hlt2 => ?_) (fun hlt2 => ?_)
    · have hkm : 0 ≤ ((k : Int) + 1).tmod i ∧ ((k : Int) + 1).tmod i < i := by
        rw [Int.tmod_eq_emod_of_nonneg (by omega)]
        exact ⟨Int.emod_nonneg _ hnn, Int.emod_lt_of_pos _ (by omega)⟩
      refine SC.skip (ST.thenN (SC.seq (SC.block (SC.seq (SC.region (SL.M rfl (SL.U (SU.add rfl rfl (by omega)) (SL.U (SU.build rfl (buildS55 _ _)) (SL.W (SO.alloc zeroValue55) ?_)))))))))
      rintro _ _ _ ⟨b7, rfl, rfl, rfl⟩
      refine SL.on (SO.storeAllK 0 sizeOf55 rfl rfl rfl rfl rfl (by exact ⟨rfl, rfl, trivial⟩)) ?_
      rintro _ _ _ ⟨rfl, rfl⟩
      refine SL.nil (ST.thenN (SC.seq (SC.region (SL.M rfl (SL.U (SU.add rfl rfl (by omega)) (SL.M rfl (SL.U (SU.rem rfl rfl hnn) (SL.U (SU.add rfl rfl (by omega)) (SL.U (SU.build rfl (buildS55 _ _)) (SL.W (SO.alloc zeroValue55) ?_))))))))))
      rintro _ _ _ ⟨b8, rfl, rfl, rfl⟩
      refine SL.on (SO.storeAllK 0 sizeOf55 rfl rfl rfl rfl rfl (by exact ⟨rfl, rfl, trivial⟩)) ?_
      rintro _ _ _ ⟨rfl, rfl⟩
      refine SL.nil (ST.thenN (SC.seq ?_))
      refine SC.to (fun w hw => hw) (g' := g1) (s' := pt b8 (.cells #[vi (((k : Int) + 1).tmod i + 1), vi 1] 55 (0, 0)) :: pt b7 (.cells #[vi ((k : Int) + 1), vi (-1)] 55 (0, 0)) :: rowA encSide 55 sv (polyS i k) :: rowA encCell 51 ov1 rcs1 :: pt b3 (.cells #[ov1] 27 (0, 0)) :: pt b2 (.cells #[.slice none 0 0] 27 (0, 0)) :: s) ?_
      refine SC.region (SL.U (SU.fieldAddr underlying27 rfl sizeOf25 rfl) (SL.K (SQ.load (v := ov1) isAgg25 rfl (CellAt.own 4 rfl rfl)) (SL.M rfl (SL.M rfl (SL.U (SU.add rfl rfl (by omega)) (SL.U (SU.add rfl rfl (by omega)) (SL.K (SQ.loadVarK 1 isAgg55 sizeOf55 rfl rfl rfl) (SL.K (SQ.loadVarK 0 isAgg55 sizeOf55 rfl rfl rfl) (SL.W (SO.buildSlice sty49 rfl rfl rfl (szs_mk ⟨rfl, rfl, trivial⟩) (by decide)) ?_)))))))))
      rintro _ _ _ ⟨b44, rfl, rfl, rfl⟩
      refine SL.freeze fun g2 hle2 hb44 => ?_
      have hsd : SlA encSide g2 (.slice (some ⟨b44, 0, none⟩) 2 2) [⟨(k : Int) + 1, -1⟩, ⟨((k : Int) + 1).tmod i + 1, 1⟩] := SlA.lit hb44 rfl rfl
      refine SL.U (SU.build rfl (buildF51 _ _ _ rfl)) (SL.W (SO.buildSlice sty25 rfl rfl rfl (szs_mk (by exact ⟨rfl, trivial⟩)) (by decide)) ?_)
      rintro _ _ _ ⟨b46, rfl, rfl, rfl⟩
      refine SL.W (SO.app1A (e := encCell) 3 ⟨(i : Int) + k + 1, 1, ⟨some ⟨b44, 0, none⟩, 2, 2⟩⟩ sty25 rfl rfl rfl rfl rfl (by omega) (by omega)) ?_
      rintro v47 _ _ ⟨rfl, rfl⟩
      refine SL.facts fun ⟨w0, hw0⟩ => ?_
      obtain ⟨q9, d9, rfl⟩ := rowA_form (i := 3) hw0 rfl
      clear hw0 w0
      refine SL.U (SU.fieldAddr underlying27 rfl sizeOf25 rfl) (SL.on (SO.storeAllK 4 sizeOf25 rfl rfl rfl rfl rfl (by exact ⟨rfl, trivial⟩)) ?_)
      rintro _ _ _ ⟨rfl, rfl⟩
      refine SL.nil (ST.thenN (SC.region (SL.M rfl (SL.M rfl (SL.M rfl (SL.U (SU.add rfl rfl (by omega)) (SL.U (SU.add rfl rfl (by omega)) (SL.U (SU.build rfl (buildS55 _ _)) (SL.W (SO.buildSlice sty49 rfl rfl rfl (szs_mk (by exact ⟨rfl, trivial⟩)) (by decide)) ?_)))))))))
      rintro _ _ _ ⟨b55, rfl, rfl, rfl⟩
      refine SL.W (SO.app1A (e := encSide) 2 ⟨(i : Int) + k + 1, 1⟩ sty49 rfl rfl rfl rfl rfl (by omega) (by omega)) ?_
      rintro v56 _ _ ⟨rfl, rfl⟩
      refine SL.A rfl (SL.nil (ST.blockN (ST.thenN (SC.region (SL.M rfl (SL.U (SU.add rfl rfl (by omega)) (SL.A rfl (SL.nil (ST.drop (s' := rowA encSide 55 v56 (polyS i k ++ [⟨(i : Int) + k + 1, 1⟩]) :: rowA encCell 51 (.slice q9 (rcs1 ++ [(⟨(i : Int) + k + 1, 1, ⟨some ⟨b44, 0, none⟩, 2, 2⟩⟩ : Rc)]).length d9) (rcs1 ++ [⟨(i : Int) + k + 1, 1, ⟨some ⟨b44, 0, none⟩, 2, 2⟩⟩]) :: pt b3 (.cells #[.slice q9 (rcs1 ++ [(⟨(i : Int) + k + 1, 1, ⟨some ⟨b44, 0, none⟩, 2, 2⟩⟩ : Rc)]).length d9] 27 (0, 0)) :: pt b2 (.cells #[.slice none 0 0] 27 (0, 0)) :: s) (.cons _ (.cons _ (.refl _))) ?_)))))))))
      rw [← polyS_succ]
      refine ST.again (g2, _, rcs1 ++ [⟨(i : Int) + k + 1, 1, ⟨some ⟨b44, 0, none⟩, 2, 2⟩⟩], v56, k + 1) ⟨rfl, rfl, rfl, rfl, rfl, trivial⟩ rfl rfl ⟨hle1.trans hle2, by (first | with_reducible rfl | ((try dsimp only); (try simp only [List.length_append, List.length_cons, List.length_nil, List.length_singleton, List.length_take, List.length_drop]) <;> omega)), ?_⟩ (by (first | with_reducible rfl | ((try dsimp only); (try simp only [List.length_append, List.length_cons, List.length_nil, List.length_singleton, List.length_take, List.length_drop]) <;> omega)))
      dsimp only
      rw [polyE_succ, ← List.append_assoc]
      exact (hrcs1.mono fun _ _ => CellR.mono hle2).append ⟨⟨rfl, rfl, hsd⟩, trivial⟩
    · have hki : k = i := by omega
      subst hki
      refine SC.exit (ST.thenX (ST.thenX (ST.blockX (ST.thenN (SC.seq (SC.freezeRow fun g2 hle2 hs2 => ?_))))))
      have hsd : SlA encSide g2 sv (polyS k k) := hs2
      obtain ⟨qs, ds, rfl⟩ := SlA.form hsd
      have hrcs2 := hrcs1.mono fun _ _ => CellR.mono hle2
      refine SC.region (SL.U (SU.fieldAddr underlying27 rfl sizeOf25 rfl) (SL.K (SQ.load (v := ov1) isAgg25 rfl (CellAt.own 1 rfl rfl)) (SL.M rfl (SL.U (SU.mul rfl rfl (by omega)) (SL.U (SU.add rfl rfl (by omega)) (SL.M rfl (SL.U (SU.build rfl (buildF51 _ _ _ rfl)) (SL.W (SO.buildSlice sty25 rfl rfl rfl (szs_mk (by exact ⟨rfl, trivial⟩)) (by decide)) ?_))))))))
      rintro _ _ _ ⟨b64, rfl, rfl, rfl⟩
      refine SL.W (SO.app1A (e := encCell) 0 ⟨2 * (k : Int) + 1, 2, ⟨qs, (polyS k k).length, ds⟩⟩ sty25 rfl rfl rfl rfl rfl (by omega) (by omega)) ?_
      rintro v65 _ _ ⟨rfl, rfl⟩
      refine SL.facts fun ⟨w0, hw0⟩ => ?_
      obtain ⟨q9, d9, rfl⟩ := rowA_form (i := 0) hw0 rfl
      clear hw0 w0
      refine SL.U (SU.fieldAddr underlying27 rfl sizeOf25 rfl) (SL.on (SO.storeAllK 1 sizeOf25 rfl rfl rfl rfl rfl (by exact ⟨rfl, trivial⟩)) ?_)
      rintro _ _ _ ⟨rfl, rfl⟩
      refine SL.nil (ST.thenN (SC.seq (SC.seq (SC.region (SL.M rfl (SL.U (SU.rem rfl rfl (by decide)) (SL.U (SU.eql rfl rfl) (SL.nil (ST.thenN ?_)))))))))
      have hrcs3 : All2 (CellR g2) (polyV k ++ polyE k k ++ [⟨2 * (k : Int) + 1, 2, polyS k k⟩]) (rcs1 ++ [⟨2 * (k : Int) + 1, 2, ⟨qs, (polyS k k).length, ds⟩⟩]) := hrcs2.append ⟨⟨rfl, rfl, hsd⟩, trivial⟩
      obtain ⟨rc3, hrc3⟩ : ∃ rc3, rc3 = rcs1 ++ [(⟨2 * (k : Int) + 1, 2, ⟨qs, (polyS k k).length, ds⟩⟩ : Rc)] := ⟨_, rfl⟩
      have hrc3l : rc3.length = rcs1.length + 1 := by rw [hrc3]; simp
      rw [← hrc3] at hrcs3 ⊢
      have hfit := (polyAll_fits h6).1
      refine SC.ifP rfl (fun hev => ?_) (fun hev => ?_)
      · have hall : polyAll k = polyV k ++ polyE k k ++ [⟨2 * (k : Int) + 1, 2, polyS k k⟩] ++ [⟨2 * (k : Int) + 2, 2, polyS k k⟩] := by unfold polyAll; rw [if_pos hev]
        refine SC.draw [10, 11, 12] [(0, 2), (1, 1), (2, 2), (3, 2), (4, 2), (6, 2), (5, 0), (7, 0), (8, 2), (9, 0), (10, 0), (11, 0), (12, 0)] Tryz.mixed (by kernel_rfl) ?_
        refine SP.U (i := 0) rfl (SU.fieldAddr underlying27 rfl sizeOf25 rfl) (SP.K (i := 1) rfl (SQ.load (v := .slice q9 rc3.length d9) isAgg25 rfl (CellAt.own 1 rfl rfl)) (SP.U (i := 2) rfl (SU.move rfl) (SP.U (i := 3) rfl (SU.mul rfl rfl (by omega)) (SP.U (i := 4) rfl (SU.add rfl rfl (by omega)) (SP.U (i := 6) rfl (SU.move rfl) (SP.o (i := 5) rfl (SO.buildSlice sty49 rfl rfl rfl (szs_mk trivial) (by decide)) (by decide) (.inr (by rintro _ _ _ ⟨b75, rfl, rfl, rfl⟩; exact ⟨by exact Le.refl _, (by exact .cons _ (.refl _))⟩)) ?_))))))
        rintro _ _ _ ⟨b75, rfl, rfl, rfl⟩
        refine SP.to (fun w hw => (hw.sublist (List.Sublist.cons _ (.refl _))).emptyRow 55 2 (some ⟨b75, 0, none⟩)) ?_
        refine SP.o (i := 7) rfl (SO.appA (e := encSide) (l := []) 0 sty49 rfl rfl rfl hsd (by (first | with_reducible rfl | ((try dsimp only); (try simp only [List.length_append, List.length_cons, List.length_nil, List.length_singleton, List.length_take, List.length_drop]) <;> omega))) (by (first | with_reducible rfl | ((try dsimp only); (try simp only [List.length_append, List.length_cons, List.length_nil, List.length_singleton, List.length_take, List.length_drop]) <;> omega)))) (by decide) (.inr (by rintro v77 _ _ ⟨rfl, rfl⟩; exact ⟨by exact Le.refl _, (by exact .cons _ (.refl _))⟩)) ?_
        rintro v77 _ _ ⟨rfl, rfl⟩
        refine SP.freezeRow fun g77 hle77 hs77 => ?_
        have hsd2 : SlA encSide g77 v77 ([] ++ polyS k k) := hs77
        rw [List.nil_append] at hsd2
        obtain ⟨q77, d77, rfl⟩ := SlA.form hsd2
        refine SP.U (i := 8) rfl (SU.build rfl (buildF51 _ _ _ rfl)) (SP.o (i := 9) rfl (SO.buildSlice sty25 rfl rfl rfl (szs_mk (by exact ⟨rfl, trivial⟩)) (by decide)) (by decide) (.inr (by rintro _ _ _ ⟨b79, rfl, rfl, rfl⟩; exact ⟨by assumption, (by exact .cons _ (.refl _))⟩)) ?_)
        rintro _ _ _ ⟨b79, rfl, rfl, rfl⟩
        refine SP.o (i := 10) rfl (SO.app1A (e := encCell) (l := rc3) 0 ⟨2 * (k : Int) + 2, 2, ⟨q77, (polyS k k).length, d77⟩⟩ sty25 rfl rfl rfl rfl rfl (by omega) (by omega)) (by decide) (.inl (by decide)) ?_
        rintro v80 _ _ ⟨rfl, rfl⟩
        refine SP.facts fun ⟨w0, hw0⟩ => ?_
        obtain ⟨q10, d10, rfl⟩ := rowA_form (i := 0) hw0 rfl
        clear hw0 w0
        refine SP.ou (i := 11) rfl (SU.fieldAddr underlying27 rfl sizeOf25 rfl) (by decide) (.inl (by decide)) (SP.on (i := 12) rfl (SO.storeAllK 1 sizeOf25 rfl rfl rfl rfl rfl (by exact ⟨rfl, trivial⟩)) (.inl (by decide)) ?_)
        rintro _ _ _ ⟨rfl, rfl⟩
        refine SP.nil (ST.thenN (SC.seq (SC.freezeRow fun g78 hle78 hs78 => ?_)))
        have hov : Cells g78 (.slice q10 (rc3 ++ [(⟨2 * (k : Int) + 2, 2, ⟨q77, (polyS k k).length, d77⟩⟩ : Rc)]).length d10) (polyAll k) := (by rw [hall]; exact ⟨_, hs78, (hrcs3.mono fun _ _ => CellR.mono (hle77.trans hle78)).append ⟨⟨rfl, rfl, hsd2.mono hle78⟩, trivial⟩⟩)
        refine SC.region (SL.K (SQ.loadVarK 0 isAgg27 sizeOf27 rfl rfl rfl) (SL.W (SO.call call63 rfl (refCanon_spec E g78 _ _ (polyAll k) hov hfit)) ?_))
        rintro _ g79 _ ⟨rfl, hle79, x79, rfl, hx79⟩
        obtain ⟨q79, d79, rfl⟩ := hx79.form
        refine SL.on (SO.storeAllK 1 sizeOf27 rfl rfl rfl rfl rfl (by exact ⟨rfl, trivial⟩)) ?_
        rintro _ _ _ ⟨rfl, rfl⟩
        refine SL.nil (ST.thenN (SC.ret ?_))
        exact ST.retCD 1 s (.inl rfl) results65 rfl isAgg27 sizeOf27 rfl rfl (.cons _ (.cons _ (.refl _))) ⟨rfl, hle1.trans (hle2.trans (hle77.trans (hle78.trans hle79))), _, rfl, hx79⟩
      · have hall : polyAll k = polyV k ++ polyE k k ++ [⟨2 * (k : Int) + 1, 2, polyS k k⟩] := by unfold polyAll; rw [if_neg hev, List.append_nil]
        refine SC.skip (ST.thenN (SC.seq (SC.freezeRow fun g78 hle78 hs78 => ?_)))
        have hov : Cells g78 (.slice q9 rc3.length d9) (polyAll k) := (by rw [hall]; exact ⟨_, hs78, hrcs3.mono fun _ _ => CellR.mono hle78⟩)
        refine SC.region (SL.K (SQ.loadVarK 0 isAgg27 sizeOf27 rfl rfl rfl) (SL.W (SO.call call63 rfl (refCanon_spec E g78 _ _ (polyAll k) hov hfit)) ?_))
        rintro _ g79 _ ⟨rfl, hle79, x79, rfl, hx79⟩
        obtain ⟨q79, d79, rfl⟩ := hx79.form
        refine SL.on (SO.storeAllK 1 sizeOf27 rfl rfl rfl rfl rfl (by exact ⟨rfl, trivial⟩)) ?_
        rintro _ _ _ ⟨rfl, rfl⟩
        refine SL.nil (ST.thenN (SC.ret ?_))
        exact ST.retCD 1 s (.inl rfl) results65 rfl isAgg27 sizeOf27 rfl rfl (.cons _ (.cons _ (.refl _))) ⟨rfl, hle1.trans (hle2.trans (hle78.trans hle79)), _, rfl, hx79⟩
end Go.Proofs.YtkdibcicncjpdaaGreat
namespace Go.Proofs.YtkdibcicncjpdaaGreat
open _root_.Go.Proofs.Tryz _root_.Go.Proofs.YtkdibcicncjpdaaGreat.Tryz
open Go Go.Sy Go.Pl Go.Proofs
set_option maxRecDepth 100000
set_option maxHeartbeats 1000000
theorem modW_range (a b : Int) (h0 : 0 < b) (h1 : b ≤ 1000) : 0 ≤ modW a b ∧ modW a b < b := by
  have h2 : a.tmod b < b := Int.tmod_lt_of_pos a h0
  have h3 : -b < a.tmod b := by
    have := Int.lt_tmod_of_pos a h0
    omega
  unfold modW
  rw [IntWalk.i64_in _ (by omega), Int.tmod_eq_emod_of_nonneg (by omega)]
  exact ⟨Int.emod_nonneg _ (by omega), Int.emod_lt_of_pos _ h0⟩
def renK (y : Int) : Int := 1 + 2 * modW (IntKind.i64.wrap (y.tdiv 7)) 3
def renT (y : Int) : Int := modW (IntKind.i64.wrap (y.tdiv 5)) 4
def turn1 (t : Int) (x : Cl) : Bool := decide (t > 1) && decide (x.id.tmod t = 1)
def turn2 (t : Int) (x : Cl) (q : Int) : Bool := (decide (t > 1) && decide (x.dim > 1)) && decide (q.tmod t = 1)
def negIf (b : Bool) (a : Int) : Int := if b then IntKind.i64.wrap (0 - a) else a
def renSide (k t : Int) (x : Cl) (q : Side) : Side := ⟨mixC q.cell k, negIf (turn2 t x q.cell) (negIf (turn1 t x) q.sign)⟩
def renCell (k t : Int) (x : Cl) : Cl := ⟨mixC x.id k, x.dim, x.sides.map (renSide k t x)⟩
def renC (l : List Cl) (y : Int) : List Cl := canonC (l.map (renCell (renK y) (renT y)))
theorem ren_fits {l : List Cl} (h : Fits l) (k t : Int) : Fits (l.map (renCell k t)) := by
  refine ⟨by simpa using h.1, fun c hc => ?_⟩
  obtain ⟨x, hx, rfl⟩ := List.mem_map.1 hc
  simpa [renCell] using h.2 x hx
theorem renumbered_spec (E : World) (g : PH) (s : Own) (v : Value) (l : List Cl) (y : Int) (hv : Cells g v l) (hf : Fits l) :
    Ctr Tryz.prog E 67 #[.agg #[v], vi y] g s (fun r g' s' => s = s' ∧ Le g g' ∧ ∃ x, r = .agg #[x] ∧ Cells g' x (renC l y)) := by
  obtain ⟨rs, hrs, hall⟩ := hv
  have el := hall.length
  obtain ⟨p, c, rfl⟩ := hrs.form
  have hll := hf.1
  have hk3 := modW_range (IntKind.i64.wrap (y.tdiv 7)) 3 (by decide) (by decide)
  have ht4 := modW_range (IntKind.i64.wrap (y.tdiv 5)) 4 (by decide) (by decide)
  refine Ctr.of (args := [.agg #[.slice p rs.length c], vi y]) func67 rfl ntmps67 (Nat.le_of_ble_eq_true rfl) ?_
  refine SC.seq (SC.region (SL.W (SO.box rfl) ?_))
  rintro _ _ _ ⟨b2, rfl, rfl, rfl⟩
  refine SL.W (SO.alloc zeroValue27) ?_
  rintro _ _ _ ⟨b4, rfl, rfl, rfl⟩
  refine SL.nil (ST.thenN (SC.seq (SC.region (SL.M rfl (SL.U (SU.quo rfl rfl (by decide)) (SL.W (SO.call call38 rfl (mod_spec E g _ _ 3 (by decide))) ?_))))))
  rintro _ _ _ ⟨rfl, rfl, rfl⟩
  refine SL.U (SU.mul rfl rfl (by omega)) (SL.U (SU.add rfl rfl (by omega)) (SL.A rfl (SL.nil (ST.thenN (SC.seq (SC.region (SL.M rfl (SL.U (SU.quo rfl rfl (by decide)) (SL.W (SO.call call38 rfl (mod_spec E g _ _ 4 (by decide))) ?_)))))))))
  rintro _ _ _ ⟨rfl, rfl, rfl⟩
  refine SL.A rfl (SL.nil (ST.thenN (SC.seq (SC.region (SL.W (SO.alloc zeroValue27) ?_)))))
  rintro _ _ _ ⟨b7, rfl, rfl, rfl⟩
  refine SL.nil (ST.thenN (SC.seq (SC.seq (SC.region (SL.A rfl (SL.nil (ST.thenN (SC.block (SC.nilRow 51 3 ?_)))))))))
  have hke : 1 + 2 * modW (IntKind.i64.wrap (y.tdiv 7)) 3 = renK y := rfl
  have hte : modW (IntKind.i64.wrap (y.tdiv 5)) 4 = renT y := rfl
  rw [hte] at ht4
  unfold renC
  simp only [hke, hte]
  generalize renK y = k at *
  generalize renT y = t at *
  refine SC.loop (ι := PH × Value × List Rc × Nat) (fun i => [(2, pp b2 0), (4, pp b4 0), (5, vi k), (6, vi t), (7, pp b7 0), (8, vi i.2.2.2)]) (fun i => i.1) (fun i => rowA encCell 51 i.2.1 i.2.2.1 :: pt b7 (.cells #[i.2.1] 27 (0, 0)) :: pt b4 (.cells #[.slice none 0 0] 27 (0, 0)) :: pt b2 (.cells #[.slice p rs.length c] 27 (0, 0)) :: s)
    (fun i => Le g i.1 ∧ i.2.2.2 ≤ rs.length ∧ All2 (CellR i.1) ((l.take i.2.2.2).map (renCell k t)) i.2.2.1) (fun i => rs.length - i.2.2.2)
    (g, .slice none 0 0, [], 0) ⟨rfl, rfl, rfl, rfl, rfl, rfl, trivial⟩ rfl rfl ⟨Le.refl g, Nat.zero_le _, trivial⟩ ?_
  rintro ⟨g1, ov, rcs, i⟩ ⟨hle, hi, hrcs⟩
  dsimp only at hle hi hrcs ⊢
  have hrl := hrcs.length
  rw [List.length_map, List.length_take] at hrl
  refine SC.seq (SC.seq (SC.region (SL.M rfl (SL.U (SU.fieldAddr underlying27 rfl sizeOf25 rfl) (SL.K (SQ.load (v := .slice p rs.length c) isAgg25 rfl (CellAt.own 3 rfl rfl)) (SL.U (SU.lenN underlying25 rfl) (SL.U (SU.lss rfl rfl) (SL.nil (ST.thenN ?_)))))))))
  refine SC.ifP rfl (fun hlt => ?_) (fun hlt => ?_)
  · have hil : i < l.length := by omega
    have hir : i < rs.length := by omega
    have hb1 := hrs.based (by omega)
    have hxr := (hall.get (List.getElem?_eq_getElem hil) (List.getElem?_eq_getElem hir)).mono hle
    have hgx : rs[((i : Nat) : Int).toNat]? = some rs[i] := List.getElem?_eq_getElem hir
    have hsucc := map_take_succ hil (renCell k t)
    have hxl := hf.2 _ (List.getElem_mem hil)
    generalize hxe : l[i] = x at *
    obtain ⟨xp, xcap, hrx, hxs⟩ := cellR_form hxr
    rw [hrx] at hgx
    refine SC.skip (ST.thenN (SC.seq (SC.block (SC.seq (SC.region (SL.U (SU.fieldAddr underlying27 rfl sizeOf25 rfl) (SL.K (SQ.load (v := .slice p rs.length c) isAgg25 rfl (CellAt.own 3 rfl rfl)) (SL.M rfl (SL.U (SU.indexAddr underlying25 sizeOf51 rfl rfl hb1 (by omega) (by simp only [slen]; omega)) (SL.K (SQ.elemA isAgg51 sizeOf51 rfl (hrs.mono hle).rd hgx) (SL.W (SO.alloc zeroValue51) ?_)))))))))))
    rintro _ _ _ ⟨b9, rfl, rfl, rfl⟩
    refine SL.on (SO.storeAllK 0 sizeOf51 rfl rfl rfl rfl rfl (by exact ⟨rfl, rfl, rfl, trivial⟩)) ?_
    rintro _ _ _ ⟨rfl, rfl⟩
    refine SL.nil (ST.thenN ?_)
    refine SC.to (fun w hw => hw) (g' := g1) (s' := pt b9 (.cells #[vi x.id, vi x.dim, .slice xp x.sides.length xcap] 51 (0, 0)) :: rowA encCell 51 ov rcs :: pt b7 (.cells #[ov] 27 (0, 0)) :: pt b4 (.cells #[.slice none 0 0] 27 (0, 0)) :: pt b2 (.cells #[.slice p rs.length c] 27 (0, 0)) :: s) ?_
    refine SC.cut (ι := Nat) (fun b10 => [(2, pp b2 0), (4, pp b4 0), (5, vi k), (6, vi t), (7, pp b7 0), (8, vi i), (9, pp b9 0), (10, pp b10 0)]) (fun _ => g1) (fun b10 => pt b10 (.cells #[vi (mixC x.id k), vi x.dim, .slice none 0 0] 51 (0, 0)) :: pt b9 (.cells #[vi x.id, vi x.dim, .slice xp x.sides.length xcap] 51 (0, 0)) :: rowA encCell 51 ov rcs :: pt b7 (.cells #[ov] 27 (0, 0)) :: pt b4 (.cells #[.slice none 0 0] 27 (0, 0)) :: pt b2 (.cells #[.slice p rs.length c] 27 (0, 0)) :: s) (fun _ => True) ?_ ?_
    · skip
      refine SC.drawX [] Tryz.mixed (by kernel_rfl) ?_
      refine SX.u (i := 0) rfl (by kernel_rfl) (SU.fieldAddr underlying51 rfl sizeOf3 rfl) (by decide) (SX.q (i := 1) rfl (by kernel_rfl) (SQ.load (v := vi x.id) isAgg3 rfl (CellAt.own 0 rfl rfl)) (by decide) (SX.u (i := 2) rfl (by kernel_rfl) (SU.move rfl) (by decide) (SX.u (i := 4) rfl (by kernel_rfl) (SU.fieldAddr underlying51 rfl sizeOf3 rfl) (by decide) (SX.q (i := 5) rfl (by kernel_rfl) (SQ.load (v := vi x.dim) isAgg3 rfl (CellAt.own 0 rfl rfl)) (by decide) ?_))))
      refine SX.br2 3 7 (by kernel_rfl) ?_ ?_
      · skip
        refine SB.o (i := 3) rfl (SO.call call98 rfl (mixed_spec E g1 _ x.id k)) (by decide) (.inr (by rintro _ _ _ ⟨rfl, rfl, rfl⟩; exact ⟨by exact Le.refl _, (by exact .refl _)⟩)) ?_
        rintro _ _ _ ⟨rfl, rfl, rfl⟩
        refine SX.u (i := 6) rfl (by kernel_rfl) (SU.build rfl (buildC51 _ _)) (by decide) ?_
        refine SX.br1 7 (by kernel_rfl) ?_
        · skip
          refine SB.o (i := 7) rfl (SO.alloc zeroValue51) (by decide) (.inr (by rintro _ _ _ ⟨b10, rfl, rfl, rfl⟩; exact ⟨by exact Le.refl _, (by exact .cons _ (.refl _))⟩)) ?_
          rintro _ _ _ ⟨b10, rfl, rfl, rfl⟩
          refine SX.br1 8 (by kernel_rfl) ?_
          · skip
            refine SB.on (i := 8) rfl (SO.storeAllK 0 sizeOf51 rfl rfl rfl rfl rfl (by exact ⟨rfl, rfl, rfl, trivial⟩)) (.inr (by rintro _ _ _ ⟨rfl, rfl⟩; exact ⟨by exact Le.refl _, (by exact .cons _ (.refl _))⟩)) ?_
            rintro _ _ _ ⟨rfl, rfl⟩
            refine SX.nil (by kernel_rfl) ?_
            exact ST.mid b10 ⟨rfl, rfl, rfl, rfl, rfl, rfl, rfl, rfl, trivial⟩ rfl rfl trivial
      · skip
        refine SB.o (i := 7) rfl (SO.alloc zeroValue51) (by decide) (.inr (by rintro _ _ _ ⟨b10, rfl, rfl, rfl⟩; exact ⟨by exact Le.refl _, (by exact .cons _ (.refl _))⟩)) ?_
        rintro _ _ _ ⟨b10, rfl, rfl, rfl⟩
        refine SX.br1 3 (by kernel_rfl) ?_
        · skip
          refine SB.o (i := 3) rfl (SO.call call98 rfl (mixed_spec E g1 _ x.id k)) (by decide) (.inr (by rintro _ _ _ ⟨rfl, rfl, rfl⟩; exact ⟨by exact Le.refl _, (by exact .cons _ (.refl _))⟩)) ?_
          rintro _ _ _ ⟨rfl, rfl, rfl⟩
          refine SX.u (i := 6) rfl (by kernel_rfl) (SU.build rfl (buildC51 _ _)) (by decide) ?_
          refine SX.br1 8 (by kernel_rfl) ?_
          · skip
            refine SB.on (i := 8) rfl (SO.storeAllK 0 sizeOf51 rfl rfl rfl rfl rfl (by exact ⟨rfl, rfl, rfl, trivial⟩)) (.inr (by rintro _ _ _ ⟨rfl, rfl⟩; exact ⟨by exact Le.refl _, (by exact .cons _ (.refl _))⟩)) ?_
            rintro _ _ _ ⟨rfl, rfl⟩
            refine SX.nil (by kernel_rfl) ?_
            exact ST.mid b10 ⟨rfl, rfl, rfl, rfl, rfl, rfl, rfl, rfl, trivial⟩ rfl rfl trivial
    rintro b10 -
    try dsimp only
    refine SC.nilRow 55 2 (SC.seq (SC.seq (SC.region (SL.A rfl (SL.nil (ST.thenN (SC.block ?_)))))))
    refine SC.loop (ι := Value × Nat) (fun j => [(2, pp b2 0), (4, pp b4 0), (5, vi k), (6, vi t), (7, pp b7 0), (8, vi i), (9, pp b9 0), (10, pp b10 0), (11, vi j.2)]) (fun _ => g1) (fun j => rowA encSide 55 j.1 ((x.sides.take j.2).map (renSide k t x)) :: pt b10 (.cells #[vi (mixC x.id k), vi x.dim, j.1] 51 (0, 0)) :: pt b9 (.cells #[vi x.id, vi x.dim, .slice xp x.sides.length xcap] 51 (0, 0)) :: rowA encCell 51 ov rcs :: pt b7 (.cells #[ov] 27 (0, 0)) :: pt b4 (.cells #[.slice none 0 0] 27 (0, 0)) :: pt b2 (.cells #[.slice p rs.length c] 27 (0, 0)) :: s)
      (fun j => j.2 ≤ x.sides.length) (fun j => x.sides.length - j.2) (.slice none 0 0, 0) ⟨rfl, rfl, rfl, rfl, rfl, rfl, rfl, rfl, rfl, trivial⟩ rfl rfl (Nat.zero_le _) ?_
    rintro ⟨sv, j⟩ hj
    dsimp only at hj ⊢
    refine SC.seq (SC.seq (SC.region (SL.M rfl (SL.U (SU.fieldAddr underlying51 rfl sizeOf49 rfl) (SL.K (SQ.load (v := .slice xp x.sides.length xcap) isAgg49 rfl (CellAt.own 2 rfl rfl)) (SL.U (SU.lenN underlying49 rfl) (SL.U (SU.lss rfl rfl) (SL.nil (ST.thenN ?_)))))))))
    refine SC.ifP rfl (fun hlt2 => ?_) (fun hlt2 => ?_)
    · have hjl : j < x.sides.length := by omega
      have hb3 := hxs.based (by omega)
      have hjx : x.sides[((j : Nat) : Int).toNat]? = some x.sides[j] := List.getElem?_eq_getElem hjl
      have hjs := map_take_succ hjl (renSide k t x)
      generalize x.sides[j] = z at *
      refine SC.skip (ST.thenN (SC.seq (SC.block ?_)))
      refine SC.cut (ι := Nat) (fun b12 => [(2, pp b2 0), (4, pp b4 0), (5, vi k), (6, vi t), (7, pp b7 0), (8, vi i), (9, pp b9 0), (10, pp b10 0), (11, vi j), (12, pp b12 0)]) (fun _ => g1) (fun b12 => pt b12 (.cells #[vi (mixC z.cell k), vi z.sign] 55 (0, 0)) :: rowA encSide 55 sv ((x.sides.take j).map (renSide k t x)) :: pt b10 (.cells #[vi (mixC x.id k), vi x.dim, sv] 51 (0, 0)) :: pt b9 (.cells #[vi x.id, vi x.dim, .slice xp x.sides.length xcap] 51 (0, 0)) :: rowA encCell 51 ov rcs :: pt b7 (.cells #[ov] 27 (0, 0)) :: pt b4 (.cells #[.slice none 0 0] 27 (0, 0)) :: pt b2 (.cells #[.slice p rs.length c] 27 (0, 0)) :: s) (fun _ => True) ?_ ?_
      · skip
        refine SC.drawX [] Tryz.mixed (by kernel_rfl) ?_
        refine SX.u (i := 0) rfl (by kernel_rfl) (SU.fieldAddr underlying51 rfl sizeOf49 rfl) (by decide) (SX.q (i := 1) rfl (by kernel_rfl) (SQ.load (v := .slice xp x.sides.length xcap) isAgg49 rfl (CellAt.own 2 rfl rfl)) (by decide) (SX.u (i := 2) rfl (by kernel_rfl) (SU.move rfl) (by decide) (SX.u (i := 3) rfl (by kernel_rfl) (SU.indexAddr underlying49 sizeOf55 rfl rfl hb3 (by omega) (by simp only [slen]; omega)) (by decide) (SX.u (i := 4) rfl (by kernel_rfl) (SU.fieldAddrC underlying55 rfl sizeOf3 rfl hb3) (by decide) (SX.q (i := 5) rfl (by kernel_rfl) (SQ.partA (e := encSide) (o := 0) (u := vi z.cell) isAgg3 rfl hxs.rd hjx rfl) (by decide) (SX.u (i := 6) rfl (by kernel_rfl) (SU.move rfl) (by decide) (SX.u (i := 8) rfl (by kernel_rfl) (SU.fieldAddr underlying51 rfl sizeOf49 rfl) (by decide) (SX.q (i := 9) rfl (by kernel_rfl) (SQ.load (v := .slice xp x.sides.length xcap) isAgg49 rfl (CellAt.own 2 rfl rfl)) (by decide) (SX.u (i := 10) rfl (by kernel_rfl) (SU.move rfl) (by decide) (SX.u (i := 11) rfl (by kernel_rfl) (SU.indexAddr underlying49 sizeOf55 rfl rfl hb3 (by omega) (by simp only [slen]; omega)) (by decide) (SX.u (i := 12) rfl (by kernel_rfl) (SU.fieldAddrC underlying55 rfl sizeOf3 rfl hb3) (by decide) (SX.q (i := 13) rfl (by kernel_rfl) (SQ.partA (e := encSide) (o := 1) (u := vi z.sign) isAgg3 rfl hxs.rd hjx rfl) (by decide) ?_))))))))))))
        refine SX.br2 7 15 (by kernel_rfl) ?_ ?_
        · skip
          refine SB.o (i := 7) rfl (SO.call call98 rfl (mixed_spec E g1 _ z.cell k)) (by decide) (.inr (by rintro _ _ _ ⟨rfl, rfl, rfl⟩; exact ⟨by exact Le.refl _, (by exact .refl _)⟩)) ?_
          rintro _ _ _ ⟨rfl, rfl, rfl⟩
          refine SX.u (i := 14) rfl (by kernel_rfl) (SU.build rfl (buildS55 _ _)) (by decide) ?_
          refine SX.br1 15 (by kernel_rfl) ?_
          · skip
            refine SB.o (i := 15) rfl (SO.alloc zeroValue55) (by decide) (.inr (by rintro _ _ _ ⟨b12, rfl, rfl, rfl⟩; exact ⟨by exact Le.refl _, (by exact .cons _ (.refl _))⟩)) ?_
            rintro _ _ _ ⟨b12, rfl, rfl, rfl⟩
            refine SX.br1 16 (by kernel_rfl) ?_
            · skip
              refine SB.on (i := 16) rfl (SO.storeAllK 0 sizeOf55 rfl rfl rfl rfl rfl (by exact ⟨rfl, rfl, trivial⟩)) (.inr (by rintro _ _ _ ⟨rfl, rfl⟩; exact ⟨by exact Le.refl _, (by exact .cons _ (.refl _))⟩)) ?_
              rintro _ _ _ ⟨rfl, rfl⟩
              refine SX.nil (by kernel_rfl) ?_
              exact ST.mid b12 ⟨rfl, rfl, rfl, rfl, rfl, rfl, rfl, rfl, rfl, rfl, trivial⟩ rfl rfl trivial
        · skip
          refine SB.o (i := 15) rfl (SO.alloc zeroValue55) (by decide) (.inr (by rintro _ _ _ ⟨b12, rfl, rfl, rfl⟩; exact ⟨by exact Le.refl _, (by exact .cons _ (.refl _))⟩)) ?_
          rintro _ _ _ ⟨b12, rfl, rfl, rfl⟩
          refine SX.br1 7 (by kernel_rfl) ?_
          · skip
            refine SB.o (i := 7) rfl (SO.call call98 rfl (mixed_spec E g1 _ z.cell k)) (by decide) (.inr (by rintro _ _ _ ⟨rfl, rfl, rfl⟩; exact ⟨by exact Le.refl _, (by exact .cons _ (.refl _))⟩)) ?_
            rintro _ _ _ ⟨rfl, rfl, rfl⟩
            refine SX.u (i := 14) rfl (by kernel_rfl) (SU.build rfl (buildS55 _ _)) (by decide) ?_
            refine SX.br1 16 (by kernel_rfl) ?_
            · skip
              refine SB.on (i := 16) rfl (SO.storeAllK 0 sizeOf55 rfl rfl rfl rfl rfl (by exact ⟨rfl, rfl, trivial⟩)) (.inr (by rintro _ _ _ ⟨rfl, rfl⟩; exact ⟨by exact Le.refl _, (by exact .cons _ (.refl _))⟩)) ?_
              rintro _ _ _ ⟨rfl, rfl⟩
              refine SX.nil (by kernel_rfl) ?_
              exact ST.mid b12 ⟨rfl, rfl, rfl, rfl, rfl, rfl, rfl, rfl, rfl, rfl, trivial⟩ rfl rfl trivial
      rintro b12 -
      try dsimp only
      have e1 : t > 1 → turn1 t x = decide (x.id.tmod t = 1) := fun h => by simp [turn1, h]
      have e2 : ¬ t > 1 → turn1 t x = false := fun h => by simp only [turn1, h, decide_false, Bool.false_and]
      have e3 : t > 1 → x.dim > 1 → turn2 t x z.cell = decide (z.cell.tmod t = 1) := fun h h' => by simp [turn2, h, h']
      have e4 : t > 1 → ¬ x.dim > 1 → turn2 t x z.cell = false := fun h h' => by simp only [turn2, h', decide_false, Bool.and_false, Bool.false_and]
      have e5 : ¬ t > 1 → turn2 t x z.cell = false := fun h => by simp only [turn2, h, decide_false, Bool.false_and]
      refine SC.cut (ι := Int) (fun _ => [(2, pp b2 0), (4, pp b4 0), (5, vi k), (6, vi t), (7, pp b7 0), (8, vi i), (9, pp b9 0), (10, pp b10 0), (11, vi j), (12, pp b12 0)]) (fun _ => g1) (fun sg => pt b12 (.cells #[vi (mixC z.cell k), vi sg] 55 (0, 0)) :: rowA encSide 55 sv ((x.sides.take j).map (renSide k t x)) :: pt b10 (.cells #[vi (mixC x.id k), vi x.dim, sv] 51 (0, 0)) :: pt b9 (.cells #[vi x.id, vi x.dim, .slice xp x.sides.length xcap] 51 (0, 0)) :: rowA encCell 51 ov rcs :: pt b7 (.cells #[ov] 27 (0, 0)) :: pt b4 (.cells #[.slice none 0 0] 27 (0, 0)) :: pt b2 (.cells #[.slice p rs.length c] 27 (0, 0)) :: s) (fun sg => sg = negIf (turn1 t x) z.sign) ?_ ?_
      · skip
        refine SC.cutB 69 ((turn1 t x)) ?_ ?_
        · skip
          refine SC.region (SL.M rfl (SL.U (SU.gtr rfl rfl) (SL.M rfl ?_)))
          refine SL.split ?_ ?_
          · intro h64
            refine SL.Y rfl rfl rfl (SU.fieldAddr underlying51 rfl sizeOf3 rfl) (SL.gq (Gd.onT rfl rfl rfl (by decide)) (SQ.load (v := vi x.id) isAgg3 rfl (CellAt.own 3 rfl rfl)) (by decide) (SL.Y rfl rfl rfl (SU.move rfl) (SL.go (Gd.onT rfl rfl rfl (by decide)) (SO.call call99 rfl (turned_spec E g1 _ x.id t (by omega))) (by decide) ?_)))
            rintro _ _ _ ⟨rfl, rfl, rfl⟩
            refine SL.U (SU.pickT rfl rfl) (SL.nil ?_)
            exact ST.mid1 (by (rw [e1 h64]; rfl)) (by repeat' (first | exact trivial | refine ⟨.inl rfl, ?_⟩ | refine ⟨.inr rfl, ?_⟩))
          · intro h64
            refine SL.Z rfl rfl rfl (SL.Z rfl rfl rfl (SL.Z rfl rfl rfl (SL.Z rfl rfl rfl (SL.U (SU.pickF rfl rfl) (SL.nil ?_)))))
            exact ST.mid1 (by (rw [e2 h64]; rfl)) (by repeat' (first | exact trivial | refine ⟨.inl rfl, ?_⟩ | refine ⟨.inr rfl, ?_⟩))
        refine SC.ifB rfl (fun hq1 => ?_) (fun hq1 => ?_)
        · skip
          refine SC.region (SL.U (SU.fieldAddr underlying55 rfl sizeOf3 rfl) (SL.K (SQ.load (v := vi z.sign) isAgg3 rfl (CellAt.own 0 rfl rfl)) (SL.U (SU.neg rfl) (SL.U (SU.fieldAddr underlying55 rfl sizeOf3 rfl) (SL.on (SO.store1 0 sizeOf3 rfl rfl rfl rfl (Nat.le_of_ble_eq_true rfl) (by rfl)) ?_)))))
          rintro _ _ _ ⟨rfl, rfl⟩
          refine SL.nil ?_
          exact ST.mid (IntKind.i64.wrap (0 - z.sign)) ⟨rfl, rfl, rfl, rfl, rfl, rfl, rfl, rfl, rfl, rfl, trivial⟩ rfl rfl (by rw [hq1]; rfl)
        · skip
          refine SC.skip ?_
          exact ST.mid z.sign ⟨rfl, rfl, rfl, rfl, rfl, rfl, rfl, rfl, rfl, rfl, trivial⟩ rfl rfl (by rw [hq1]; rfl)
      rintro s1 hs1
      try dsimp only
      refine SC.cut (ι := Int) (fun _ => [(2, pp b2 0), (4, pp b4 0), (5, vi k), (6, vi t), (7, pp b7 0), (8, vi i), (9, pp b9 0), (10, pp b10 0), (11, vi j), (12, pp b12 0)]) (fun _ => g1) (fun sg => pt b12 (.cells #[vi (mixC z.cell k), vi sg] 55 (0, 0)) :: rowA encSide 55 sv ((x.sides.take j).map (renSide k t x)) :: pt b10 (.cells #[vi (mixC x.id k), vi x.dim, sv] 51 (0, 0)) :: pt b9 (.cells #[vi x.id, vi x.dim, .slice xp x.sides.length xcap] 51 (0, 0)) :: rowA encCell 51 ov rcs :: pt b7 (.cells #[ov] 27 (0, 0)) :: pt b4 (.cells #[.slice none 0 0] 27 (0, 0)) :: pt b2 (.cells #[.slice p rs.length c] 27 (0, 0)) :: s) (fun sg => sg = negIf (turn2 t x z.cell) s1) ?_ ?_
      · skip
        refine SC.cutB 90 ((turn2 t x z.cell)) ?_ ?_
        · skip
          refine SC.region (SL.M rfl (SL.U (SU.gtr rfl rfl) (SL.M rfl ?_)))
          refine SL.split ?_ ?_
          · intro h76
            refine SL.Y rfl rfl rfl (SU.fieldAddr underlying51 rfl sizeOf3 rfl) (SL.gq (Gd.onT rfl rfl rfl (by decide)) (SQ.load (v := vi x.dim) isAgg3 rfl (CellAt.own 3 rfl rfl)) (by decide) (SL.Y rfl rfl rfl (SU.gtr rfl rfl) (SL.U (SU.pickT rfl rfl) (SL.M rfl ?_))))
            refine SL.split ?_ ?_
            · intro h81
              refine SL.Y rfl rfl rfl (SU.fieldAddr underlying51 rfl sizeOf49 rfl) (SL.gq (Gd.onT rfl rfl rfl (by decide)) (SQ.load (v := .slice xp x.sides.length xcap) isAgg49 rfl (CellAt.own 3 rfl rfl)) (by decide) (SL.Y rfl rfl rfl (SU.move rfl) (SL.Y rfl rfl rfl (SU.indexAddr underlying49 sizeOf55 rfl rfl hb3 (by omega) (by simp only [slen]; omega)) (SL.Y rfl rfl rfl (SU.fieldAddrC underlying55 rfl sizeOf3 rfl hb3) (SL.gq (Gd.onT rfl rfl rfl (by decide)) (SQ.partA (e := encSide) (o := 0) (u := vi z.cell) isAgg3 rfl hxs.rd hjx rfl) (by decide) (SL.Y rfl rfl rfl (SU.move rfl) (SL.go (Gd.onT rfl rfl rfl (by decide)) (SO.call call99 rfl (turned_spec E g1 _ z.cell t (by omega))) (by decide) ?_)))))))
              rintro _ _ _ ⟨rfl, rfl, rfl⟩
              refine SL.U (SU.pickT rfl rfl) (SL.nil ?_)
              exact ST.mid1 (by (rw [e3 h76 h81]; rfl)) (by repeat' (first | exact trivial | refine ⟨.inl rfl, ?_⟩ | refine ⟨.inr rfl, ?_⟩))
            · intro h81
              refine SL.Z rfl rfl rfl (SL.Z rfl rfl rfl (SL.Z rfl rfl rfl (SL.Z rfl rfl rfl (SL.Z rfl rfl rfl (SL.Z rfl rfl rfl (SL.Z rfl rfl rfl (SL.Z rfl rfl rfl (SL.U (SU.pickF rfl rfl) (SL.nil ?_)))))))))
              exact ST.mid1 (by (rw [e4 h76 h81]; rfl)) (by repeat' (first | exact trivial | refine ⟨.inl rfl, ?_⟩ | refine ⟨.inr rfl, ?_⟩))
          · intro h76
            refine SL.Z rfl rfl rfl (SL.Z rfl rfl rfl (SL.Z rfl rfl rfl (SL.U (SU.pickF rfl rfl) (SL.M rfl (SL.Z rfl rfl rfl (SL.Z rfl rfl rfl (SL.Z rfl rfl rfl (SL.Z rfl rfl rfl (SL.Z rfl rfl rfl (SL.Z rfl rfl rfl (SL.Z rfl rfl rfl (SL.Z rfl rfl rfl (SL.U (SU.pickF rfl rfl) (SL.nil ?_))))))))))))))
            exact ST.mid1 (by (rw [e5 h76]; rfl)) (by repeat' (first | exact trivial | refine ⟨.inl rfl, ?_⟩ | refine ⟨.inr rfl, ?_⟩))
        refine SC.ifB rfl (fun hq2 => ?_) (fun hq2 => ?_)
        · skip
          refine SC.region (SL.U (SU.fieldAddr underlying55 rfl sizeOf3 rfl) (SL.K (SQ.load (v := vi s1) isAgg3 rfl (CellAt.own 0 rfl rfl)) (SL.U (SU.neg rfl) (SL.U (SU.fieldAddr underlying55 rfl sizeOf3 rfl) (SL.on (SO.store1 0 sizeOf3 rfl rfl rfl rfl (Nat.le_of_ble_eq_true rfl) (by rfl)) ?_)))))
          rintro _ _ _ ⟨rfl, rfl⟩
          refine SL.nil ?_
          exact ST.mid (IntKind.i64.wrap (0 - s1)) ⟨rfl, rfl, rfl, rfl, rfl, rfl, rfl, rfl, rfl, rfl, trivial⟩ rfl rfl (by rw [hq2]; rfl)
        · skip
          refine SC.skip ?_
          exact ST.mid s1 ⟨rfl, rfl, rfl, rfl, rfl, rfl, rfl, rfl, rfl, rfl, trivial⟩ rfl rfl (by rw [hq2]; rfl)
      rintro s2 hs2
      try dsimp only
      have hrz : renSide k t x z = ⟨mixC z.cell k, s2⟩ := by unfold renSide; rw [hs2, hs1]
      rw [hrz] at hjs
      have hml : ((x.sides.take j).map (renSide k t x)).length = j := by rw [List.length_map, List.length_take]; omega
      refine SC.region (SL.U (SU.fieldAddr underlying51 rfl sizeOf49 rfl) (SL.K (SQ.load (v := sv) isAgg49 rfl (CellAt.own 2 rfl rfl)) (SL.K (SQ.loadVarK 0 isAgg55 sizeOf55 rfl rfl rfl) (SL.W (SO.buildSlice sty49 rfl rfl rfl (szs_mk (by exact ⟨rfl, trivial⟩)) (by decide)) ?_))))
      rintro _ _ _ ⟨b98, rfl, rfl, rfl⟩
      refine SL.W (SO.app1A (e := encSide) 1 ⟨mixC z.cell k, s2⟩ sty49 rfl rfl rfl rfl rfl (by omega) (by omega)) ?_
      rintro sv' _ _ ⟨rfl, rfl⟩
      rw [← hjs]
      refine SL.facts fun ⟨w0, hw0⟩ => ?_
      obtain ⟨q6, d6, rfl⟩ := rowA_form (i := 1) hw0 rfl
      clear hw0 w0
      refine SL.U (SU.fieldAddr underlying51 rfl sizeOf49 rfl) (SL.on (SO.store1 2 sizeOf49 rfl rfl rfl rfl (Nat.le_of_ble_eq_true rfl) (by rfl)) ?_)
      rintro _ _ _ ⟨rfl, rfl⟩
      refine SL.nil (ST.blockN (ST.thenN (SC.region (SL.M rfl (SL.U (SU.add rfl rfl (by omega)) (SL.A rfl (SL.nil (ST.drop (s' := rowA encSide 55 (.slice q6 ((x.sides.take (j + 1)).map (renSide k t x)).length d6) ((x.sides.take (j + 1)).map (renSide k t x)) :: pt b10 (.cells #[vi (mixC x.id k), vi x.dim, (.slice q6 ((x.sides.take (j + 1)).map (renSide k t x)).length d6)] 51 (0, 0)) :: pt b9 (.cells #[vi x.id, vi x.dim, .slice xp x.sides.length xcap] 51 (0, 0)) :: rowA encCell 51 ov rcs :: pt b7 (.cells #[ov] 27 (0, 0)) :: pt b4 (.cells #[.slice none 0 0] 27 (0, 0)) :: pt b2 (.cells #[.slice p rs.length c] 27 (0, 0)) :: s) (.cons _ (.refl _)) ?_))))))))
      exact ST.again (_, j + 1) ⟨rfl, rfl, rfl, rfl, rfl, rfl, rfl, rfl, rfl, trivial⟩ rfl rfl (by (first | with_reducible rfl | ((try dsimp only); (try simp only [List.length_append, List.length_cons, List.length_nil, List.length_singleton, List.length_take, List.length_drop]) <;> omega))) (by (first | with_reducible rfl | ((try dsimp only); (try simp only [List.length_append, List.length_cons, List.length_nil, List.length_singleton, List.length_take, List.length_drop]) <;> omega)))
    · have hjj : x.sides.take j = x.sides := List.take_of_length_le (by omega)
      rw [hjj]
      refine SC.exit (ST.thenX (ST.thenX (ST.blockX (ST.thenN (SC.freezeRow fun g2 hle2 hs2 => ?_)))))
      have hsd : SlA encSide g2 sv (x.sides.map (renSide k t x)) := hs2
      obtain ⟨q8, d8, rfl⟩ := SlA.form hsd
      obtain ⟨nc, hnc⟩ : ∃ nc : Rc, nc = ⟨mixC x.id k, x.dim, ⟨q8, (x.sides.map (renSide k t x)).length, d8⟩⟩ := ⟨_, rfl⟩
      refine SC.region (SL.U (SU.fieldAddr underlying27 rfl sizeOf25 rfl) (SL.K (SQ.load (v := ov) isAgg25 rfl (CellAt.own 3 rfl rfl)) (SL.K (SQ.loadVarK 0 isAgg51 sizeOf51 rfl rfl rfl) (SL.W (SO.buildSlice sty25 rfl rfl rfl (szs_mk (by exact ⟨rfl, trivial⟩)) (by decide)) ?_))))
      rintro _ _ _ ⟨b104, rfl, rfl, rfl⟩
      refine SL.W (SO.app1A (e := encCell) 2 nc sty25 rfl rfl rfl rfl (by rw [hnc]; rfl) (by omega) (by omega)) ?_
      rintro v105 _ _ ⟨rfl, rfl⟩
      refine SL.facts fun ⟨w0, hw0⟩ => ?_
      obtain ⟨q9, d9, rfl⟩ := rowA_form (i := 2) hw0 rfl
      clear hw0 w0
      refine SL.U (SU.fieldAddr underlying27 rfl sizeOf25 rfl) (SL.on (SO.storeAllK 3 sizeOf25 rfl rfl rfl rfl rfl (by exact ⟨rfl, trivial⟩)) ?_)
      rintro _ _ _ ⟨rfl, rfl⟩
      refine SL.nil (ST.blockN (ST.thenN (SC.region (SL.M rfl (SL.U (SU.add rfl rfl (by omega)) (SL.A rfl (SL.nil (ST.drop (s' := rowA encCell 51 (.slice q9 (rcs ++ [nc]).length d9) (rcs ++ [nc]) :: pt b7 (.cells #[(.slice q9 (rcs ++ [nc]).length d9)] 27 (0, 0)) :: pt b4 (.cells #[.slice none 0 0] 27 (0, 0)) :: pt b2 (.cells #[.slice p rs.length c] 27 (0, 0)) :: s) (.cons _ (.cons _ (.refl _))) ?_))))))))
      refine ST.again (g2, _, rcs ++ [nc], i + 1) ⟨rfl, rfl, rfl, rfl, rfl, rfl, trivial⟩ rfl rfl ⟨hle.trans hle2, by (first | with_reducible rfl | ((try dsimp only); (try simp only [List.length_append, List.length_cons, List.length_nil, List.length_singleton, List.length_take, List.length_drop]) <;> omega)), ?_⟩ (by (first | with_reducible rfl | ((try dsimp only); (try simp only [List.length_append, List.length_cons, List.length_nil, List.length_singleton, List.length_take, List.length_drop]) <;> omega)))
      dsimp only
      rw [hsucc]
      exact (hrcs.mono fun _ _ => CellR.mono hle2).append ⟨(by rw [hnc]; exact ⟨rfl, rfl, hsd⟩), trivial⟩
  · have hii : l.take i = l := List.take_of_length_le (by omega)
    rw [hii] at hrcs
    refine SC.exit (ST.thenX (ST.thenX (ST.blockX (ST.thenN (SC.seq (SC.freezeRow fun g2 hle2 hs2 => ?_))))))
    have hov : Cells g2 ov (l.map (renCell k t)) := ⟨rcs, hs2, hrcs.mono fun _ _ => CellR.mono hle2⟩
    obtain ⟨qo, do_, rfl⟩ := hov.form
    refine SC.region (SL.K (SQ.loadVarK 0 isAgg27 sizeOf27 rfl rfl rfl) (SL.W (SO.call call63 rfl (refCanon_spec E g2 _ _ _ hov (ren_fits hf k t))) ?_))
    rintro _ g3 _ ⟨rfl, hle3, x3, rfl, hx3⟩
    obtain ⟨q3, d3, rfl⟩ := hx3.form
    refine SL.on (SO.storeAllK 1 sizeOf27 rfl rfl rfl rfl rfl (by exact ⟨rfl, trivial⟩)) ?_
    rintro _ _ _ ⟨rfl, rfl⟩
    refine SL.nil (ST.thenN (SC.ret ?_))
    exact ST.retCD 1 s (.inl rfl) results67 rfl isAgg27 sizeOf27 rfl rfl (.cons _ (.cons _ (.cons _ (.refl _)))) ⟨rfl, hle.trans (hle2.trans hle3), _, rfl, hx3⟩
end Go.Proofs.YtkdibcicncjpdaaGreat
namespace Go.Proofs.YtkdibcicncjpdaaGreat
open _root_.Go.Proofs.Tryz _root_.Go.Proofs.YtkdibcicncjpdaaGreat.Tryz
open Go Go.Sy Go.Pl Go.Proofs
set_option maxRecDepth 100000
set_option maxHeartbeats 1000000
def three (j : Int) : List (List Int) := if j = 0 then [[0, 1]] else if j = 1 then [[0, 1], [1, 2]] else [[0, 1], [1, 2], [0, 2]]
def sel3 (j : Int) (a b c : Value) : Value := if j = 0 then a else if j = 1 then b else c
theorem sel3_get {j : Int} (h : 0 ≤ j ∧ j < 3) (a b c : Value) : #[a, b, c][0 + j.toNat * 1]? = some (sel3 j a b c) := by
  rcases (by omega : j = 0 ∨ j = 1 ∨ j = 2) with rfl | rfl | rfl <;> rfl
theorem three_lists {g : PH} {j : Int} (h : 0 ≤ j ∧ j < 3) {a b c : Value} (ha : Lists g a [[0, 1]]) (hb : Lists g b [[0, 1], [1, 2]]) (hc : Lists g c [[0, 1], [1, 2], [0, 2]]) : Lists g (sel3 j a b c) (three j) := by
  rcases (by omega : j = 0 ∨ j = 1 ∨ j = 2) with rfl | rfl | rfl
  · exact ha
  · exact hb
  · exact hc
theorem three_small (j : Int) : (three j).length ≤ 3 ∧ ∀ x ∈ three j, x.length ≤ 2 := by
  unfold three
  split
  · exact ⟨by decide, by decide⟩
  · split
    · exact ⟨by decide, by decide⟩
    · exact ⟨by decide, by decide⟩
theorem sets_small (ls : List (List Int)) : (setsC ls).length ≤ 5 ∧ ∀ x ∈ setsC ls, x.length ≤ 4 := by
  refine ⟨by simp [setsC]; omega, fun x hx => ?_⟩
  obtain ⟨l, _, rfl⟩ := List.mem_map.1 hx
  simp
  omega
theorem surf_small (y : Int) : 4 ≤ (surfC y).length ∧ (surfC y).length ≤ 14 ∧ ∀ x ∈ surfC y, x.length ≤ 3 := by
  unfold surfC
  split
  · exact ⟨by decide, by decide, by decide⟩
  · split
    · exact ⟨by decide, by decide, by decide⟩
    · refine ⟨by rw [surf2_length]; decide, by rw [surf2_length]; decide, fun x hx => ?_⟩
      obtain ⟨i, _, hx⟩ := List.mem_flatMap.1 hx
      simp at hx
      rcases hx with rfl | rfl <;> simp
def baseM (m : Int) (ls : List (List Int)) (y : Int) : List Cl :=
  if m = 3 then simpC (surfC y) else if m = 4 then refProdC (simpC (three (modW y 3))) (simpC (three (modW (IntKind.i64.wrap (y.tdiv 3)) 3)))
  else if m = 5 then polyC (2 + modW y 5).toNat else if m = 6 then refProdC (refProdC (simpC [[0, 1]]) (simpC [[0, 1]])) (simpC [[0, 1]])
  else if m = 7 then simpC (setsC ls ++ (surfC y).take (2 + modW y 2).toNat) else simpC (setsC ls)
theorem baseM_fits (m : Int) (ls : List (List Int)) (y : Int) : Fits (baseM m ls y) := by
  unfold baseM
  have h5 := modW_range y 5 (by decide) (by decide)
  repeat' split
  · exact (simpC_fits _).1
  · exact (refProdC_fits _ _).1
  · exact canonC_fits (polyAll_fits (by omega)).1
  · exact (refProdC_fits _ _).1
  · exact (simpC_fits _).1
  · exact (simpC_fits _).1
def bigC (b : List Cl) : List Cl := if (b.length : Int) > 45 then torusC else b
def madeC (kd : Int) (ls : List (List Int)) (y : Int) : List Cl := renC (bigC (baseM (modW kd 8) ls y)) y
theorem bigC_fits {b : List Cl} (h : Fits b) : Fits (bigC b) := by
  unfold bigC
  split
  · exact (refProdC_fits _ _).1
  · exact h
theorem Tryz.build92 (p1 : Option Addr) (n1 c1 : Nat) (p2 : Option Addr) (n2 c2 : Nat) (p3 : Option Addr) (n3 c3 : Nat) (w : World) : (Instr.build 92 #[(0, .slice p1 n1 c1), (1, .slice p2 n2 c2), (2, .slice p3 n3 c3)]).run Tryz.prog w = .ok (.agg #[.slice p1 n1 c1, .slice p2 n2 c2, .slice p3 n3 c3]) w := by
  have hz : (Value.agg #[Value.slice none 0 0, Value.slice none 0 0, Value.slice none 0 0]).cells = #[.slice none 0 0, .slice none 0 0, .slice none 0 0] := rfl
  have h1 : (Value.slice p1 n1 c1).cells = #[.slice p1 n1 c1] := rfl
  have h2 : (Value.slice p2 n2 c2).cells = #[.slice p2 n2 c2] := rfl
  have h3 : (Value.slice p3 n3 c3).cells = #[.slice p3 n3 c3] := rfl
  simp [Instr.build, Instr.fill, hz, h1, h2, h3]
theorem made_spec (E : World) (g : PH) (s : Own) (v : Value) (kd y : Int) (ls : List (List Int)) (hv : Lists g v ls) :
    Ctr Tryz.prog E 20 #[.agg #[vi kd, v, vi y]] g s (fun r g' s' => s = s' ∧ Le g g' ∧ ∃ x, r = .agg #[x] ∧ Cells g' x (madeC kd ls y)) := by
  obtain ⟨p, n, c, rfl⟩ : ∃ p n c, v = .slice p n c := by
    obtain ⟨rs0, hrs0, _⟩ := hv
    obtain ⟨p, c, rfl⟩ := SlA.form hrs0
    exact ⟨_, _, _, rfl⟩
  have hm8 := modW_range kd 8 (by decide) (by decide)
  have hy3 := modW_range y 3 (by decide) (by decide)
  have hy33 := modW_range (IntKind.i64.wrap (y.tdiv 3)) 3 (by decide) (by decide)
  have hy5 := modW_range y 5 (by decide) (by decide)
  have hy2 := modW_range y 2 (by decide) (by decide)
  have hss := sets_small ls
  have hsf := surf_small y
  unfold madeC
  have hfit := baseM_fits (modW kd 8) ls y
  refine Ctr.of (args := [.agg #[vi kd, .slice p n c, vi y]]) func20 rfl ntmps20 (Nat.le_of_ble_eq_true rfl) ?_
  refine SC.seq (SC.region (SL.W (SO.box rfl) ?_))
  rintro _ _ _ ⟨b1, rfl, rfl, rfl⟩
  refine SL.W (SO.alloc zeroValue27) ?_
  rintro _ _ _ ⟨b2, rfl, rfl, rfl⟩
  refine SL.nil (ST.thenN (SC.seq (SC.region (SL.W (SO.alloc zeroValue27) ?_))))
  rintro _ _ _ ⟨b3, rfl, rfl, rfl⟩
  refine SL.nil (ST.thenN ?_)
  refine SC.to (fun w hw => hw) (g' := g) (s' := pt b3 (.cells #[.slice none 0 0] 27 (0, 0)) :: pt b2 (.cells #[.slice none 0 0] 27 (0, 0)) :: pt b1 (.cells #[vi kd, .slice p n c, vi y] 40 (0, 0)) :: s) ?_
  refine SC.cut (ι := PH × Value) (fun _ => [(1, pp b1 0), (2, pp b2 0), (3, pp b3 0)]) (fun i => i.1) (fun i => pt b3 (.cells #[i.2] 27 (0, 0)) :: pt b2 (.cells #[.slice none 0 0] 27 (0, 0)) :: pt b1 (.cells #[vi kd, .slice p n c, vi y] 40 (0, 0)) :: s) (fun i => Le g i.1 ∧ Cells i.1 i.2 (baseM (modW kd 8) ls y)) ?_ ?_
  · rcases (by omega : (modW kd 8 = 0 ∨ modW kd 8 = 1 ∨ modW kd 8 = 2) ∨ modW kd 8 = 3 ∨ modW kd 8 = 4 ∨ modW kd 8 = 5 ∨ modW kd 8 = 6 ∨ modW kd 8 = 7) with (hm | hm | hm) | hm | hm | hm | hm | hm
    · skip
      refine SC.seq (SC.region (SL.U (SU.fieldAddr underlying40 rfl sizeOf3 rfl) (SL.K (SQ.load (v := vi kd) isAgg3 rfl (CellAt.own 2 rfl rfl)) (SL.W (SO.call call38 rfl (mod_spec E g _ _ 8 (by decide))) ?_))))
      rintro _ _ _ ⟨rfl, rfl, rfl⟩
      rw [hm]
      refine SL.nil (ST.thenN (SC.block (SC.seq (SC.seq (SC.region (SL.U (SU.eql rfl rfl) (SL.A rfl (SL.nil (ST.thenN (SC.condT rfl (SC.skip (ST.thenN (SC.condT rfl (SC.region (SL.U (SU.fieldAddr underlying40 rfl sizeOf22 rfl) (SL.K (SQ.load (v := .slice p n c) isAgg22 rfl (CellAt.own 2 rfl rfl)) (SL.W (SO.call call10 rfl (sets_spec E g _ _ ls hv)) ?_)))))))))))))))))
      rintro v16 g1 _ ⟨rs1, rfl, hle1, hall1⟩
      refine SL.freezeRow fun g2 hle2 hs2 => ?_
      have hls : Lists g2 v16 (setsC ls) := ⟨rs1, hs2, hall1.mono fun _ _ => ListR.mono hle2⟩
      refine SL.W (SO.call call14 rfl (refSimplicial_spec E g2 _ _ _ hls (by omega) (fun x hx => by have := hss.2 x hx; omega))) ?_
      rintro _ g3 _ ⟨rfl, hle3, u, rfl, hu⟩
      obtain ⟨q, d, rfl⟩ := hu.form
      refine SL.on (SO.storeAllK 0 sizeOf27 rfl rfl rfl rfl rfl (by exact ⟨rfl, trivial⟩)) ?_
      rintro _ _ _ ⟨rfl, rfl⟩
      refine SL.nil (ST.blockN ?_)
      exact ST.mid (g3, _) ⟨rfl, rfl, rfl, trivial⟩ rfl rfl ⟨hle1.trans (hle2.trans hle3), hu⟩
    · skip
      refine SC.seq (SC.region (SL.U (SU.fieldAddr underlying40 rfl sizeOf3 rfl) (SL.K (SQ.load (v := vi kd) isAgg3 rfl (CellAt.own 2 rfl rfl)) (SL.W (SO.call call38 rfl (mod_spec E g _ _ 8 (by decide))) ?_))))
      rintro _ _ _ ⟨rfl, rfl, rfl⟩
      rw [hm]
      refine SL.nil (ST.thenN (SC.block (SC.seq (SC.seq (SC.region (SL.U (SU.eql rfl rfl) (SL.A rfl (SL.nil (ST.thenN (SC.condF rfl (SC.seq (SC.region (SL.U (SU.eql rfl rfl) (SL.A rfl (SL.nil (ST.thenN (SC.condT rfl (SC.skip (ST.thenN (SC.condT rfl (SC.region (SL.U (SU.fieldAddr underlying40 rfl sizeOf22 rfl) (SL.K (SQ.load (v := .slice p n c) isAgg22 rfl (CellAt.own 2 rfl rfl)) (SL.W (SO.call call10 rfl (sets_spec E g _ _ ls hv)) ?_))))))))))))))))))))))))
      rintro v16 g1 _ ⟨rs1, rfl, hle1, hall1⟩
      refine SL.freezeRow fun g2 hle2 hs2 => ?_
      have hls : Lists g2 v16 (setsC ls) := ⟨rs1, hs2, hall1.mono fun _ _ => ListR.mono hle2⟩
      refine SL.W (SO.call call14 rfl (refSimplicial_spec E g2 _ _ _ hls (by omega) (fun x hx => by have := hss.2 x hx; omega))) ?_
      rintro _ g3 _ ⟨rfl, hle3, u, rfl, hu⟩
      obtain ⟨q, d, rfl⟩ := hu.form
      refine SL.on (SO.storeAllK 0 sizeOf27 rfl rfl rfl rfl rfl (by exact ⟨rfl, trivial⟩)) ?_
      rintro _ _ _ ⟨rfl, rfl⟩
      refine SL.nil (ST.blockN ?_)
      exact ST.mid (g3, _) ⟨rfl, rfl, rfl, trivial⟩ rfl rfl ⟨hle1.trans (hle2.trans hle3), hu⟩
    · skip
      refine SC.seq (SC.region (SL.U (SU.fieldAddr underlying40 rfl sizeOf3 rfl) (SL.K (SQ.load (v := vi kd) isAgg3 rfl (CellAt.own 2 rfl rfl)) (SL.W (SO.call call38 rfl (mod_spec E g _ _ 8 (by decide))) ?_))))
      rintro _ _ _ ⟨rfl, rfl, rfl⟩
      rw [hm]
      refine SL.nil (ST.thenN (SC.block (SC.seq (SC.seq (SC.region (SL.U (SU.eql rfl rfl) (SL.A rfl (SL.nil (ST.thenN (SC.condF rfl (SC.seq (SC.region (SL.U (SU.eql rfl rfl) (SL.A rfl (SL.nil (ST.thenN (SC.condF rfl (SC.region (SL.U (SU.eql rfl rfl) (SL.A rfl (SL.nil (ST.thenN (SC.condT rfl (SC.region (SL.U (SU.fieldAddr underlying40 rfl sizeOf22 rfl) (SL.K (SQ.load (v := .slice p n c) isAgg22 rfl (CellAt.own 2 rfl rfl)) (SL.W (SO.call call10 rfl (sets_spec E g _ _ ls hv)) ?_)))))))))))))))))))))))))))
      rintro v16 g1 _ ⟨rs1, rfl, hle1, hall1⟩
      refine SL.freezeRow fun g2 hle2 hs2 => ?_
      have hls : Lists g2 v16 (setsC ls) := ⟨rs1, hs2, hall1.mono fun _ _ => ListR.mono hle2⟩
      refine SL.W (SO.call call14 rfl (refSimplicial_spec E g2 _ _ _ hls (by omega) (fun x hx => by have := hss.2 x hx; omega))) ?_
      rintro _ g3 _ ⟨rfl, hle3, u, rfl, hu⟩
      obtain ⟨q, d, rfl⟩ := hu.form
      refine SL.on (SO.storeAllK 0 sizeOf27 rfl rfl rfl rfl rfl (by exact ⟨rfl, trivial⟩)) ?_
      rintro _ _ _ ⟨rfl, rfl⟩
      refine SL.nil (ST.blockN ?_)
      exact ST.mid (g3, _) ⟨rfl, rfl, rfl, trivial⟩ rfl rfl ⟨hle1.trans (hle2.trans hle3), hu⟩
    · skip
      refine SC.seq (SC.region (SL.U (SU.fieldAddr underlying40 rfl sizeOf3 rfl) (SL.K (SQ.load (v := vi kd) isAgg3 rfl (CellAt.own 2 rfl rfl)) (SL.W (SO.call call38 rfl (mod_spec E g _ _ 8 (by decide))) ?_))))
      rintro _ _ _ ⟨rfl, rfl, rfl⟩
      rw [hm]
      refine SL.nil (ST.thenN (SC.block (SC.seq (SC.seq (SC.region (SL.U (SU.eql rfl rfl) (SL.A rfl (SL.nil (ST.thenN (SC.condF rfl (SC.seq (SC.region (SL.U (SU.eql rfl rfl) (SL.A rfl (SL.nil (ST.thenN (SC.condF rfl (SC.region (SL.U (SU.eql rfl rfl) (SL.A rfl (SL.nil (ST.thenN (SC.condF rfl (SC.seq (SC.region (SL.U (SU.eql rfl rfl) (SL.A rfl (SL.nil (ST.thenN ?_)))))))))))))))))))))))))))))
      refine SC.condT rfl (SC.region (SL.U (SU.fieldAddr underlying40 rfl sizeOf3 rfl) (SL.K (SQ.load (v := vi y) isAgg3 rfl (CellAt.own 2 rfl rfl)) (SL.W (SO.call call64 rfl (surface_spec E g _ y)) ?_))))
      rintro v22 g1 _ ⟨rfl, hle1, hls⟩
      refine SL.W (SO.call call14 rfl (refSimplicial_spec E g1 _ _ _ hls (by omega) (fun x hx => by have := hsf.2.2 x hx; omega))) ?_
      rintro _ g3 _ ⟨rfl, hle3, u, rfl, hu⟩
      obtain ⟨q, d, rfl⟩ := hu.form
      refine SL.on (SO.storeAllK 0 sizeOf27 rfl rfl rfl rfl rfl (by exact ⟨rfl, trivial⟩)) ?_
      rintro _ _ _ ⟨rfl, rfl⟩
      refine SL.nil (ST.blockN ?_)
      exact ST.mid (g3, _) ⟨rfl, rfl, rfl, trivial⟩ rfl rfl ⟨hle1.trans hle3, hu⟩
    · skip
      refine SC.seq (SC.region (SL.U (SU.fieldAddr underlying40 rfl sizeOf3 rfl) (SL.K (SQ.load (v := vi kd) isAgg3 rfl (CellAt.own 2 rfl rfl)) (SL.W (SO.call call38 rfl (mod_spec E g _ _ 8 (by decide))) ?_))))
      rintro _ _ _ ⟨rfl, rfl, rfl⟩
      rw [hm]
      refine SL.nil (ST.thenN (SC.block (SC.seq (SC.seq (SC.region (SL.U (SU.eql rfl rfl) (SL.A rfl (SL.nil (ST.thenN (SC.condF rfl (SC.seq (SC.region (SL.U (SU.eql rfl rfl) (SL.A rfl (SL.nil (ST.thenN (SC.condF rfl (SC.region (SL.U (SU.eql rfl rfl) (SL.A rfl (SL.nil (ST.thenN (SC.condF rfl (SC.seq (SC.region (SL.U (SU.eql rfl rfl) (SL.A rfl (SL.nil (ST.thenN ?_)))))))))))))))))))))))))))))
      refine SC.condF rfl (SC.seq (SC.region (SL.U (SU.eql rfl rfl) (SL.A rfl (SL.nil (ST.thenN (SC.condT rfl (SC.seq (SC.region (SL.U (SU.fieldAddr underlying40 rfl sizeOf3 rfl) (SL.K (SQ.load (v := vi y) isAgg3 rfl (CellAt.own 2 rfl rfl)) (SL.W (SO.call call38 rfl (mod_spec E g _ _ 3 (by decide))) ?_))))))))))))
      rintro _ _ _ ⟨rfl, rfl, rfl⟩
      refine SL.A rfl (SL.nil (ST.thenN (SC.seq (SC.region (SL.W (SO.buildSlice sty45 rfl rfl rfl (szs_mk ⟨rfl, rfl, trivial⟩) (by decide)) ?_)))))
      rintro _ _ _ ⟨b29, rfl, rfl, rfl⟩
      refine SL.freeze fun g1 hle1 hb29 => ?_
      refine SL.W (SO.buildSlice sty22 rfl rfl rfl (szs_mk ⟨rfl, trivial⟩) (by decide)) ?_
      rintro _ _ _ ⟨b30, rfl, rfl, rfl⟩
      refine SL.freeze fun g2 hle2 hb30 => ?_
      have hlit30 : Lists g2 (.slice (some ⟨b30, 0, none⟩) 1 1) [[0, 1]] := ⟨[svOf (.slice (some ⟨b29, 0, none⟩) 2 2)], SlA.lit hb30 rfl rfl, ⟨SlA.lit (hle2 _ _ hb29) rfl rfl, trivial⟩⟩
      refine SL.W (SO.buildSlice sty45 rfl rfl rfl (szs_mk ⟨rfl, rfl, trivial⟩) (by decide)) ?_
      rintro _ _ _ ⟨b31, rfl, rfl, rfl⟩
      refine SL.freeze fun g3 hle3 hb31 => ?_
      refine SL.W (SO.buildSlice sty45 rfl rfl rfl (szs_mk ⟨rfl, rfl, trivial⟩) (by decide)) ?_
      rintro _ _ _ ⟨b32, rfl, rfl, rfl⟩
      refine SL.freeze fun g4 hle4 hb32 => ?_
      refine SL.W (SO.buildSlice sty22 rfl rfl rfl (szs_mk ⟨rfl, rfl, trivial⟩) (by decide)) ?_
      rintro _ _ _ ⟨b33, rfl, rfl, rfl⟩
      refine SL.freeze fun g5 hle5 hb33 => ?_
      have hlit33 : Lists g5 (.slice (some ⟨b33, 0, none⟩) 2 2) [[0, 1], [1, 2]] := ⟨[svOf (.slice (some ⟨b31, 0, none⟩) 2 2), svOf (.slice (some ⟨b32, 0, none⟩) 2 2)], SlA.lit hb33 rfl rfl, ⟨SlA.lit (hle5 _ _ (hle4 _ _ hb31)) rfl rfl, SlA.lit (hle5 _ _ hb32) rfl rfl, trivial⟩⟩
      refine SL.W (SO.buildSlice sty45 rfl rfl rfl (szs_mk ⟨rfl, rfl, trivial⟩) (by decide)) ?_
      rintro _ _ _ ⟨b34, rfl, rfl, rfl⟩
      refine SL.freeze fun g6 hle6 hb34 => ?_
      refine SL.W (SO.buildSlice sty45 rfl rfl rfl (szs_mk ⟨rfl, rfl, trivial⟩) (by decide)) ?_
      rintro _ _ _ ⟨b35, rfl, rfl, rfl⟩
      refine SL.freeze fun g7 hle7 hb35 => ?_
      refine SL.W (SO.buildSlice sty45 rfl rfl rfl (szs_mk ⟨rfl, rfl, trivial⟩) (by decide)) ?_
      rintro _ _ _ ⟨b36, rfl, rfl, rfl⟩
      refine SL.freeze fun g8 hle8 hb36 => ?_
      refine SL.W (SO.buildSlice sty22 rfl rfl rfl (szs_mk ⟨rfl, rfl, rfl, trivial⟩) (by decide)) ?_
      rintro _ _ _ ⟨b37, rfl, rfl, rfl⟩
      refine SL.freeze fun g9 hle9 hb37 => ?_
      have hlit37 : Lists g9 (.slice (some ⟨b37, 0, none⟩) 3 3) [[0, 1], [1, 2], [0, 2]] := ⟨[svOf (.slice (some ⟨b34, 0, none⟩) 2 2), svOf (.slice (some ⟨b35, 0, none⟩) 2 2), svOf (.slice (some ⟨b36, 0, none⟩) 2 2)], SlA.lit hb37 rfl rfl, ⟨SlA.lit (hle9 _ _ (hle8 _ _ (hle7 _ _ hb34))) rfl rfl, SlA.lit (hle9 _ _ (hle8 _ _ hb35)) rfl rfl, SlA.lit (hle9 _ _ hb36) rfl rfl, trivial⟩⟩
      refine SL.U (SU.build rfl (build92 _ _ _ _ _ _ _ _ _)) (SL.W (SO.alloc zeroValue92) ?_)
      rintro _ _ _ ⟨b5, rfl, rfl, rfl⟩
      refine SL.on (SO.storeAllK 0 sizeOf92 rfl rfl rfl rfl rfl (by exact ⟨rfl, rfl, rfl, trivial⟩)) ?_
      rintro _ _ _ ⟨rfl, rfl⟩
      refine SL.nil (ST.thenN ?_)
      have hl1 := three_lists hy3 (hlit30.mono (hle3.trans (hle4.trans (hle5.trans (hle6.trans (hle7.trans (hle8.trans hle9))))))) (hlit33.mono (hle6.trans (hle7.trans (hle8.trans hle9)))) hlit37
      have hl2 := three_lists hy33 (hlit30.mono (hle3.trans (hle4.trans (hle5.trans (hle6.trans (hle7.trans (hle8.trans hle9))))))) (hlit33.mono (hle6.trans (hle7.trans (hle8.trans hle9)))) hlit37
      refine SC.to (fun w hw => hw) (g' := g9) (s' := pt b5 (.cells #[.slice (some ⟨b30, 0, none⟩) 1 1, .slice (some ⟨b33, 0, none⟩) 2 2, .slice (some ⟨b37, 0, none⟩) 3 3] 92 (0, 0)) :: pt b3 (.cells #[.slice none 0 0] 27 (0, 0)) :: pt b2 (.cells #[.slice none 0 0] 27 (0, 0)) :: pt b1 (.cells #[vi kd, .slice p n c, vi y] 40 (0, 0)) :: s) ?_
      refine SC.draw [12] [(0, 2), (1, 2), (2, 1), (4, 2), (5, 1), (6, 2), (3, 0), (7, 0), (8, 2), (9, 1), (10, 0), (11, 0), (12, 0)] Tryz.mixed (by kernel_rfl) ?_
      refine SP.U (i := 0) rfl (SU.move rfl) (SP.U (i := 1) rfl (SU.indexAddrA underlying92 sizeOf22 rfl rfl (by omega) (by omega)) (SP.K (i := 2) rfl (SQ.load (v := sel3 (modW y 3) (.slice (some ⟨b30, 0, none⟩) 1 1) (.slice (some ⟨b33, 0, none⟩) 2 2) (.slice (some ⟨b37, 0, none⟩) 3 3)) isAgg22 rfl (CellAt.own 0 rfl (sel3_get hy3 _ _ _))) (SP.U (i := 4) rfl (SU.fieldAddr underlying40 rfl sizeOf3 rfl) (SP.K (i := 5) rfl (SQ.load (v := vi y) isAgg3 rfl (CellAt.own 3 rfl rfl)) (SP.U (i := 6) rfl (SU.quo rfl rfl (by decide)) (SP.o (i := 3) rfl (SO.call call14 rfl (refSimplicial_spec E g9 _ _ _ hl1 (by have := (three_small (modW y 3)).1; omega) (fun x hx => by have := (three_small (modW y 3)).2 x hx; omega))) (by decide) (.inr (by rintro _ ga _ ⟨rfl, hlea, ua, rfl, hua⟩; exact ⟨by assumption, (by exact .refl _)⟩)) ?_))))))
      rintro _ ga _ ⟨rfl, hlea, ua, rfl, hua⟩
      obtain ⟨qa, da, rfl⟩ := hua.form
      refine SP.o (i := 7) rfl (SO.call call38 rfl (mod_spec E ga _ _ 3 (by decide))) (by decide) (.inr (by rintro _ _ _ ⟨rfl, rfl, rfl⟩; exact ⟨by assumption, (by exact .refl _)⟩)) ?_
      rintro _ _ _ ⟨rfl, rfl, rfl⟩
      refine SP.U (i := 8) rfl (SU.indexAddrA underlying92 sizeOf22 rfl rfl (by omega) (by omega)) (SP.K (i := 9) rfl (SQ.load (v := sel3 (modW (IntKind.i64.wrap (y.tdiv 3)) 3) (.slice (some ⟨b30, 0, none⟩) 1 1) (.slice (some ⟨b33, 0, none⟩) 2 2) (.slice (some ⟨b37, 0, none⟩) 3 3)) isAgg22 rfl (CellAt.own 0 rfl (sel3_get hy33 _ _ _))) (SP.o (i := 10) rfl (SO.call call14 rfl (refSimplicial_spec E ga _ _ _ (hl2.mono hlea) (by have := (three_small (modW (IntKind.i64.wrap (y.tdiv 3)) 3)).1; omega) (fun x hx => by have := (three_small (modW (IntKind.i64.wrap (y.tdiv 3)) 3)).2 x hx; omega))) (by decide) (.inr (by rintro _ gb _ ⟨rfl, hleb, ub, rfl, hub⟩; exact ⟨by exact Le.trans (by assumption) (by assumption), (by exact .refl _)⟩)) ?_))
      rintro _ gb _ ⟨rfl, hleb, ub, rfl, hub⟩
      obtain ⟨qb, db, rfl⟩ := hub.form
      have hleab := hlea.trans hleb
      refine SP.o (i := 11) rfl (SO.call call18 rfl (refProduct_spec E gb _ _ _ _ _ (hua.mono hleb) hub (simpC_fits _).1 (simpC_fits _).1)) (by decide) (.inr (by rintro _ gc _ ⟨rfl, hlec, uc, rfl, huc⟩; exact ⟨by exact Le.trans (by assumption) (by assumption), (by exact .refl _)⟩)) ?_
      rintro _ gc _ ⟨rfl, hlec, uc, rfl, huc⟩
      obtain ⟨qc, dc, rfl⟩ := huc.form
      refine SP.on (i := 12) rfl (SO.storeAllK 1 sizeOf27 rfl rfl rfl rfl rfl (by exact ⟨rfl, trivial⟩)) (.inl (by decide)) ?_
      rintro _ _ _ ⟨rfl, rfl⟩
      refine SP.nil (ST.blockN (ST.drop (s' := pt b3 (.cells #[(Value.slice qc _ dc)] 27 (0, 0)) :: pt b2 (.cells #[.slice none 0 0] 27 (0, 0)) :: pt b1 (.cells #[vi kd, .slice p n c, vi y] 40 (0, 0)) :: s) (.cons _ (.refl _)) ?_))
      exact ST.mid (gc, _) ⟨rfl, rfl, rfl, trivial⟩ rfl rfl ⟨(hle1.trans (hle2.trans (hle3.trans (hle4.trans (hle5.trans (hle6.trans (hle7.trans (hle8.trans hle9)))))))).trans (hlea.trans (hleb.trans hlec)), huc⟩
    · skip
      refine SC.seq (SC.region (SL.U (SU.fieldAddr underlying40 rfl sizeOf3 rfl) (SL.K (SQ.load (v := vi kd) isAgg3 rfl (CellAt.own 2 rfl rfl)) (SL.W (SO.call call38 rfl (mod_spec E g _ _ 8 (by decide))) ?_))))
      rintro _ _ _ ⟨rfl, rfl, rfl⟩
      rw [hm]
      refine SL.nil (ST.thenN (SC.block (SC.seq (SC.seq (SC.region (SL.U (SU.eql rfl rfl) (SL.A rfl (SL.nil (ST.thenN (SC.condF rfl (SC.seq (SC.region (SL.U (SU.eql rfl rfl) (SL.A rfl (SL.nil (ST.thenN (SC.condF rfl (SC.region (SL.U (SU.eql rfl rfl) (SL.A rfl (SL.nil (ST.thenN (SC.condF rfl (SC.seq (SC.region (SL.U (SU.eql rfl rfl) (SL.A rfl (SL.nil (ST.thenN ?_)))))))))))))))))))))))))))))
      refine SC.condF rfl (SC.seq (SC.region (SL.U (SU.eql rfl rfl) (SL.A rfl (SL.nil (ST.thenN (SC.condF rfl (SC.seq (SC.region (SL.U (SU.eql rfl rfl) (SL.A rfl (SL.nil (ST.thenN (SC.condT rfl (SC.region (SL.U (SU.fieldAddr underlying40 rfl sizeOf3 rfl) (SL.K (SQ.load (v := vi y) isAgg3 rfl (CellAt.own 2 rfl rfl)) (SL.W (SO.call call38 rfl (mod_spec E g _ _ 5 (by decide))) ?_))))))))))))))))))
      rintro _ _ _ ⟨rfl, rfl, rfl⟩
      refine SL.U (SU.eq (v' := vi (((2 + modW y 5).toNat : Nat) : Int)) (SU.add rfl rfl (by omega)) (congrArg vi (by omega))) (SL.W (SO.call call65 rfl (polygon_spec E g _ (2 + modW y 5).toNat (by omega) (by omega))) ?_)
      rintro _ g3 _ ⟨rfl, hle3, u, rfl, hu⟩
      obtain ⟨q, d, rfl⟩ := hu.form
      refine SL.on (SO.storeAllK 0 sizeOf27 rfl rfl rfl rfl rfl (by exact ⟨rfl, trivial⟩)) ?_
      rintro _ _ _ ⟨rfl, rfl⟩
      refine SL.nil (ST.blockN ?_)
      exact ST.mid (g3, _) ⟨rfl, rfl, rfl, trivial⟩ rfl rfl ⟨hle3, hu⟩
    · skip
      refine SC.seq (SC.region (SL.U (SU.fieldAddr underlying40 rfl sizeOf3 rfl) (SL.K (SQ.load (v := vi kd) isAgg3 rfl (CellAt.own 2 rfl rfl)) (SL.W (SO.call call38 rfl (mod_spec E g _ _ 8 (by decide))) ?_))))
      rintro _ _ _ ⟨rfl, rfl, rfl⟩
      rw [hm]
      refine SL.nil (ST.thenN (SC.block (SC.seq (SC.seq (SC.region (SL.U (SU.eql rfl rfl) (SL.A rfl (SL.nil (ST.thenN (SC.condF rfl (SC.seq (SC.region (SL.U (SU.eql rfl rfl) (SL.A rfl (SL.nil (ST.thenN (SC.condF rfl (SC.region (SL.U (SU.eql rfl rfl) (SL.A rfl (SL.nil (ST.thenN (SC.condF rfl (SC.seq (SC.region (SL.U (SU.eql rfl rfl) (SL.A rfl (SL.nil (ST.thenN ?_)))))))))))))))))))))))))))))
      refine SC.condF rfl (SC.seq (SC.region (SL.U (SU.eql rfl rfl) (SL.A rfl (SL.nil (ST.thenN (SC.condF rfl (SC.seq (SC.region (SL.U (SU.eql rfl rfl) (SL.A rfl (SL.nil (ST.thenN (SC.condF rfl (SC.seq (SC.region (SL.U (SU.eql rfl rfl) (SL.A rfl (SL.nil (ST.thenN (SC.condT rfl (SC.seq (SC.region (SL.W (SO.buildSlice sty45 rfl rfl rfl (szs_mk ⟨rfl, rfl, trivial⟩) (by decide)) ?_))))))))))))))))))))))))
      rintro _ _ _ ⟨b60, rfl, rfl, rfl⟩
      refine SL.freeze fun g1 hle1 hb60 => ?_
      refine SL.W (SO.buildSlice sty22 rfl rfl rfl (szs_mk ⟨rfl, trivial⟩) (by decide)) ?_
      rintro _ _ _ ⟨b61, rfl, rfl, rfl⟩
      refine SL.freeze fun g2 hle2 hb61 => ?_
      have hlit61 : Lists g2 (.slice (some ⟨b61, 0, none⟩) 1 1) [[0, 1]] := ⟨[svOf (.slice (some ⟨b60, 0, none⟩) 2 2)], SlA.lit hb61 rfl rfl, ⟨SlA.lit (hle2 _ _ hb60) rfl rfl, trivial⟩⟩
      refine SL.W (SO.call call14 rfl (refSimplicial_spec E g2 _ _ _ hlit61 (by decide) (by decide))) ?_
      rintro _ ga _ ⟨rfl, hlea, ua, rfl, hua⟩
      obtain ⟨qa, da, rfl⟩ := hua.form
      refine SL.W (SO.alloc zeroValue27) ?_
      rintro _ _ _ ⟨b6, rfl, rfl, rfl⟩
      refine SL.on (SO.storeAllK 0 sizeOf27 rfl rfl rfl rfl rfl (by exact ⟨rfl, trivial⟩)) ?_
      rintro _ _ _ ⟨rfl, rfl⟩
      refine SL.nil (ST.thenN ?_)
      refine SC.to (fun w hw => hw) (g' := ga) (s' := pt b6 (.cells #[.slice qa (simpC [[0, 1]]).length da] 27 (0, 0)) :: pt b3 (.cells #[.slice none 0 0] 27 (0, 0)) :: pt b2 (.cells #[.slice none 0 0] 27 (0, 0)) :: pt b1 (.cells #[vi kd, .slice p n c, vi y] 40 (0, 0)) :: s) ?_
      refine SC.draw [5] [(0, 1), (1, 1), (3, 1), (2, 0), (4, 0), (5, 0)] Tryz.mixed (by kernel_rfl) ?_
      refine SP.K (i := 0) rfl (SQ.loadVarK 0 isAgg27 sizeOf27 rfl rfl rfl) (SP.K (i := 1) rfl (SQ.loadVarK 0 isAgg27 sizeOf27 rfl rfl rfl) (SP.K (i := 3) rfl (SQ.loadVarK 0 isAgg27 sizeOf27 rfl rfl rfl) (SP.o (i := 2) rfl (SO.call call18 rfl (refProduct_spec E ga _ _ _ _ _ hua hua (simpC_fits _).1 (simpC_fits _).1)) (by decide) (.inr (by rintro _ gb _ ⟨rfl, hleb, ub, rfl, hub⟩; exact ⟨by assumption, (by exact .refl _)⟩)) ?_)))
      rintro _ gb _ ⟨rfl, hleb, ub, rfl, hub⟩
      obtain ⟨qb, db, rfl⟩ := hub.form
      refine SP.o (i := 4) rfl (SO.call call18 rfl (refProduct_spec E gb _ _ _ _ _ hub (hua.mono hleb) (refProdC_fits _ _).1 (simpC_fits _).1)) (by decide) (.inr (by rintro _ gc _ ⟨rfl, hlec, uc, rfl, huc⟩; exact ⟨by exact Le.trans (by assumption) (by assumption), (by exact .refl _)⟩)) ?_
      rintro _ gc _ ⟨rfl, hlec, uc, rfl, huc⟩
      obtain ⟨qc, dc, rfl⟩ := huc.form
      refine SP.on (i := 5) rfl (SO.storeAllK 1 sizeOf27 rfl rfl rfl rfl rfl (by exact ⟨rfl, trivial⟩)) (.inl (by decide)) ?_
      rintro _ _ _ ⟨rfl, rfl⟩
      refine SP.nil (ST.blockN (ST.drop (s' := pt b3 (.cells #[(Value.slice qc _ dc)] 27 (0, 0)) :: pt b2 (.cells #[.slice none 0 0] 27 (0, 0)) :: pt b1 (.cells #[vi kd, .slice p n c, vi y] 40 (0, 0)) :: s) (.cons _ (.refl _)) ?_))
      exact ST.mid (gc, _) ⟨rfl, rfl, rfl, trivial⟩ rfl rfl ⟨(hle1.trans hle2).trans (hlea.trans (hleb.trans hlec)), huc⟩
    · skip
      refine SC.seq (SC.region (SL.U (SU.fieldAddr underlying40 rfl sizeOf3 rfl) (SL.K (SQ.load (v := vi kd) isAgg3 rfl (CellAt.own 2 rfl rfl)) (SL.W (SO.call call38 rfl (mod_spec E g _ _ 8 (by decide))) ?_))))
      rintro _ _ _ ⟨rfl, rfl, rfl⟩
      rw [hm]
      refine SL.nil (ST.thenN (SC.block (SC.seq (SC.seq (SC.region (SL.U (SU.eql rfl rfl) (SL.A rfl (SL.nil (ST.thenN (SC.condF rfl (SC.seq (SC.region (SL.U (SU.eql rfl rfl) (SL.A rfl (SL.nil (ST.thenN (SC.condF rfl (SC.region (SL.U (SU.eql rfl rfl) (SL.A rfl (SL.nil (ST.thenN (SC.condF rfl (SC.seq (SC.region (SL.U (SU.eql rfl rfl) (SL.A rfl (SL.nil (ST.thenN ?_)))))))))))))))))))))))))))))
      refine SC.condF rfl (SC.seq (SC.region (SL.U (SU.eql rfl rfl) (SL.A rfl (SL.nil (ST.thenN (SC.condF rfl (SC.seq (SC.region (SL.U (SU.eql rfl rfl) (SL.A rfl (SL.nil (ST.thenN (SC.condF rfl (SC.seq (SC.region (SL.U (SU.eql rfl rfl) (SL.A rfl (SL.nil (ST.thenN (SC.condF rfl (SC.seq (SC.region (SL.U (SU.eql rfl rfl) (SL.A rfl (SL.nil (ST.thenN (SC.condT rfl ?_))))))))))))))))))))))))))))
      refine SC.draw [13] [(0, 2), (1, 1), (3, 2), (4, 1), (6, 2), (7, 1), (2, 0), (5, 0), (8, 0), (9, 2), (10, 2), (11, 0), (12, 0), (13, 0)] Tryz.mixed (by kernel_rfl) ?_
      refine SP.U (i := 0) rfl (SU.fieldAddr underlying40 rfl sizeOf22 rfl) (SP.K (i := 1) rfl (SQ.load (v := .slice p n c) isAgg22 rfl (CellAt.own 2 rfl rfl)) (SP.U (i := 3) rfl (SU.fieldAddr underlying40 rfl sizeOf3 rfl) (SP.K (i := 4) rfl (SQ.load (v := vi y) isAgg3 rfl (CellAt.own 2 rfl rfl)) (SP.U (i := 6) rfl (SU.fieldAddr underlying40 rfl sizeOf3 rfl) (SP.K (i := 7) rfl (SQ.load (v := vi y) isAgg3 rfl (CellAt.own 2 rfl rfl)) (SP.o (i := 2) rfl (SO.call call10 rfl (sets_spec E g _ _ ls hv)) (by decide) (.inr (by rintro v72 g1 _ ⟨rs1, rfl, hle1, hall1⟩; exact ⟨by assumption, (by exact .cons _ (.refl _))⟩)) ?_))))))
      rintro v72 g1 _ ⟨rs1, rfl, hle1, hall1⟩
      refine SP.o (i := 5) rfl (SO.call call64 rfl (surface_spec E g1 _ y)) (by decide) (.inr (by rintro v75 g2 _ ⟨rfl, hle2, hsv⟩; exact ⟨by exact Le.trans (by assumption) (by assumption), (by exact .cons _ (.refl _))⟩)) ?_
      rintro v75 g2 _ ⟨rfl, hle2, hsv⟩
      obtain ⟨rs2, hrs2, hall2⟩ := hsv
      have hrl2 := hall2.length
      have hrl1 := hall1.length
      obtain ⟨q2, d2, rfl⟩ := SlA.form hrs2
      have hcap2 := (SlA.cap hrs2).2
      have hcut := SlA.cut hrs2 (l := 0) (m := (2 + modW y 2).toNat) (Nat.zero_le _) (by omega)
      rw [List.drop_zero, Nat.sub_zero] at hcut
      refine SP.o (i := 8) rfl (SO.call call38 rfl (mod_spec E g2 _ _ 2 (by decide))) (by decide) (.inr (by rintro _ _ _ ⟨rfl, rfl, rfl⟩; exact ⟨by exact Le.trans (by assumption) (by assumption), (by exact .cons _ (.refl _))⟩)) ?_
      rintro _ _ _ ⟨rfl, rfl, rfl⟩
      refine SP.U (i := 9) rfl (SU.add rfl rfl (by omega)) (SP.U (i := 10) rfl (SU.sliceH underlying22 sizeOf45 rfl rfl (by omega) (by omega)) (SP.o (i := 11) rfl (SO.appA (e := encSv) 0 sty22 rfl rfl rfl hcut (by rw [List.length_take]; omega) (by rw [List.length_take]; omega)) (by decide) (.inr (by rintro v81 _ _ ⟨rfl, rfl⟩; exact ⟨by exact Le.trans (by assumption) (by assumption), (by exact .cons _ (.refl _))⟩)) ?_))
      rintro v81 _ _ ⟨rfl, rfl⟩
      refine SP.freezeRow fun g3 hle3 hs3 => ?_
      have hls : Lists g3 v81 (setsC ls ++ (surfC y).take (2 + modW y 2).toNat) := ⟨_, hs3, (hall1.mono fun _ _ => ListR.mono (hle2.trans hle3)).append ((All2.take _ hall2).mono fun _ _ => ListR.mono hle3)⟩
      have hle13 := hle1.trans (hle2.trans hle3)
      refine SP.o (i := 12) rfl (SO.call call14 rfl (refSimplicial_spec E g3 _ _ _ hls (by rw [List.length_append, List.length_take]; omega) (fun x hx => by rcases List.mem_append.1 hx with h | h; (have := hss.2 x h; omega); (have := hsf.2.2 x (List.mem_of_mem_take h); omega)))) (by decide) (.inr (by rintro _ g4 _ ⟨rfl, hle4, u, rfl, hu⟩; exact ⟨by exact Le.trans (by assumption) (by assumption), (by exact .refl _)⟩)) ?_
      rintro _ g4 _ ⟨rfl, hle4, u, rfl, hu⟩
      obtain ⟨q, d, rfl⟩ := hu.form
      refine SP.on (i := 13) rfl (SO.storeAllK 0 sizeOf27 rfl rfl rfl rfl rfl (by exact ⟨rfl, trivial⟩)) (.inl (by decide)) ?_
      rintro _ _ _ ⟨rfl, rfl⟩
      refine SP.nil (ST.blockN ?_)
      exact ST.mid (g4, _) ⟨rfl, rfl, rfl, trivial⟩ rfl rfl ⟨hle1.trans (hle2.trans (hle3.trans hle4)), hu⟩
  rintro ⟨g1, bv⟩ ⟨hle1, hbv⟩
  dsimp only at hle1 hbv ⊢
  generalize hB : baseM (modW kd 8) ls y = B at *
  obtain ⟨qb, db, rfl⟩ := hbv.form
  refine SC.seq (SC.seq (SC.region (SL.U (SU.fieldAddr underlying27 rfl sizeOf25 rfl) (SL.K (SQ.load (v := .slice qb B.length db) isAgg25 rfl (CellAt.own 0 rfl rfl)) (SL.U (SU.lenN underlying25 rfl) (SL.U (SU.gtr rfl rfl) (SL.nil (ST.thenN ?_))))))))
  refine SC.ifP rfl (fun hbig => ?_) (fun hbig => ?_)
  · skip
    refine SC.region (SL.W (SO.call call66 rfl (torus_spec E g1 _)) ?_)
    rintro _ g2 _ ⟨rfl, hle2, ut, rfl, hut⟩
    obtain ⟨qt, dt, rfl⟩ := hut.form
    refine SL.on (SO.storeAllK 0 sizeOf27 rfl rfl rfl rfl rfl (by exact ⟨rfl, trivial⟩)) ?_
    rintro _ _ _ ⟨rfl, rfl⟩
    refine SL.nil (ST.thenN (SC.seq ?_))
    refine SC.to (fun w hw => hw) (g' := g2) (s' := pt b3 (.cells #[(Value.slice qt torusC.length dt)] 27 (0, 0)) :: pt b2 (.cells #[.slice none 0 0] 27 (0, 0)) :: pt b1 (.cells #[vi kd, .slice p n c, vi y] 40 (0, 0)) :: s) ?_
    refine SC.region (SL.K (SQ.loadVarK 0 isAgg27 sizeOf27 rfl rfl rfl) (SL.U (SU.fieldAddr underlying40 rfl sizeOf3 rfl) (SL.K (SQ.load (v := vi y) isAgg3 rfl (CellAt.own 2 rfl rfl)) (SL.W (SO.call call67 rfl (renumbered_spec E g2 _ _ torusC y hut (refProdC_fits _ _).1)) ?_))))
    rintro _ g3 _ ⟨rfl, hle3, x3, rfl, hx3⟩
    obtain ⟨q3, d3, rfl⟩ := hx3.form
    refine SL.on (SO.storeAllK 1 sizeOf27 rfl rfl rfl rfl rfl (by exact ⟨rfl, trivial⟩)) ?_
    rintro _ _ _ ⟨rfl, rfl⟩
    refine SL.nil (ST.thenN (SC.ret ?_))
    exact ST.retCD 1 s (.inl rfl) results20 rfl isAgg27 sizeOf27 rfl rfl (.cons _ (.cons _ (.cons _ (.refl _)))) ⟨rfl, hle1.trans (hle2.trans hle3), _, rfl, by unfold bigC; rw [if_pos hbig]; exact hx3⟩
  · skip
    refine SC.skip (ST.thenN (SC.seq ?_))
    refine SC.to (fun w hw => hw) (g' := g1) (s' := pt b3 (.cells #[(Value.slice qb B.length db)] 27 (0, 0)) :: pt b2 (.cells #[.slice none 0 0] 27 (0, 0)) :: pt b1 (.cells #[vi kd, .slice p n c, vi y] 40 (0, 0)) :: s) ?_
    refine SC.region (SL.K (SQ.loadVarK 0 isAgg27 sizeOf27 rfl rfl rfl) (SL.U (SU.fieldAddr underlying40 rfl sizeOf3 rfl) (SL.K (SQ.load (v := vi y) isAgg3 rfl (CellAt.own 2 rfl rfl)) (SL.W (SO.call call67 rfl (renumbered_spec E g1 _ _ B y hbv hfit)) ?_))))
    rintro _ g3 _ ⟨rfl, hle3, x3, rfl, hx3⟩
    obtain ⟨q3, d3, rfl⟩ := hx3.form
    refine SL.on (SO.storeAllK 1 sizeOf27 rfl rfl rfl rfl rfl (by exact ⟨rfl, trivial⟩)) ?_
    rintro _ _ _ ⟨rfl, rfl⟩
    refine SL.nil (ST.thenN (SC.ret ?_))
    exact ST.retCD 1 s (.inl rfl) results20 rfl isAgg27 sizeOf27 rfl rfl (.cons _ (.cons _ (.cons _ (.refl _)))) ⟨rfl, hle1.trans hle3, _, rfl, by unfold bigC; rw [if_neg hbig]; exact hx3⟩
end Go.Proofs.YtkdibcicncjpdaaGreat
namespace Go.Proofs.YtkdibcicncjpdaaGreat
open _root_.Go.Proofs.Tryz _root_.Go.Proofs.YtkdibcicncjpdaaGreat.Tryz
open Go Go.Sy Go.Pl Go.Proofs
set_option maxRecDepth 100000
theorem modW_rangeL (a b : Int) (h0 : 0 < b) (h1 : b ≤ 1099511627776) : 0 ≤ modW a b ∧ modW a b < b := by
  have h2 : a.tmod b < b := Int.tmod_lt_of_pos a h0
  have h3 : -b < a.tmod b := by
    have := Int.lt_tmod_of_pos a h0
    omega
  unfold modW
  rw [IntWalk.i64_in _ (by omega), Int.tmod_eq_emod_of_nonneg (by omega)]
  exact ⟨Int.emod_nonneg _ (by omega), Int.emod_lt_of_pos _ h0⟩
theorem modW_nat (a : Int) (n : Nat) (h0 : 0 < n) (h1 : n ≤ 1099511627776) : modW a n = (((modW a n).toNat : Nat) : Int) ∧ (modW a n).toNat < n := by
  have := modW_rangeL a n (by omega) (by omega)
  omega
theorem ownS_split : ∀ {A : List Cl} {RA : List Rc} (x : Cl) (rx : Rc) (B : List Cl) (RB : List Rc), A.length = RA.length → ownS (A ++ x :: B) (RA ++ rx :: RB) = ownS A RA ++ ownC x rx :: ownS B RB
  | [], [], _, _, _, _, _ => rfl
  | a :: A, r :: RA, x, rx, B, RB, h => by simp only [List.cons_append, ownS]; rw [ownS_split x rx B RB (by simpa using h)]
  | [], _ :: _, _, _, _, _, h => by simp at h
  | _ :: _, [], _, _, _, _, h => by simp at h
theorem freezeBut {E : World} {s : Own} {w : World} {g : PH} {R : Ent} {A B : List Cl} {RA RB : List Rc} {x : Cl} {rx : Rc} (h1 : All2 CellO A RA) (h2 : All2 CellO B RB) (h : At E g (R :: (ownS (A ++ x :: B) (RA ++ rx :: RB) ++ s)) w) :
    ∃ g', Le g g' ∧ At E g' (R :: ownC x rx :: s) w ∧ All2 (CellR g') A RA ∧ All2 (CellR g') B RB := by
  rw [ownS_split x rx B RB h1.length] at h
  have hp : (R :: (ownS A RA ++ ownC x rx :: ownS B RB ++ s)).Perm (ownS A RA ++ (ownS B RB ++ (R :: ownC x rx :: s))) := by
    rw [List.append_assoc]
    refine List.perm_middle.symm.trans (List.Perm.append_left _ ?_)
    refine (List.Perm.cons R (List.perm_middle (l₁ := ownS B RB)).symm).trans ?_
    exact List.perm_middle.symm
  obtain ⟨g1, hl1, ha1, hs1⟩ := freezeO h1 (h.perm hp)
  obtain ⟨g2, hl2, ha2, hs2⟩ := freezeO h2 ha1
  exact ⟨g2, hl1.trans hl2, ha2, hs1.mono fun _ _ => CellR.mono hl2, hs2⟩
theorem SC.freezeBut {P : Program} {N : Nat} {E : World} {Q : Exit → Act → World → Prop} {f : Fr} {g : PH} {s : Own} {o : Code} {R S : Ent} {A B : List Cl} {RA RB : List Rc} {x : Cl} {rx : Rc} (h1 : All2 CellO A RA) (h2 : All2 CellO B RB)
    (h : ∀ g', Le g g' → All2 (CellR g') A RA → All2 (CellR g') B RB → SC P N E o Q f g' (R :: ownC x rx :: S :: s)) : SC P N E o Q f g (S :: R :: (ownS (A ++ x :: B) (RA ++ rx :: RB) ++ s)) := fun a w ha hw => by
  have hp : (S :: R :: (ownS (A ++ x :: B) (RA ++ rx :: RB) ++ s)).Perm (R :: (ownS (A ++ x :: B) (RA ++ rx :: RB) ++ (S :: s))) := (List.Perm.swap _ _ _).trans (List.Perm.cons R List.perm_middle.symm)
  obtain ⟨g', h3, h4, h5, h6⟩ := Go.Proofs.YtkdibcicncjpdaaGreat.freezeBut h1 h2 (hw.perm hp)
  exact h g' h3 h5 h6 a w ha h4
theorem All2.split {α β : Type} {R : α → β → Prop} : ∀ {l : List α} {rs : List β} {k : Nat}, All2 R l rs → k < l.length → ∃ A x B RA rx RB, l = A ++ x :: B ∧ rs = RA ++ rx :: RB ∧ A.length = k ∧ RA.length = k ∧ All2 R A RA ∧ R x rx ∧ All2 R B RB
  | x :: l, r :: rs, 0, h, _ => ⟨[], x, l, [], r, rs, rfl, rfl, rfl, rfl, trivial, h.1, h.2⟩
  | x :: l, r :: rs, k + 1, h, hk => by
    obtain ⟨A, y, B, RA, ry, RB, rfl, rfl, h1, h2, h3, h4, h5⟩ := All2.split h.2 (by simpa using hk)
    exact ⟨x :: A, y, B, r :: RA, ry, RB, rfl, rfl, by simp [h1], by simp [h2], ⟨h.1, h3⟩, h4, h5⟩
  | [], [], _, _, hk => by simp at hk
  | [], _ :: _, _, h, _ => h.elim
  | _ :: _, [], _, h, _ => h.elim
theorem setMid {α : Type} {A B : List α} {x y : α} {k : Nat} (h : A.length = k) : (A ++ x :: B).set k y = A ++ y :: B := by subst h; simp
theorem getMid {α : Type} {A B : List α} {x : α} {k : Nat} (h : A.length = k) : (A ++ x :: B)[k]? = some x := by subst h; simp
def dflC : Cl := ⟨0, 0, []⟩
def dflS : Side := ⟨0, 0⟩
def negS (z : Side) : Side := ⟨z.cell, IntKind.i64.wrap (0 - z.sign)⟩
def withS (x : Cl) (ss : List Side) : Cl := ⟨x.id, x.dim, ss⟩
def pickC (l : List Cl) (n : Int) : Cl := l.getD (modW n l.length).toNat dflC
def spoilM (m : Int) (l : List Cl) (k : Nat) (x : Cl) (n : Int) (j : Nat) : List Cl :=
  if m = 0 then l.set k ⟨modW n 9 - 1, x.dim, x.sides⟩
  else if m = 1 then l.set k ⟨x.id, modW n 12 - 1, x.sides⟩
  else if m = 2 then l.eraseIdx k
  else if m = 3 then l.set k (withS x (x.sides.set j ⟨(x.sides.getD j dflS).cell, modW n 4 - 2⟩))
  else if m = 4 then l.set k (withS x (x.sides.set j (negS (x.sides.getD j dflS))))
  else if m = 5 then l.set k (withS x (x.sides.set j ⟨(pickC l (IntKind.i64.wrap (n.tdiv 3))).id, (x.sides.getD j dflS).sign⟩))
  else if m = 6 then l.set k (withS x (x.sides.eraseIdx j))
  else if m = 7 then l.set k (withS x (x.sides ++ [⟨(pickC l n).id, 1 - 2 * modW n 2⟩]))
  else if m = 8 then l ++ [x]
  else if m = 9 then l.set k (withS x (x.sides ++ (pickC l n).sides))
  else if m = 10 then l.set k (withS x (x.sides.map negS))
  else if m = 11 then l ++ [⟨500 + modW n 3, modW n 4, x.sides⟩]
  else l
def sideJ (x : Cl) (n : Int) : Nat := if 0 < x.sides.length then (modW n x.sides.length).toNat else 0
def spoilC (l : List Cl) (q0 q1 q2 : Int) : List Cl :=
  if l.length = 0 then [⟨q1, 0, []⟩] else spoilM (modW q0 13) l (modW q1 l.length).toNat (pickC l q1) q2 (sideJ (pickC l q1) q2)
def Small (l : List Cl) : Prop := l.length ≤ 1000000 ∧ ∀ c ∈ l, c.sides.length ≤ 1000000
theorem Small.fits {l : List Cl} (h : Small l) : Fits l := ⟨by have := h.1; omega, fun c hc => by have := h.2 c hc; omega⟩
theorem canonC_small {l : List Cl} (h : Small l) : Small (canonC l) := by
  refine ⟨by simp [canonC, sortBy_length]; exact h.1, fun c hc => ?_⟩
  simp only [canonC, List.mem_map] at hc
  obtain ⟨c0, h0, rfl⟩ := hc
  simp only [normC, sortBy_length]
  exact h.2 c0 ((sortBy_mem l c0).1 h0)
theorem simpC_small (ls : List (List Int)) : Small (simpC ls) := by
  unfold simpC
  cases h : simpAll [] ls with
  | none => exact ⟨by simp, by simp⟩
  | some all =>
    obtain ⟨h1, h2⟩ := simpAll_facts [] ls (by simp) (by simp) all h
    refine canonC_small ⟨by rw [simpCells_length]; omega, fun c hc => ?_⟩
    obtain ⟨p, hp, rfl⟩ := List.mem_map.1 hc
    have h3 : p.1 ∈ all := by
      have := List.mem_map_of_mem (f := Prod.fst) hp
      simpa using this
    have h4 := h2 _ h3
    have h5 := simpSides_length all p.1 p.1.length
    simp only [simpCell]
    omega
theorem refProdC_small (a b : List Cl) : Small (refProdC a b) := by
  refine ⟨by have := (refProdC_fits a b).2; omega, ?_⟩
  unfold refProdC
  split
  · simp
  · rename_i hbad
    split
    · have ha : (refCheckC a).2 = 0 := Decidable.of_not_not fun h => hbad (by simp [refProdBad, h])
      have hb : (refCheckC b).2 = 0 := Decidable.of_not_not fun h => hbad (by simp [refProdBad, h])
      obtain ⟨_, _, hat, haf⟩ := refRight_facts ha
      obtain ⟨_, _, hbt, hbf⟩ := refRight_facts hb
      rw [← hat] at haf
      rw [← hbt] at hbf
      have hprod : prodAll a b = (tabC a).flatMap fun x => (tabC b).map (prodCell (tabC a) (tabC b) x) := by unfold prodAll; rw [← hat, ← hbt]
      intro c hc
      simp only [canonC, List.mem_map] at hc
      obtain ⟨c0, h0, rfl⟩ := hc
      simp only [normC, sortBy_length]
      have hc := (sortBy_mem _ c0).1 h0
      rw [hprod] at hc
      obtain ⟨x, hx, hc⟩ := List.mem_flatMap.1 hc
      obtain ⟨y, hy, rfl⟩ := List.mem_map.1 hc
      have h1 := (form_ok (haf x hx)).1
      have h2 := (form_ok (hbf y hy)).1
      simp [prodCell]
      omega
    · simp
theorem polyC_small {n : Nat} (h : n ≤ 6) : Small (polyC n) := by
  refine canonC_small ⟨by have := (polyAll_fits h).2; omega, fun c hc => ?_⟩
  unfold polyAll at hc
  rcases List.mem_append.1 hc with hc | hc
  · rcases List.mem_append.1 hc with hc | hc
    · rcases List.mem_append.1 hc with hc | hc
      · obtain ⟨i, _, rfl⟩ := List.mem_map.1 hc
        simp
      · obtain ⟨i, _, rfl⟩ := List.mem_map.1 hc
        simp
    · simp at hc
      subst hc
      simp [polyS_length]
      omega
  · split at hc
    · simp at hc
      subst hc
      simp [polyS_length]
      omega
    · simp at hc
theorem baseM_small (m : Int) (ls : List (List Int)) (y : Int) : Small (baseM m ls y) := by
  unfold baseM
  have h5 := modW_range y 5 (by decide) (by decide)
  repeat' split
  · exact simpC_small _
  · exact refProdC_small _ _
  · exact polyC_small (by omega)
  · exact refProdC_small _ _
  · exact simpC_small _
  · exact simpC_small _
theorem madeC_small (kd : Int) (ls : List (List Int)) (y : Int) : Small (madeC kd ls y) := by
  have hb : Small (bigC (baseM (modW kd 8) ls y)) := by
    unfold bigC
    split
    · exact refProdC_small _ _
    · exact baseM_small _ _ _
  refine canonC_small ⟨by rw [List.length_map]; exact hb.1, fun c hc => ?_⟩
  obtain ⟨x, hx, rfl⟩ := List.mem_map.1 hc
  simpa [renCell] using hb.2 x hx
theorem pickC_sides {l : List Cl} (h : Small l) (n : Int) : (pickC l n).sides.length ≤ 1000000 := by
  unfold pickC
  rw [List.getD_eq_getElem?_getD]
  cases hc : l[(modW n l.length).toNat]? with
  | none => simp [dflC]
  | some c => exact h.2 c (List.mem_of_getElem? hc)
theorem set_fits {l : List Cl} (h : Small l) (k : Nat) {c : Cl} (hc : c.sides.length ≤ 3000000) : Fits (l.set k c) := by
  refine ⟨by rw [List.length_set]; have := h.1; omega, fun d hd => ?_⟩
  rcases List.mem_or_eq_of_mem_set hd with hd | rfl
  · have := h.2 d hd; omega
  · omega
theorem snoc_fits {l : List Cl} (h : Small l) {c : Cl} (hc : c.sides.length ≤ 3000000) : Fits (l ++ [c]) := by
  refine ⟨by rw [List.length_append, List.length_singleton]; have := h.1; omega, fun d hd => ?_⟩
  rcases List.mem_append.1 hd with hd | hd
  · have := h.2 d hd; omega
  · simp at hd; subst hd; omega
theorem fits_ite {p : Prop} [Decidable p] {a b : List Cl} (ha : Fits a) (hb : Fits b) : Fits (if p then a else b) := by split <;> assumption
theorem spoilC_fits {l : List Cl} (h : Small l) (q0 q1 q2 : Int) : Fits (spoilC l q0 q1 q2) := by
  unfold spoilC
  split
  · exact ⟨by simp, by simp⟩
  · have hx := pickC_sides h q1
    have hy := pickC_sides h q2
    generalize pickC l q1 = x at *
    generalize modW q0 13 = m
    unfold spoilM
    repeat' with_reducible refine fits_ite ?_ ?_
    · exact set_fits h _ (c := ⟨_, _, x.sides⟩) (by show x.sides.length ≤ _; omega)
    · exact set_fits h _ (c := ⟨_, _, x.sides⟩) (by show x.sides.length ≤ _; omega)
    · exact ⟨by have := List.length_eraseIdx_le l (modW q1 l.length).toNat; have := h.1; omega, fun c hc => by have := h.2 c (List.mem_of_mem_eraseIdx hc); omega⟩
    · exact set_fits h _ (by simp only [withS, List.length_set]; omega)
    · exact set_fits h _ (by simp only [withS, List.length_set]; omega)
    · exact set_fits h _ (by simp only [withS, List.length_set]; omega)
    · exact set_fits h _ (by simp only [withS]; have := List.length_eraseIdx_le x.sides (sideJ x q2); omega)
    · exact set_fits h _ (by simp only [withS, List.length_append, List.length_singleton]; omega)
    · exact snoc_fits h (c := x) (by omega)
    · exact set_fits h _ (by simp only [withS, List.length_append]; omega)
    · exact set_fits h _ (by simp only [withS, List.length_map]; omega)
    · exact snoc_fits h (c := ⟨_, _, x.sides⟩) (by show x.sides.length ≤ _; omega)
    · exact h.fits
end Go.Proofs.YtkdibcicncjpdaaGreat
