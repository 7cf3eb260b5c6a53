/-
  'CellsSimplices': for all lists of vertices, Simplicial returns what the reference model returns, a right complex. No condition.
-/
import Derived.Test.YtkdibcicncjpdaaGreatSi10
set_option linter.unusedSimpArgs false
set_option linter.unusedVariables false
namespace Go.Proofs.YtkdibcicncjpdaaGreat.cellsSimplicesDone
open _root_.Go.Proofs.Tryz _root_.Go.Proofs.YtkdibcicncjpdaaGreat.Tryz
open Go Go.Sy Go.Pl Go.Proofs Go.Proofs.YtkdibcicncjpdaaGreat
open Go.ChangeShapes Go.WideShapes Go.ChangeAt Go.RowKit
set_option linter.unusedVariables false
theorem own : ownKnob Tryz.prog.godebug = none := by kernel_rfl
theorem laidOut : laidOutB Tryz.prog = true := by kernel_rfl
set_option maxRecDepth 100000 in
theorem lifted (os : Os) (started : os.Started) (H : Type) (enc : TypeId × Value → H) :
  ReturnsInHanded {} Tryz.checked os 3 .any (Rows.cellsSimplicesSpec.pre6 enc Tryz.prog f3 Rows.cellsSimplicesRow.domain false) (Rows.cellsSimplicesSpec.post enc Tryz.prog f3 false true false false) := by
 refine returnsInHanded_of_change_sized (C := Tryz.checked) own started (by kernel_rfl) func3
  (ChangeSpec.witness6 (enc := enc) (C := Tryz.checked) false ⟨#[], #[.slice none 0 0, .slice none 0 0], []⟩ 8 (by kernel_rfl) (by kernel_rfl) (by kernel_rfl) (by kernel_rfl)) ?_
 intro W base args ds gs before hval0 hW hcnd hsz0 _
 have hval : ∀ (j : Nat) t v, f3.params[j]? = some t → args[j]? = some v → Value.okWide Tryz.prog W .any base t v := hval0
 have hsz : (DataW.weightsEach Tryz.prog (f3.params.toList ++ Rows.cellsSimplicesSpec.plain.varTypes Tryz.prog) (ds ++ gs)).all (· ≤ reachBytes) = true := hsz0
 have hW' := hW
 obtain ⟨p, q, hA0, hV, rfl, hfz, hnd⟩ := hW
 have hA : DataW.TrodAll enc Tryz.prog W 0 (fun _ => true) true f3.params.toList args.toList ds p := hA0
 rw [params3] at hA hval hsz
 obtain ⟨v0, vs0, d0, ds0, p0, q0, hargs, rfl, rfl, h0, r0⟩ := trodAll_cons hA
 obtain ⟨v1, vs1, d1, ds1, p1, q1, rfl, rfl, rfl, h1, r1⟩ := trodAll_cons r0
 obtain ⟨rfl, rfl, rfl⟩ := trodAll_nil r1
 obtain rfl : args = #[v0, v1] := by cases args; simp_all
 obtain ⟨rfl, rfl⟩ := trodVars_none hV
 have lt0 : ∀ x ∈ p0, x.block < W.heap.size := by obtain ⟨m, hm⟩ := h0; exact DataW.trod_lt m _ _ _ hm
 have lt1 : ∀ x ∈ p1, x.block < W.heap.size := by obtain ⟨m, hm⟩ := h1; exact DataW.trod_lt m _ _ _ hm
 have hw1 : ∀ n ∈ d1.weights Tryz.prog 22, n ≤ reachBytes := fun n hn => by
  rw [List.all_eq_true] at hsz
  have := hsz n (by
   show n ∈ DataW.weightsEach Tryz.prog (22 :: 22 :: _) (d0 :: d1 :: _)
   unfold DataW.weightsEach
   refine List.mem_append.2 (.inr ?_)
   unfold DataW.weightsEach
   exact List.mem_append.2 (.inl hn))
  simpa using this
 clear hA0 hval0 hsz hsz0
 have walk : Calls Tryz.prog 3 #[v0, v1] W fun e w' => e = .returned (.bool true) ∧ Below W.heap.size W w' := by
  obtain ⟨a0, n0, c0, rfl⟩ := okWide_slice underlying22 (hval 0 22 v0 rfl rfl)
  obtain ⟨a1, n1, c1, rfl⟩ := okWide_slice underlying22 (hval 1 22 v1 rfl rfl)
  obtain ⟨f0, hf0⟩ := h0
  obtain ⟨f1, hf1⟩ := h1
  obtain ⟨ls, hls⟩ := lists_of (v := .slice a0 n0 c0) hf0
  obtain ⟨ms, hms, hml⟩ := lists_le (v := .slice a1 n1 c1) hf1 hw1
  refine (cellsSimplices_spec (E0 W) rfl (held W) [] _ _ ls ms hls hms hml W (at_start W)).mono ?_
  rintro e w' ⟨v, g', s', rfl, hat, rfl, rfl, hle⟩
  exact ⟨rfl, at_below hat hle⟩
 refine walk.mono fun e W' ⟨he, bel⟩ => ?_
 subst he
 exact ⟨_, rfl, _, _, _, [], _, [], hW', trodAll_mk1 (shut_bool underlying4 _), (trodAll_cons_mk (Below.trod laidOut (by kernel_rfl) (of_decide_eq_true (by kernel_rfl)) h0 bel lt0) (trodAll_cons_mk (Below.trod laidOut (by kernel_rfl) (of_decide_eq_true (by kernel_rfl)) h1 bel lt1) trodAll_mk0)), rfl, bel.frame _, fun h => by cases h⟩
theorem over : Rows.cellsSimplicesRow.holds Tryz.pinned (OpenSpec.ofChange Rows.cellsSimplicesSpec) :=
 OpenClaim.holds_of_wide 3 f3 rfl rfl rfl rfl rfl rfl rfl ⟨rfl, rfl, rfl, rfl, rfl⟩ rfl rfl rfl rfl rfl (by kernel_rfl) func3 (by kernel_rfl)
  (of_decide_eq_true (by kernel_rfl)) (by unfold Func.isWrapper; first | (rw [if_pos (by decide +kernel)]; kernel_rfl) | (rw [if_neg (by decide +kernel)]; exact ⟨rfl, rfl⟩))
  (fun os started H enc _ => lifted os started H enc)
theorem proved : Rows.CellsSimplicesSaid := over
#print axioms proved
end Go.Proofs.YtkdibcicncjpdaaGreat.cellsSimplicesDone
