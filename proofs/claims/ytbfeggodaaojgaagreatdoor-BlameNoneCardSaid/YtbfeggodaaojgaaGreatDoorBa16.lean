/-
  A call with a known outcome: cocycle/cocyclelaw23.copied, 195830 operations. No condition.
-/
import Derived.Test.YtbfeggodaaojgaaGreatDoorBa09
import Derived.Test.YtbfeggodaaojgaaGreatDoorProg
import Derived.Test.YtbfeggodaaojgaaGreatDoorBa15
set_option linter.all false
section
set_option linter.all false
set_option maxRecDepth 100000
set_option maxHeartbeats 0
set_option linter.unusedVariables false
namespace Go.Ev.Z
open Go Go.Ev Go.Proofs
noncomputable section
def t6 : Cl → Cl := fun cl => knC k4 (knC k5 cl)
theorem k6_run : runN Tryz.prog t6 [41, 219, 286] 100000000 k6.fn k6.l k6.r k6.n k6.endK True = ((k4.l = k4.l ∧ k4.r = k4.r) ∧ (k5.l = k5.l ∧ k5.r = k5.r) ∧ (k6.v = k6.v ∧ k6.m = k6.m) ∧ k6.n' = k6.n' ∧ True) := by kernel_rfl
theorem t6_ok : TabOk Tryz.prog t6 := ((TabOk.id.kn k5_ok).kn k4_ok)
theorem k6_ok : KnOk Tryz.prog k6 := ⟨_, runN_ok (by kernel_rfl) t6_ok [41, 219, 286] 100000000, k6_run.mpr ⟨⟨rfl, rfl⟩, ⟨⟨rfl, rfl⟩, ⟨⟨rfl, rfl⟩, rfl, trivial⟩⟩⟩⟩
end
end Go.Ev.Z
end
