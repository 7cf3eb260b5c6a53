/-
  A call with a known outcome: cocycle/maps.Induced, 102695 operations. No condition.
-/
import Derived.Test.YtbfeggodaaojgaaGreatDoorBa09
import Derived.Test.YtbfeggodaaojgaaGreatDoorProg
set_option linter.all false
section
set_option linter.all false
set_option maxRecDepth 100000
set_option maxHeartbeats 0
set_option linter.unusedVariables false
namespace Go.Ev.Z
open Go Go.Ev Go.Proofs
noncomputable section
def t8 : Cl → Cl := fun cl => cl
theorem k8_run : runN Tryz.prog t8 [41, 219, 286] 100000000 k8.fn k8.l k8.r k8.n k8.endK True = ((k8.v = k8.v ∧ k8.m = k8.m) ∧ k8.n' = k8.n' ∧ True) := by kernel_rfl
theorem t8_ok : TabOk Tryz.prog t8 := TabOk.id
theorem k8_ok : KnOk Tryz.prog k8 := ⟨_, runN_ok (by kernel_rfl) t8_ok [41, 219, 286] 100000000, k8_run.mpr ⟨⟨rfl, rfl⟩, rfl, trivial⟩⟩
end
end Go.Ev.Z
end
