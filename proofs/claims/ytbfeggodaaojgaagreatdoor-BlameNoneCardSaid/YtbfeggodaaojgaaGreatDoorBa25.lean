/-
  A call with a known outcome: cocycle/maps.Induced, 101712 operations. No condition.
-/
import Derived.Test.YtbfeggodaaojgaaGreatDoorBa09
import Derived.Test.YtbfeggodaaojgaaGreatDoorProg
set_option linter.all false
section
set_option linter.all false
set_option maxRecDepth 100000
set_option maxHeartbeats 0
set_option linter.unusedVariables false
namespace Go.Ev.Z
open Go Go.Ev Go.Proofs
noncomputable section
def t15 : Cl → Cl := fun cl => cl
theorem k15_run : runN Tryz.prog t15 [41, 219, 286] 100000000 k15.fn k15.l k15.r k15.n k15.endK True = ((k15.v = k15.v ∧ k15.m = k15.m) ∧ k15.n' = k15.n' ∧ True) := by kernel_rfl
theorem t15_ok : TabOk Tryz.prog t15 := TabOk.id
theorem k15_ok : KnOk Tryz.prog k15 := ⟨_, runN_ok (by kernel_rfl) t15_ok [41, 219, 286] 100000000, k15_run.mpr ⟨⟨rfl, rfl⟩, rfl, trivial⟩⟩
end
end Go.Ev.Z
end
