/-
  A call with a known outcome: cocycle/maps.Induced, 55690 operations. No condition.
-/
import Derived.Test.YtbfeggodaaojgaaGreatDoorBa09
import Derived.Test.YtbfeggodaaojgaaGreatDoorProg
set_option linter.all false
section
set_option linter.all false
set_option maxRecDepth 100000
set_option maxHeartbeats 0
set_option linter.unusedVariables false
namespace Go.Ev.Z
open Go Go.Ev Go.Proofs
noncomputable section
def t7 : Cl → Cl := fun cl => cl
theorem k7_run : runN Tryz.prog t7 [41, 219, 286] 100000000 k7.fn k7.l k7.r k7.n k7.endK True = ((k7.v = k7.v ∧ k7.m = k7.m) ∧ k7.n' = k7.n' ∧ True) := by kernel_rfl
theorem t7_ok : TabOk Tryz.prog t7 := TabOk.id
theorem k7_ok : KnOk Tryz.prog k7 := ⟨_, runN_ok (by kernel_rfl) t7_ok [41, 219, 286] 100000000, k7_run.mpr ⟨⟨rfl, rfl⟩, rfl, trivial⟩⟩
end
end Go.Ev.Z
end
