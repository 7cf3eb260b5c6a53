/-
  A call with a known outcome: cocycle/maps.Induced, 101712 operations. No condition.
-/
import Derived.Test.YtbfeggodaaojgaaGreatDoorBa09
import Derived.Test.YtbfeggodaaojgaaGreatDoorProg
set_option linter.all false
section
set_option linter.all false
set_option maxRecDepth 100000
set_option maxHeartbeats 0
set_option linter.unusedVariables false
namespace Go.Ev.Z
open Go Go.Ev Go.Proofs
noncomputable section
def t13 : Cl → Cl := fun cl => cl
theorem k13_run : runN Tryz.prog t13 [41, 219, 286] 100000000 k13.fn k13.l k13.r k13.n k13.endK True = ((k13.v = k13.v ∧ k13.m = k13.m) ∧ k13.n' = k13.n' ∧ True) := by kernel_rfl
theorem t13_ok : TabOk Tryz.prog t13 := TabOk.id
theorem k13_ok : KnOk Tryz.prog k13 := ⟨_, runN_ok (by kernel_rfl) t13_ok [41, 219, 286] 100000000, k13_run.mpr ⟨⟨rfl, rfl⟩, rfl, trivial⟩⟩
end
end Go.Ev.Z
end
