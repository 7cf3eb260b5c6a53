/-
  A call with a known outcome: cocycle/cocycleref17.New, 102719 operations. No condition.
-/
import Derived.Test.YtbfeggodaaojgaaGreatDoorBa09
import Derived.Test.YtbfeggodaaojgaaGreatDoorProg
set_option linter.all false
section
set_option linter.all false
set_option maxRecDepth 100000
set_option maxHeartbeats 0
set_option linter.unusedVariables false
namespace Go.Ev.Z
open Go Go.Ev Go.Proofs
noncomputable section
def t2 : Cl → Cl := fun cl => cl
theorem k2_run : runN Tryz.prog t2 [41, 219, 286] 100000000 k2.fn k2.l k2.r k2.n k2.endK True = ((k2.v = k2.v ∧ k2.m = k2.m) ∧ k2.n' = k2.n' ∧ True) := by kernel_rfl
theorem t2_ok : TabOk Tryz.prog t2 := TabOk.id
theorem k2_ok : KnOk Tryz.prog k2 := ⟨_, runN_ok (by kernel_rfl) t2_ok [41, 219, 286] 100000000, k2_run.mpr ⟨⟨rfl, rfl⟩, rfl, trivial⟩⟩
end
end Go.Ev.Z
end
