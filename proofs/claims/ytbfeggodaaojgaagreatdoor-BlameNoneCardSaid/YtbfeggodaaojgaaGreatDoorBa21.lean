/-
  A call with a known outcome: cocycle/maps.Induced, 49199 operations. No condition.
-/
import Derived.Test.YtbfeggodaaojgaaGreatDoorBa09
import Derived.Test.YtbfeggodaaojgaaGreatDoorProg
set_option linter.all false
section
set_option linter.all false
set_option maxRecDepth 100000
set_option maxHeartbeats 0
set_option linter.unusedVariables false
namespace Go.Ev.Z
open Go Go.Ev Go.Proofs
noncomputable section
def t11 : Cl → Cl := fun cl => cl
theorem k11_run : runN Tryz.prog t11 [41, 219, 286] 100000000 k11.fn k11.l k11.r k11.n k11.endK True = ((k11.v = k11.v ∧ k11.m = k11.m) ∧ k11.n' = k11.n' ∧ True) := by kernel_rfl
theorem t11_ok : TabOk Tryz.prog t11 := TabOk.id
theorem k11_ok : KnOk Tryz.prog k11 := ⟨_, runN_ok (by kernel_rfl) t11_ok [41, 219, 286] 100000000, k11_run.mpr ⟨⟨rfl, rfl⟩, rfl, trivial⟩⟩
end
end Go.Ev.Z
end
