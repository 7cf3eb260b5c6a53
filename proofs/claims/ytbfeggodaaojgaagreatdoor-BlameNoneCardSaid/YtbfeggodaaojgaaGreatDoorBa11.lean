/-
  A call with a known outcome: cocycle/cocycleref17.New, 65671 operations. No condition.
-/
import Derived.Test.YtbfeggodaaojgaaGreatDoorBa09
import Derived.Test.YtbfeggodaaojgaaGreatDoorProg
set_option linter.all false
section
set_option linter.all false
set_option maxRecDepth 100000
set_option maxHeartbeats 0
set_option linter.unusedVariables false
namespace Go.Ev.Z
open Go Go.Ev Go.Proofs
noncomputable section
def t0 : Cl → Cl := fun cl => cl
theorem k0_run : runN Tryz.prog t0 [41, 219, 286] 100000000 k0.fn k0.l k0.r k0.n k0.endK True = ((k0.v = k0.v ∧ k0.m = k0.m) ∧ k0.n' = k0.n' ∧ True) := by kernel_rfl
theorem t0_ok : TabOk Tryz.prog t0 := TabOk.id
theorem k0_ok : KnOk Tryz.prog k0 := ⟨_, runN_ok (by kernel_rfl) t0_ok [41, 219, 286] 100000000, k0_run.mpr ⟨⟨rfl, rfl⟩, rfl, trivial⟩⟩
end
end Go.Ev.Z
end
