/-
  A call with a known outcome: cocycle/cocycleref17.New, 98090 operations. No condition.
-/
import Derived.Test.YtbfeggodaaojgaaGreatDoorBa09
import Derived.Test.YtbfeggodaaojgaaGreatDoorProg
set_option linter.all false
section
set_option linter.all false
set_option maxRecDepth 100000
set_option maxHeartbeats 0
set_option linter.unusedVariables false
namespace Go.Ev.Z
open Go Go.Ev Go.Proofs
noncomputable section
def t1 : Cl → Cl := fun cl => cl
theorem k1_run : runN Tryz.prog t1 [41, 219, 286] 100000000 k1.fn k1.l k1.r k1.n k1.endK True = ((k1.v = k1.v ∧ k1.m = k1.m) ∧ k1.n' = k1.n' ∧ True) := by kernel_rfl
theorem t1_ok : TabOk Tryz.prog t1 := TabOk.id
theorem k1_ok : KnOk Tryz.prog k1 := ⟨_, runN_ok (by kernel_rfl) t1_ok [41, 219, 286] 100000000, k1_run.mpr ⟨⟨rfl, rfl⟩, rfl, trivial⟩⟩
end
end Go.Ev.Z
end
