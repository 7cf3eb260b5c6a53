/-
  A call with a known outcome: cocycle/maps.Induced, 101712 operations. No condition.
-/
import Derived.Test.YtbfeggodaaojgaaGreatDoorBa09
import Derived.Test.YtbfeggodaaojgaaGreatDoorProg
set_option linter.all false
section
set_option linter.all false
set_option maxRecDepth 100000
set_option maxHeartbeats 0
set_option linter.unusedVariables false
namespace Go.Ev.Z
open Go Go.Ev Go.Proofs
noncomputable section
def t12 : Cl → Cl := fun cl => cl
theorem k12_run : runN Tryz.prog t12 [41, 219, 286] 100000000 k12.fn k12.l k12.r k12.n k12.endK True = ((k12.v = k12.v ∧ k12.m = k12.m) ∧ k12.n' = k12.n' ∧ True) := by kernel_rfl
theorem t12_ok : TabOk Tryz.prog t12 := TabOk.id
theorem k12_ok : KnOk Tryz.prog k12 := ⟨_, runN_ok (by kernel_rfl) t12_ok [41, 219, 286] 100000000, k12_run.mpr ⟨⟨rfl, rfl⟩, rfl, trivial⟩⟩
end
end Go.Ev.Z
end
