/-
  A call with a known outcome: cocycle/maps.Induced, 101712 operations. No condition.
-/
import Derived.Test.YtbfeggodaaojgaaGreatDoorBa09
import Derived.Test.YtbfeggodaaojgaaGreatDoorProg
set_option linter.all false
section
set_option linter.all false
set_option maxRecDepth 100000
set_option maxHeartbeats 0
set_option linter.unusedVariables false
namespace Go.Ev.Z
open Go Go.Ev Go.Proofs
noncomputable section
def t16 : Cl → Cl := fun cl => cl
theorem k16_run : runN Tryz.prog t16 [41, 219, 286] 100000000 k16.fn k16.l k16.r k16.n k16.endK True = ((k16.v = k16.v ∧ k16.m = k16.m) ∧ k16.n' = k16.n' ∧ True) := by kernel_rfl
theorem t16_ok : TabOk Tryz.prog t16 := TabOk.id
theorem k16_ok : KnOk Tryz.prog k16 := ⟨_, runN_ok (by kernel_rfl) t16_ok [41, 219, 286] 100000000, k16_run.mpr ⟨⟨rfl, rfl⟩, rfl, trivial⟩⟩
end
end Go.Ev.Z
end
