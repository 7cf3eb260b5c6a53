/-
  A call with a known outcome: cocycle/maps.Induced, 102695 operations. No condition.
-/
import Derived.Test.YtbfeggodaaojgaaGreatDoorBa09
import Derived.Test.YtbfeggodaaojgaaGreatDoorProg
set_option linter.all false
section
set_option linter.all false
set_option maxRecDepth 100000
set_option maxHeartbeats 0
set_option linter.unusedVariables false
namespace Go.Ev.Z
open Go Go.Ev Go.Proofs
noncomputable section
def t9 : Cl → Cl := fun cl => cl
theorem k9_run : runN Tryz.prog t9 [41, 219, 286] 100000000 k9.fn k9.l k9.r k9.n k9.endK True = ((k9.v = k9.v ∧ k9.m = k9.m) ∧ k9.n' = k9.n' ∧ True) := by kernel_rfl
theorem t9_ok : TabOk Tryz.prog t9 := TabOk.id
theorem k9_ok : KnOk Tryz.prog k9 := ⟨_, runN_ok (by kernel_rfl) t9_ok [41, 219, 286] 100000000, k9_run.mpr ⟨⟨rfl, rfl⟩, rfl, trivial⟩⟩
end
end Go.Ev.Z
end
