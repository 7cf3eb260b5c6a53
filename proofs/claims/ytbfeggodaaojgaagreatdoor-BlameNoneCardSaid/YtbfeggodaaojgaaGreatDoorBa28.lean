/-
  A call with a known outcome: cocycle/blame.Blame, 11161 operations. No condition.
-/
import Derived.Test.YtbfeggodaaojgaaGreatDoorBa09
import Derived.Test.YtbfeggodaaojgaaGreatDoorProg
set_option linter.all false
section
set_option linter.all false
set_option maxRecDepth 100000
set_option maxHeartbeats 0
set_option linter.unusedVariables false
namespace Go.Ev.Z
open Go Go.Ev Go.Proofs
noncomputable section
def t18 : Cl → Cl := fun cl => cl
theorem k18_run : runN Tryz.prog t18 [41, 219, 286] 100000000 k18.fn k18.l k18.r k18.n k18.endK True = ((k18.v = k18.v ∧ k18.m = k18.m) ∧ k18.n' = k18.n' ∧ True) := by kernel_rfl
theorem t18_ok : TabOk Tryz.prog t18 := TabOk.id
theorem k18_ok : KnOk Tryz.prog k18 := ⟨_, runN_ok (by kernel_rfl) t18_ok [41, 219, 286] 100000000, k18_run.mpr ⟨⟨rfl, rfl⟩, rfl, trivial⟩⟩
end
end Go.Ev.Z
end
