/-
  A call with a known outcome: (*cocycle/store.Store).Put, 35108 operations. A call with a known outcome: (*cocycle/store.Store).Put, 35108 operations. No condition.
-/
import Derived.Test.YtbfeggodaaojgaaGreatDoorBa09
import Derived.Test.YtbfeggodaaojgaaGreatDoorProg
set_option linter.all false
section
set_option linter.all false
set_option maxRecDepth 100000
set_option maxHeartbeats 0
set_option linter.unusedVariables false
namespace Go.Ev.Z
open Go Go.Ev Go.Proofs
noncomputable section
def t4 : Cl → Cl := fun cl => cl
theorem k4_run : runN Tryz.prog t4 [41, 219, 286] 100000000 k4.fn k4.l k4.r k4.n k4.endK True = ((k4.v = k4.v ∧ k4.m = k4.m) ∧ k4.n' = k4.n' ∧ True) := by kernel_rfl
theorem t4_ok : TabOk Tryz.prog t4 := TabOk.id
theorem k4_ok : KnOk Tryz.prog k4 := ⟨_, runN_ok (by kernel_rfl) t4_ok [41, 219, 286] 100000000, k4_run.mpr ⟨⟨rfl, rfl⟩, rfl, trivial⟩⟩
end
end Go.Ev.Z
end
section
set_option linter.all false
set_option maxRecDepth 100000
set_option maxHeartbeats 0
set_option linter.unusedVariables false
namespace Go.Ev.Z
open Go Go.Ev Go.Proofs
noncomputable section
def t5 : Cl → Cl := fun cl => cl
theorem k5_run : runN Tryz.prog t5 [41, 219, 286] 100000000 k5.fn k5.l k5.r k5.n k5.endK True = ((k5.v = k5.v ∧ k5.m = k5.m) ∧ k5.n' = k5.n' ∧ True) := by kernel_rfl
theorem t5_ok : TabOk Tryz.prog t5 := TabOk.id
theorem k5_ok : KnOk Tryz.prog k5 := ⟨_, runN_ok (by kernel_rfl) t5_ok [41, 219, 286] 100000000, k5_run.mpr ⟨⟨rfl, rfl⟩, rfl, trivial⟩⟩
end
end Go.Ev.Z
end
