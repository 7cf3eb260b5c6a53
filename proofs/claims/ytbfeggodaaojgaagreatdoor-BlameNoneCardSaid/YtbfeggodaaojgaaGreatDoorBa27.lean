/-
  A call with a known outcome: cocycle/blame.Blame, 332910 operations. No condition.
-/
import Derived.Test.YtbfeggodaaojgaaGreatDoorBa09
import Derived.Test.YtbfeggodaaojgaaGreatDoorProg
import Derived.Test.YtbfeggodaaojgaaGreatDoorBa25
import Derived.Test.YtbfeggodaaojgaaGreatDoorBa26
set_option linter.all false
section
set_option linter.all false
set_option maxRecDepth 100000
set_option maxHeartbeats 0
set_option linter.unusedVariables false
namespace Go.Ev.Z
open Go Go.Ev Go.Proofs
noncomputable section
def t17 : Cl → Cl := fun cl => knC k15 (knC k16 cl)
theorem k17_run : runN Tryz.prog t17 [41, 219, 286] 100000000 k17.fn k17.l k17.r k17.n k17.endK True = ((k15.l = k15.l ∧ k15.r = k15.r) ∧ (k16.l = k16.l ∧ k16.r = k16.r) ∧ (k17.v = k17.v ∧ k17.m = k17.m) ∧ k17.n' = k17.n' ∧ True) := by kernel_rfl
theorem t17_ok : TabOk Tryz.prog t17 := ((TabOk.id.kn k16_ok).kn k15_ok)
theorem k17_ok : KnOk Tryz.prog k17 := ⟨_, runN_ok (by kernel_rfl) t17_ok [41, 219, 286] 100000000, k17_run.mpr ⟨⟨rfl, rfl⟩, ⟨⟨rfl, rfl⟩, ⟨⟨rfl, rfl⟩, rfl, trivial⟩⟩⟩⟩
end
end Go.Ev.Z
end
