/-
  A call with a known outcome: cocycle/blame.Blame, 402656 operations. No condition.
-/
import Derived.Test.YtbfeggodaaojgaaGreatDoorBa09
import Derived.Test.YtbfeggodaaojgaaGreatDoorProg
import Derived.Test.YtbfeggodaaojgaaGreatDoorBa17
import Derived.Test.YtbfeggodaaojgaaGreatDoorBa18
import Derived.Test.YtbfeggodaaojgaaGreatDoorBa19
set_option linter.all false
section
set_option linter.all false
set_option maxRecDepth 100000
set_option maxHeartbeats 0
set_option linter.unusedVariables false
namespace Go.Ev.Z
open Go Go.Ev Go.Proofs
noncomputable section
def t10 : Cl → Cl := fun cl => knC k7 (knC k8 (knC k9 cl))
theorem k10_run : runN Tryz.prog t10 [41, 219, 286] 100000000 k10.fn k10.l k10.r k10.n k10.endK True = ((k7.l = k7.l ∧ k7.r = k7.r) ∧ (k8.l = k8.l ∧ k8.r = k8.r) ∧ (k9.l = k9.l ∧ k9.r = k9.r) ∧ (k10.v = k10.v ∧ k10.m = k10.m) ∧ k10.n' = k10.n' ∧ True) := by kernel_rfl
theorem t10_ok : TabOk Tryz.prog t10 := (((TabOk.id.kn k9_ok).kn k8_ok).kn k7_ok)
theorem k10_ok : KnOk Tryz.prog k10 := ⟨_, runN_ok (by kernel_rfl) t10_ok [41, 219, 286] 100000000, k10_run.mpr ⟨⟨rfl, rfl⟩, ⟨⟨rfl, rfl⟩, ⟨⟨rfl, rfl⟩, ⟨⟨rfl, rfl⟩, rfl, trivial⟩⟩⟩⟩⟩
end
end Go.Ev.Z
end
