/-
  A call with a known outcome: cocycle/cocyclelaw23.example, 266548 operations. No condition.
-/
import Derived.Test.YtbfeggodaaojgaaGreatDoorBa09
import Derived.Test.YtbfeggodaaojgaaGreatDoorProg
import Derived.Test.YtbfeggodaaojgaaGreatDoorBa11
import Derived.Test.YtbfeggodaaojgaaGreatDoorBa12
import Derived.Test.YtbfeggodaaojgaaGreatDoorBa13
set_option linter.all false
section
set_option linter.all false
set_option maxRecDepth 100000
set_option maxHeartbeats 0
set_option linter.unusedVariables false
namespace Go.Ev.Z
open Go Go.Ev Go.Proofs
noncomputable section
def t3 : Cl → Cl := fun cl => knC k0 (knC k1 (knC k2 cl))
theorem k3_run : runN Tryz.prog t3 [41, 219, 286] 100000000 k3.fn k3.l k3.r k3.n k3.endK True = ((k0.l = k0.l ∧ k0.r = k0.r) ∧ (k1.l = k1.l ∧ k1.r = k1.r) ∧ (k2.l = k2.l ∧ k2.r = k2.r) ∧ (k3.v = k3.v ∧ k3.m = k3.m) ∧ k3.n' = k3.n' ∧ True) := by kernel_rfl
theorem t3_ok : TabOk Tryz.prog t3 := (((TabOk.id.kn k2_ok).kn k1_ok).kn k0_ok)
theorem k3_ok : KnOk Tryz.prog k3 := ⟨_, runN_ok (by kernel_rfl) t3_ok [41, 219, 286] 100000000, k3_run.mpr ⟨⟨rfl, rfl⟩, ⟨⟨rfl, rfl⟩, ⟨⟨rfl, rfl⟩, ⟨⟨rfl, rfl⟩, rfl, trivial⟩⟩⟩⟩⟩
end
end Go.Ev.Z
end
