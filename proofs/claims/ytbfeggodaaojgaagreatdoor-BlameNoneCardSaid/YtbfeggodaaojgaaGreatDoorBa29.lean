/-
  A call with a known outcome: cocycle/cocyclelaw23.sanity, 1589746 operations. No condition.
-/
import Derived.Test.YtbfeggodaaojgaaGreatDoorBa09
import Derived.Test.YtbfeggodaaojgaaGreatDoorProg
import Derived.Test.YtbfeggodaaojgaaGreatDoorBa14
import Derived.Test.YtbfeggodaaojgaaGreatDoorBa16
import Derived.Test.YtbfeggodaaojgaaGreatDoorBa20
import Derived.Test.YtbfeggodaaojgaaGreatDoorBa24
import Derived.Test.YtbfeggodaaojgaaGreatDoorBa27
import Derived.Test.YtbfeggodaaojgaaGreatDoorBa28
set_option linter.all false
section
set_option linter.all false
set_option maxRecDepth 100000
set_option maxHeartbeats 0
set_option linter.unusedVariables false
namespace Go.Ev.Z
open Go Go.Ev Go.Proofs
noncomputable section
def t19 : Cl → Cl := fun cl => knC k3 (knC k6 (knC k10 (knC k14 (knC k17 (knC k18 cl)))))
theorem k19_run : runN Tryz.prog t19 [41, 219, 286] 100000000 k19.fn k19.l k19.r k19.n k19.endK True = ((k3.l = k3.l ∧ k3.r = k3.r) ∧ (k6.l = k6.l ∧ k6.r = k6.r) ∧ (k10.l = k10.l ∧ k10.r = k10.r) ∧ (k14.l = k14.l ∧ k14.r = k14.r) ∧ (k17.l = k17.l ∧ k17.r = k17.r) ∧ (k18.l = k18.l ∧ k18.r = k18.r) ∧ (k19.v = k19.v ∧ k19.m = k19.m) ∧ k19.n' = k19.n' ∧ True) := by kernel_rfl
theorem t19_ok : TabOk Tryz.prog t19 := ((((((TabOk.id.kn k18_ok).kn k17_ok).kn k14_ok).kn k10_ok).kn k6_ok).kn k3_ok)
theorem k19_ok : KnOk Tryz.prog k19 := ⟨_, runN_ok (by kernel_rfl) t19_ok [41, 219, 286] 100000000, k19_run.mpr ⟨⟨rfl, rfl⟩, ⟨⟨rfl, rfl⟩, ⟨⟨rfl, rfl⟩, ⟨⟨rfl, rfl⟩, ⟨⟨rfl, rfl⟩, ⟨⟨rfl, rfl⟩, ⟨⟨rfl, rfl⟩, rfl, trivial⟩⟩⟩⟩⟩⟩⟩⟩
end
end Go.Ev.Z
end
