/-
  A call with a known outcome: cocycle/blame.Blame, 380412 operations. No condition.
-/
import Derived.Test.YtbfeggodaaojgaaGreatDoorBa09
import Derived.Test.YtbfeggodaaojgaaGreatDoorProg
import Derived.Test.YtbfeggodaaojgaaGreatDoorBa21
import Derived.Test.YtbfeggodaaojgaaGreatDoorBa22
import Derived.Test.YtbfeggodaaojgaaGreatDoorBa23
set_option linter.all false
section
set_option linter.all false
set_option maxRecDepth 100000
set_option maxHeartbeats 0
set_option linter.unusedVariables false
namespace Go.Ev.Z
open Go Go.Ev Go.Proofs
noncomputable section
def t14 : Cl → Cl := fun cl => knC k11 (knC k12 (knC k13 cl))
theorem k14_run : runN Tryz.prog t14 [41, 219, 286] 100000000 k14.fn k14.l k14.r k14.n k14.endK True = ((k11.l = k11.l ∧ k11.r = k11.r) ∧ (k12.l = k12.l ∧ k12.r = k12.r) ∧ (k13.l = k13.l ∧ k13.r = k13.r) ∧ (k14.v = k14.v ∧ k14.m = k14.m) ∧ k14.n' = k14.n' ∧ True) := by kernel_rfl
theorem t14_ok : TabOk Tryz.prog t14 := (((TabOk.id.kn k13_ok).kn k12_ok).kn k11_ok)
theorem k14_ok : KnOk Tryz.prog k14 := ⟨_, runN_ok (by kernel_rfl) t14_ok [41, 219, 286] 100000000, k14_run.mpr ⟨⟨rfl, rfl⟩, ⟨⟨rfl, rfl⟩, ⟨⟨rfl, rfl⟩, ⟨⟨rfl, rfl⟩, rfl, trivial⟩⟩⟩⟩⟩
end
end Go.Ev.Z
end
