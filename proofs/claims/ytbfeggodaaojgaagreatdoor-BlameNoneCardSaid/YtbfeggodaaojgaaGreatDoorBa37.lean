/-
  Calls for the primes from 523 to 613. No condition.
-/
import Derived.Test.YtbfeggodaaojgaaGreatDoorBa09
set_option linter.all false
section
set_option linter.all false
set_option maxRecDepth 100000
set_option maxHeartbeats 0
set_option linter.unusedVariables false
namespace Go.Ev.Z
open Go Go.Ev Go.Proofs
def PL7 : List Nat := [523, 541, 547, 557, 563, 569, 571, 577, 587, 593, 599, 601, 607, 613]
theorem ql7_run : Rl PL7 = ((((kQ 523).v = (kQ 523).v ∧ (kQ 523).m = (kQ 523).m) ∧ (kQ 523).n' = (kQ 523).n' ∧ True) ∧ (((kQ 541).v = (kQ 541).v ∧ (kQ 541).m = (kQ 541).m) ∧ (kQ 541).n' = (kQ 541).n' ∧ True) ∧ (((kQ 547).v = (kQ 547).v ∧ (kQ 547).m = (kQ 547).m) ∧ (kQ 547).n' = (kQ 547).n' ∧ True) ∧ (((kQ 557).v = (kQ 557).v ∧ (kQ 557).m = (kQ 557).m) ∧ (kQ 557).n' = (kQ 557).n' ∧ True) ∧ (((kQ 563).v = (kQ 563).v ∧ (kQ 563).m = (kQ 563).m) ∧ (kQ 563).n' = (kQ 563).n' ∧ True) ∧ (((kQ 569).v = (kQ 569).v ∧ (kQ 569).m = (kQ 569).m) ∧ (kQ 569).n' = (kQ 569).n' ∧ True) ∧ (((kQ 571).v = (kQ 571).v ∧ (kQ 571).m = (kQ 571).m) ∧ (kQ 571).n' = (kQ 571).n' ∧ True) ∧ (((kQ 577).v = (kQ 577).v ∧ (kQ 577).m = (kQ 577).m) ∧ (kQ 577).n' = (kQ 577).n' ∧ True) ∧ (((kQ 587).v = (kQ 587).v ∧ (kQ 587).m = (kQ 587).m) ∧ (kQ 587).n' = (kQ 587).n' ∧ True) ∧ (((kQ 593).v = (kQ 593).v ∧ (kQ 593).m = (kQ 593).m) ∧ (kQ 593).n' = (kQ 593).n' ∧ True) ∧ (((kQ 599).v = (kQ 599).v ∧ (kQ 599).m = (kQ 599).m) ∧ (kQ 599).n' = (kQ 599).n' ∧ True) ∧ (((kQ 601).v = (kQ 601).v ∧ (kQ 601).m = (kQ 601).m) ∧ (kQ 601).n' = (kQ 601).n' ∧ True) ∧ (((kQ 607).v = (kQ 607).v ∧ (kQ 607).m = (kQ 607).m) ∧ (kQ 607).n' = (kQ 607).n' ∧ True) ∧ (((kQ 613).v = (kQ 613).v ∧ (kQ 613).m = (kQ 613).m) ∧ (kQ 613).n' = (kQ 613).n' ∧ True) ∧ True) := by kernel_rfl
theorem ql7 : ∀ p ∈ PL7, Rq p := rl_all (ql7_run.mpr ⟨⟨⟨rfl, rfl⟩, rfl, trivial⟩, ⟨⟨rfl, rfl⟩, rfl, trivial⟩, ⟨⟨rfl, rfl⟩, rfl, trivial⟩, ⟨⟨rfl, rfl⟩, rfl, trivial⟩, ⟨⟨rfl, rfl⟩, rfl, trivial⟩, ⟨⟨rfl, rfl⟩, rfl, trivial⟩, ⟨⟨rfl, rfl⟩, rfl, trivial⟩, ⟨⟨rfl, rfl⟩, rfl, trivial⟩, ⟨⟨rfl, rfl⟩, rfl, trivial⟩, ⟨⟨rfl, rfl⟩, rfl, trivial⟩, ⟨⟨rfl, rfl⟩, rfl, trivial⟩, ⟨⟨rfl, rfl⟩, rfl, trivial⟩, ⟨⟨rfl, rfl⟩, rfl, trivial⟩, ⟨⟨rfl, rfl⟩, rfl, trivial⟩, trivial⟩)
end Go.Ev.Z
end
