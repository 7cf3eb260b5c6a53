/-
  Calls for the primes from 617 to 701. No condition.
-/
import Derived.Test.YtbfeggodaaojgaaGreatDoorBa09
set_option linter.all false
section
set_option linter.all false
set_option maxRecDepth 100000
set_option maxHeartbeats 0
set_option linter.unusedVariables false
namespace Go.Ev.Z
open Go Go.Ev Go.Proofs
def PL8 : List Nat := [617, 619, 631, 641, 643, 647, 653, 659, 661, 673, 677, 683, 691, 701]
theorem ql8_run : Rl PL8 = ((((kQ 617).v = (kQ 617).v ∧ (kQ 617).m = (kQ 617).m) ∧ (kQ 617).n' = (kQ 617).n' ∧ True) ∧ (((kQ 619).v = (kQ 619).v ∧ (kQ 619).m = (kQ 619).m) ∧ (kQ 619).n' = (kQ 619).n' ∧ True) ∧ (((kQ 631).v = (kQ 631).v ∧ (kQ 631).m = (kQ 631).m) ∧ (kQ 631).n' = (kQ 631).n' ∧ True) ∧ (((kQ 641).v = (kQ 641).v ∧ (kQ 641).m = (kQ 641).m) ∧ (kQ 641).n' = (kQ 641).n' ∧ True) ∧ (((kQ 643).v = (kQ 643).v ∧ (kQ 643).m = (kQ 643).m) ∧ (kQ 643).n' = (kQ 643).n' ∧ True) ∧ (((kQ 647).v = (kQ 647).v ∧ (kQ 647).m = (kQ 647).m) ∧ (kQ 647).n' = (kQ 647).n' ∧ True) ∧ (((kQ 653).v = (kQ 653).v ∧ (kQ 653).m = (kQ 653).m) ∧ (kQ 653).n' = (kQ 653).n' ∧ True) ∧ (((kQ 659).v = (kQ 659).v ∧ (kQ 659).m = (kQ 659).m) ∧ (kQ 659).n' = (kQ 659).n' ∧ True) ∧ (((kQ 661).v = (kQ 661).v ∧ (kQ 661).m = (kQ 661).m) ∧ (kQ 661).n' = (kQ 661).n' ∧ True) ∧ (((kQ 673).v = (kQ 673).v ∧ (kQ 673).m = (kQ 673).m) ∧ (kQ 673).n' = (kQ 673).n' ∧ True) ∧ (((kQ 677).v = (kQ 677).v ∧ (kQ 677).m = (kQ 677).m) ∧ (kQ 677).n' = (kQ 677).n' ∧ True) ∧ (((kQ 683).v = (kQ 683).v ∧ (kQ 683).m = (kQ 683).m) ∧ (kQ 683).n' = (kQ 683).n' ∧ True) ∧ (((kQ 691).v = (kQ 691).v ∧ (kQ 691).m = (kQ 691).m) ∧ (kQ 691).n' = (kQ 691).n' ∧ True) ∧ (((kQ 701).v = (kQ 701).v ∧ (kQ 701).m = (kQ 701).m) ∧ (kQ 701).n' = (kQ 701).n' ∧ True) ∧ True) := by kernel_rfl
theorem ql8 : ∀ p ∈ PL8, Rq p := rl_all (ql8_run.mpr ⟨⟨⟨rfl, rfl⟩, rfl, trivial⟩, ⟨⟨rfl, rfl⟩, rfl, trivial⟩, ⟨⟨rfl, rfl⟩, rfl, trivial⟩, ⟨⟨rfl, rfl⟩, rfl, trivial⟩, ⟨⟨rfl, rfl⟩, rfl, trivial⟩, ⟨⟨rfl, rfl⟩, rfl, trivial⟩, ⟨⟨rfl, rfl⟩, rfl, trivial⟩, ⟨⟨rfl, rfl⟩, rfl, trivial⟩, ⟨⟨rfl, rfl⟩, rfl, trivial⟩, ⟨⟨rfl, rfl⟩, rfl, trivial⟩, ⟨⟨rfl, rfl⟩, rfl, trivial⟩, ⟨⟨rfl, rfl⟩, rfl, trivial⟩, ⟨⟨rfl, rfl⟩, rfl, trivial⟩, ⟨⟨rfl, rfl⟩, rfl, trivial⟩, trivial⟩)
end Go.Ev.Z
end
