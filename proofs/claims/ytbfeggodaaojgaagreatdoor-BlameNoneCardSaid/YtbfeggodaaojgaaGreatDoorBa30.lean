/-
  Calls for the primes from 2 to 43. No condition.
-/
import Derived.Test.YtbfeggodaaojgaaGreatDoorBa09
set_option linter.all false
section
set_option linter.all false
set_option maxRecDepth 100000
set_option maxHeartbeats 0
set_option linter.unusedVariables false
namespace Go.Ev.Z
open Go Go.Ev Go.Proofs
def PL0 : List Nat := [2, 3, 5, 7, 11, 13, 17, 19, 23, 29, 31, 37, 41, 43]
theorem ql0_run : Rl PL0 = ((((kQ 2).v = (kQ 2).v ∧ (kQ 2).m = (kQ 2).m) ∧ (kQ 2).n' = (kQ 2).n' ∧ True) ∧ (((kQ 3).v = (kQ 3).v ∧ (kQ 3).m = (kQ 3).m) ∧ (kQ 3).n' = (kQ 3).n' ∧ True) ∧ (((kQ 5).v = (kQ 5).v ∧ (kQ 5).m = (kQ 5).m) ∧ (kQ 5).n' = (kQ 5).n' ∧ True) ∧ (((kQ 7).v = (kQ 7).v ∧ (kQ 7).m = (kQ 7).m) ∧ (kQ 7).n' = (kQ 7).n' ∧ True) ∧ (((kQ 11).v = (kQ 11).v ∧ (kQ 11).m = (kQ 11).m) ∧ (kQ 11).n' = (kQ 11).n' ∧ True) ∧ (((kQ 13).v = (kQ 13).v ∧ (kQ 13).m = (kQ 13).m) ∧ (kQ 13).n' = (kQ 13).n' ∧ True) ∧ (((kQ 17).v = (kQ 17).v ∧ (kQ 17).m = (kQ 17).m) ∧ (kQ 17).n' = (kQ 17).n' ∧ True) ∧ (((kQ 19).v = (kQ 19).v ∧ (kQ 19).m = (kQ 19).m) ∧ (kQ 19).n' = (kQ 19).n' ∧ True) ∧ (((kQ 23).v = (kQ 23).v ∧ (kQ 23).m = (kQ 23).m) ∧ (kQ 23).n' = (kQ 23).n' ∧ True) ∧ (((kQ 29).v = (kQ 29).v ∧ (kQ 29).m = (kQ 29).m) ∧ (kQ 29).n' = (kQ 29).n' ∧ True) ∧ (((kQ 31).v = (kQ 31).v ∧ (kQ 31).m = (kQ 31).m) ∧ (kQ 31).n' = (kQ 31).n' ∧ True) ∧ (((kQ 37).v = (kQ 37).v ∧ (kQ 37).m = (kQ 37).m) ∧ (kQ 37).n' = (kQ 37).n' ∧ True) ∧ (((kQ 41).v = (kQ 41).v ∧ (kQ 41).m = (kQ 41).m) ∧ (kQ 41).n' = (kQ 41).n' ∧ True) ∧ (((kQ 43).v = (kQ 43).v ∧ (kQ 43).m = (kQ 43).m) ∧ (kQ 43).n' = (kQ 43).n' ∧ True) ∧ True) := by kernel_rfl
theorem ql0 : ∀ p ∈ PL0, Rq p := rl_all (ql0_run.mpr ⟨⟨⟨rfl, rfl⟩, rfl, trivial⟩, ⟨⟨rfl, rfl⟩, rfl, trivial⟩, ⟨⟨rfl, rfl⟩, rfl, trivial⟩, ⟨⟨rfl, rfl⟩, rfl, trivial⟩, ⟨⟨rfl, rfl⟩, rfl, trivial⟩, ⟨⟨rfl, rfl⟩, rfl, trivial⟩, ⟨⟨rfl, rfl⟩, rfl, trivial⟩, ⟨⟨rfl, rfl⟩, rfl, trivial⟩, ⟨⟨rfl, rfl⟩, rfl, trivial⟩, ⟨⟨rfl, rfl⟩, rfl, trivial⟩, ⟨⟨rfl, rfl⟩, rfl, trivial⟩, ⟨⟨rfl, rfl⟩, rfl, trivial⟩, ⟨⟨rfl, rfl⟩, rfl, trivial⟩, ⟨⟨rfl, rfl⟩, rfl, trivial⟩, trivial⟩)
end Go.Ev.Z
end
