/-
  Calls for the primes from 47 to 107. No condition.
-/
import Derived.Test.YtbfeggodaaojgaaGreatDoorBa09
set_option linter.all false
section
set_option linter.all false
set_option maxRecDepth 100000
set_option maxHeartbeats 0
set_option linter.unusedVariables false
namespace Go.Ev.Z
open Go Go.Ev Go.Proofs
def PL1 : List Nat := [47, 53, 59, 61, 67, 71, 73, 79, 83, 89, 97, 101, 103, 107]
theorem ql1_run : Rl PL1 = ((((kQ 47).v = (kQ 47).v ∧ (kQ 47).m = (kQ 47).m) ∧ (kQ 47).n' = (kQ 47).n' ∧ True) ∧ (((kQ 53).v = (kQ 53).v ∧ (kQ 53).m = (kQ 53).m) ∧ (kQ 53).n' = (kQ 53).n' ∧ True) ∧ (((kQ 59).v = (kQ 59).v ∧ (kQ 59).m = (kQ 59).m) ∧ (kQ 59).n' = (kQ 59).n' ∧ True) ∧ (((kQ 61).v = (kQ 61).v ∧ (kQ 61).m = (kQ 61).m) ∧ (kQ 61).n' = (kQ 61).n' ∧ True) ∧ (((kQ 67).v = (kQ 67).v ∧ (kQ 67).m = (kQ 67).m) ∧ (kQ 67).n' = (kQ 67).n' ∧ True) ∧ (((kQ 71).v = (kQ 71).v ∧ (kQ 71).m = (kQ 71).m) ∧ (kQ 71).n' = (kQ 71).n' ∧ True) ∧ (((kQ 73).v = (kQ 73).v ∧ (kQ 73).m = (kQ 73).m) ∧ (kQ 73).n' = (kQ 73).n' ∧ True) ∧ (((kQ 79).v = (kQ 79).v ∧ (kQ 79).m = (kQ 79).m) ∧ (kQ 79).n' = (kQ 79).n' ∧ True) ∧ (((kQ 83).v = (kQ 83).v ∧ (kQ 83).m = (kQ 83).m) ∧ (kQ 83).n' = (kQ 83).n' ∧ True) ∧ (((kQ 89).v = (kQ 89).v ∧ (kQ 89).m = (kQ 89).m) ∧ (kQ 89).n' = (kQ 89).n' ∧ True) ∧ (((kQ 97).v = (kQ 97).v ∧ (kQ 97).m = (kQ 97).m) ∧ (kQ 97).n' = (kQ 97).n' ∧ True) ∧ (((kQ 101).v = (kQ 101).v ∧ (kQ 101).m = (kQ 101).m) ∧ (kQ 101).n' = (kQ 101).n' ∧ True) ∧ (((kQ 103).v = (kQ 103).v ∧ (kQ 103).m = (kQ 103).m) ∧ (kQ 103).n' = (kQ 103).n' ∧ True) ∧ (((kQ 107).v = (kQ 107).v ∧ (kQ 107).m = (kQ 107).m) ∧ (kQ 107).n' = (kQ 107).n' ∧ True) ∧ True) := by kernel_rfl
theorem ql1 : ∀ p ∈ PL1, Rq p := rl_all (ql1_run.mpr ⟨⟨⟨rfl, rfl⟩, rfl, trivial⟩, ⟨⟨rfl, rfl⟩, rfl, trivial⟩, ⟨⟨rfl, rfl⟩, rfl, trivial⟩, ⟨⟨rfl, rfl⟩, rfl, trivial⟩, ⟨⟨rfl, rfl⟩, rfl, trivial⟩, ⟨⟨rfl, rfl⟩, rfl, trivial⟩, ⟨⟨rfl, rfl⟩, rfl, trivial⟩, ⟨⟨rfl, rfl⟩, rfl, trivial⟩, ⟨⟨rfl, rfl⟩, rfl, trivial⟩, ⟨⟨rfl, rfl⟩, rfl, trivial⟩, ⟨⟨rfl, rfl⟩, rfl, trivial⟩, ⟨⟨rfl, rfl⟩, rfl, trivial⟩, ⟨⟨rfl, rfl⟩, rfl, trivial⟩, ⟨⟨rfl, rfl⟩, rfl, trivial⟩, trivial⟩)
end Go.Ev.Z
end
