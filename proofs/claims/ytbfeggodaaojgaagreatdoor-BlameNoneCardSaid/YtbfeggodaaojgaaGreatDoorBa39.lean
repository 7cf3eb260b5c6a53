/-
  Calls for the primes from 709 to 809. No condition.
-/
import Derived.Test.YtbfeggodaaojgaaGreatDoorBa09
set_option linter.all false
section
set_option linter.all false
set_option maxRecDepth 100000
set_option maxHeartbeats 0
set_option linter.unusedVariables false
namespace Go.Ev.Z
open Go Go.Ev Go.Proofs
def PL9 : List Nat := [709, 719, 727, 733, 739, 743, 751, 757, 761, 769, 773, 787, 797, 809]
theorem ql9_run : Rl PL9 = ((((kQ 709).v = (kQ 709).v ∧ (kQ 709).m = (kQ 709).m) ∧ (kQ 709).n' = (kQ 709).n' ∧ True) ∧ (((kQ 719).v = (kQ 719).v ∧ (kQ 719).m = (kQ 719).m) ∧ (kQ 719).n' = (kQ 719).n' ∧ True) ∧ (((kQ 727).v = (kQ 727).v ∧ (kQ 727).m = (kQ 727).m) ∧ (kQ 727).n' = (kQ 727).n' ∧ True) ∧ (((kQ 733).v = (kQ 733).v ∧ (kQ 733).m = (kQ 733).m) ∧ (kQ 733).n' = (kQ 733).n' ∧ True) ∧ (((kQ 739).v = (kQ 739).v ∧ (kQ 739).m = (kQ 739).m) ∧ (kQ 739).n' = (kQ 739).n' ∧ True) ∧ (((kQ 743).v = (kQ 743).v ∧ (kQ 743).m = (kQ 743).m) ∧ (kQ 743).n' = (kQ 743).n' ∧ True) ∧ (((kQ 751).v = (kQ 751).v ∧ (kQ 751).m = (kQ 751).m) ∧ (kQ 751).n' = (kQ 751).n' ∧ True) ∧ (((kQ 757).v = (kQ 757).v ∧ (kQ 757).m = (kQ 757).m) ∧ (kQ 757).n' = (kQ 757).n' ∧ True) ∧ (((kQ 761).v = (kQ 761).v ∧ (kQ 761).m = (kQ 761).m) ∧ (kQ 761).n' = (kQ 761).n' ∧ True) ∧ (((kQ 769).v = (kQ 769).v ∧ (kQ 769).m = (kQ 769).m) ∧ (kQ 769).n' = (kQ 769).n' ∧ True) ∧ (((kQ 773).v = (kQ 773).v ∧ (kQ 773).m = (kQ 773).m) ∧ (kQ 773).n' = (kQ 773).n' ∧ True) ∧ (((kQ 787).v = (kQ 787).v ∧ (kQ 787).m = (kQ 787).m) ∧ (kQ 787).n' = (kQ 787).n' ∧ True) ∧ (((kQ 797).v = (kQ 797).v ∧ (kQ 797).m = (kQ 797).m) ∧ (kQ 797).n' = (kQ 797).n' ∧ True) ∧ (((kQ 809).v = (kQ 809).v ∧ (kQ 809).m = (kQ 809).m) ∧ (kQ 809).n' = (kQ 809).n' ∧ True) ∧ True) := by kernel_rfl
theorem ql9 : ∀ p ∈ PL9, Rq p := rl_all (ql9_run.mpr ⟨⟨⟨rfl, rfl⟩, rfl, trivial⟩, ⟨⟨rfl, rfl⟩, rfl, trivial⟩, ⟨⟨rfl, rfl⟩, rfl, trivial⟩, ⟨⟨rfl, rfl⟩, rfl, trivial⟩, ⟨⟨rfl, rfl⟩, rfl, trivial⟩, ⟨⟨rfl, rfl⟩, rfl, trivial⟩, ⟨⟨rfl, rfl⟩, rfl, trivial⟩, ⟨⟨rfl, rfl⟩, rfl, trivial⟩, ⟨⟨rfl, rfl⟩, rfl, trivial⟩, ⟨⟨rfl, rfl⟩, rfl, trivial⟩, ⟨⟨rfl, rfl⟩, rfl, trivial⟩, ⟨⟨rfl, rfl⟩, rfl, trivial⟩, ⟨⟨rfl, rfl⟩, rfl, trivial⟩, ⟨⟨rfl, rfl⟩, rfl, trivial⟩, trivial⟩)
end Go.Ev.Z
end
