/-
  Calls for the primes from 353 to 433. No condition.
-/
import Derived.Test.YtbfeggodaaojgaaGreatDoorBa09
set_option linter.all false
section
set_option linter.all false
set_option maxRecDepth 100000
set_option maxHeartbeats 0
set_option linter.unusedVariables false
namespace Go.Ev.Z
open Go Go.Ev Go.Proofs
def PL5 : List Nat := [353, 359, 367, 373, 379, 383, 389, 397, 401, 409, 419, 421, 431, 433]
theorem ql5_run : Rl PL5 = ((((kQ 353).v = (kQ 353).v ∧ (kQ 353).m = (kQ 353).m) ∧ (kQ 353).n' = (kQ 353).n' ∧ True) ∧ (((kQ 359).v = (kQ 359).v ∧ (kQ 359).m = (kQ 359).m) ∧ (kQ 359).n' = (kQ 359).n' ∧ True) ∧ (((kQ 367).v = (kQ 367).v ∧ (kQ 367).m = (kQ 367).m) ∧ (kQ 367).n' = (kQ 367).n' ∧ True) ∧ (((kQ 373).v = (kQ 373).v ∧ (kQ 373).m = (kQ 373).m) ∧ (kQ 373).n' = (kQ 373).n' ∧ True) ∧ (((kQ 379).v = (kQ 379).v ∧ (kQ 379).m = (kQ 379).m) ∧ (kQ 379).n' = (kQ 379).n' ∧ True) ∧ (((kQ 383).v = (kQ 383).v ∧ (kQ 383).m = (kQ 383).m) ∧ (kQ 383).n' = (kQ 383).n' ∧ True) ∧ (((kQ 389).v = (kQ 389).v ∧ (kQ 389).m = (kQ 389).m) ∧ (kQ 389).n' = (kQ 389).n' ∧ True) ∧ (((kQ 397).v = (kQ 397).v ∧ (kQ 397).m = (kQ 397).m) ∧ (kQ 397).n' = (kQ 397).n' ∧ True) ∧ (((kQ 401).v = (kQ 401).v ∧ (kQ 401).m = (kQ 401).m) ∧ (kQ 401).n' = (kQ 401).n' ∧ True) ∧ (((kQ 409).v = (kQ 409).v ∧ (kQ 409).m = (kQ 409).m) ∧ (kQ 409).n' = (kQ 409).n' ∧ True) ∧ (((kQ 419).v = (kQ 419).v ∧ (kQ 419).m = (kQ 419).m) ∧ (kQ 419).n' = (kQ 419).n' ∧ True) ∧ (((kQ 421).v = (kQ 421).v ∧ (kQ 421).m = (kQ 421).m) ∧ (kQ 421).n' = (kQ 421).n' ∧ True) ∧ (((kQ 431).v = (kQ 431).v ∧ (kQ 431).m = (kQ 431).m) ∧ (kQ 431).n' = (kQ 431).n' ∧ True) ∧ (((kQ 433).v = (kQ 433).v ∧ (kQ 433).m = (kQ 433).m) ∧ (kQ 433).n' = (kQ 433).n' ∧ True) ∧ True) := by kernel_rfl
theorem ql5 : ∀ p ∈ PL5, Rq p := rl_all (ql5_run.mpr ⟨⟨⟨rfl, rfl⟩, rfl, trivial⟩, ⟨⟨rfl, rfl⟩, rfl, trivial⟩, ⟨⟨rfl, rfl⟩, rfl, trivial⟩, ⟨⟨rfl, rfl⟩, rfl, trivial⟩, ⟨⟨rfl, rfl⟩, rfl, trivial⟩, ⟨⟨rfl, rfl⟩, rfl, trivial⟩, ⟨⟨rfl, rfl⟩, rfl, trivial⟩, ⟨⟨rfl, rfl⟩, rfl, trivial⟩, ⟨⟨rfl, rfl⟩, rfl, trivial⟩, ⟨⟨rfl, rfl⟩, rfl, trivial⟩, ⟨⟨rfl, rfl⟩, rfl, trivial⟩, ⟨⟨rfl, rfl⟩, rfl, trivial⟩, ⟨⟨rfl, rfl⟩, rfl, trivial⟩, ⟨⟨rfl, rfl⟩, rfl, trivial⟩, trivial⟩)
end Go.Ev.Z
end
