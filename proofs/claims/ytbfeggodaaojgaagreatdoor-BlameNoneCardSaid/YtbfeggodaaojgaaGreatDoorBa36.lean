/-
  Calls for the primes from 439 to 521. No condition.
-/
import Derived.Test.YtbfeggodaaojgaaGreatDoorBa09
set_option linter.all false
section
set_option linter.all false
set_option maxRecDepth 100000
set_option maxHeartbeats 0
set_option linter.unusedVariables false
namespace Go.Ev.Z
open Go Go.Ev Go.Proofs
def PL6 : List Nat := [439, 443, 449, 457, 461, 463, 467, 479, 487, 491, 499, 503, 509, 521]
theorem ql6_run : Rl PL6 = ((((kQ 439).v = (kQ 439).v ∧ (kQ 439).m = (kQ 439).m) ∧ (kQ 439).n' = (kQ 439).n' ∧ True) ∧ (((kQ 443).v = (kQ 443).v ∧ (kQ 443).m = (kQ 443).m) ∧ (kQ 443).n' = (kQ 443).n' ∧ True) ∧ (((kQ 449).v = (kQ 449).v ∧ (kQ 449).m = (kQ 449).m) ∧ (kQ 449).n' = (kQ 449).n' ∧ True) ∧ (((kQ 457).v = (kQ 457).v ∧ (kQ 457).m = (kQ 457).m) ∧ (kQ 457).n' = (kQ 457).n' ∧ True) ∧ (((kQ 461).v = (kQ 461).v ∧ (kQ 461).m = (kQ 461).m) ∧ (kQ 461).n' = (kQ 461).n' ∧ True) ∧ (((kQ 463).v = (kQ 463).v ∧ (kQ 463).m = (kQ 463).m) ∧ (kQ 463).n' = (kQ 463).n' ∧ True) ∧ (((kQ 467).v = (kQ 467).v ∧ (kQ 467).m = (kQ 467).m) ∧ (kQ 467).n' = (kQ 467).n' ∧ True) ∧ (((kQ 479).v = (kQ 479).v ∧ (kQ 479).m = (kQ 479).m) ∧ (kQ 479).n' = (kQ 479).n' ∧ True) ∧ (((kQ 487).v = (kQ 487).v ∧ (kQ 487).m = (kQ 487).m) ∧ (kQ 487).n' = (kQ 487).n' ∧ True) ∧ (((kQ 491).v = (kQ 491).v ∧ (kQ 491).m = (kQ 491).m) ∧ (kQ 491).n' = (kQ 491).n' ∧ True) ∧ (((kQ 499).v = (kQ 499).v ∧ (kQ 499).m = (kQ 499).m) ∧ (kQ 499).n' = (kQ 499).n' ∧ True) ∧ (((kQ 503).v = (kQ 503).v ∧ (kQ 503).m = (kQ 503).m) ∧ (kQ 503).n' = (kQ 503).n' ∧ True) ∧ (((kQ 509).v = (kQ 509).v ∧ (kQ 509).m = (kQ 509).m) ∧ (kQ 509).n' = (kQ 509).n' ∧ True) ∧ (((kQ 521).v = (kQ 521).v ∧ (kQ 521).m = (kQ 521).m) ∧ (kQ 521).n' = (kQ 521).n' ∧ True) ∧ True) := by kernel_rfl
theorem ql6 : ∀ p ∈ PL6, Rq p := rl_all (ql6_run.mpr ⟨⟨⟨rfl, rfl⟩, rfl, trivial⟩, ⟨⟨rfl, rfl⟩, rfl, trivial⟩, ⟨⟨rfl, rfl⟩, rfl, trivial⟩, ⟨⟨rfl, rfl⟩, rfl, trivial⟩, ⟨⟨rfl, rfl⟩, rfl, trivial⟩, ⟨⟨rfl, rfl⟩, rfl, trivial⟩, ⟨⟨rfl, rfl⟩, rfl, trivial⟩, ⟨⟨rfl, rfl⟩, rfl, trivial⟩, ⟨⟨rfl, rfl⟩, rfl, trivial⟩, ⟨⟨rfl, rfl⟩, rfl, trivial⟩, ⟨⟨rfl, rfl⟩, rfl, trivial⟩, ⟨⟨rfl, rfl⟩, rfl, trivial⟩, ⟨⟨rfl, rfl⟩, rfl, trivial⟩, ⟨⟨rfl, rfl⟩, rfl, trivial⟩, trivial⟩)
end Go.Ev.Z
end
