/-
  Calls for the primes from 191 to 263. No condition.
-/
import Derived.Test.YtbfeggodaaojgaaGreatDoorBa09
set_option linter.all false
section
set_option linter.all false
set_option maxRecDepth 100000
set_option maxHeartbeats 0
set_option linter.unusedVariables false
namespace Go.Ev.Z
open Go Go.Ev Go.Proofs
def PL3 : List Nat := [191, 193, 197, 199, 211, 223, 227, 229, 233, 239, 241, 251, 257, 263]
theorem ql3_run : Rl PL3 = ((((kQ 191).v = (kQ 191).v ∧ (kQ 191).m = (kQ 191).m) ∧ (kQ 191).n' = (kQ 191).n' ∧ True) ∧ (((kQ 193).v = (kQ 193).v ∧ (kQ 193).m = (kQ 193).m) ∧ (kQ 193).n' = (kQ 193).n' ∧ True) ∧ (((kQ 197).v = (kQ 197).v ∧ (kQ 197).m = (kQ 197).m) ∧ (kQ 197).n' = (kQ 197).n' ∧ True) ∧ (((kQ 199).v = (kQ 199).v ∧ (kQ 199).m = (kQ 199).m) ∧ (kQ 199).n' = (kQ 199).n' ∧ True) ∧ (((kQ 211).v = (kQ 211).v ∧ (kQ 211).m = (kQ 211).m) ∧ (kQ 211).n' = (kQ 211).n' ∧ True) ∧ (((kQ 223).v = (kQ 223).v ∧ (kQ 223).m = (kQ 223).m) ∧ (kQ 223).n' = (kQ 223).n' ∧ True) ∧ (((kQ 227).v = (kQ 227).v ∧ (kQ 227).m = (kQ 227).m) ∧ (kQ 227).n' = (kQ 227).n' ∧ True) ∧ (((kQ 229).v = (kQ 229).v ∧ (kQ 229).m = (kQ 229).m) ∧ (kQ 229).n' = (kQ 229).n' ∧ True) ∧ (((kQ 233).v = (kQ 233).v ∧ (kQ 233).m = (kQ 233).m) ∧ (kQ 233).n' = (kQ 233).n' ∧ True) ∧ (((kQ 239).v = (kQ 239).v ∧ (kQ 239).m = (kQ 239).m) ∧ (kQ 239).n' = (kQ 239).n' ∧ True) ∧ (((kQ 241).v = (kQ 241).v ∧ (kQ 241).m = (kQ 241).m) ∧ (kQ 241).n' = (kQ 241).n' ∧ True) ∧ (((kQ 251).v = (kQ 251).v ∧ (kQ 251).m = (kQ 251).m) ∧ (kQ 251).n' = (kQ 251).n' ∧ True) ∧ (((kQ 257).v = (kQ 257).v ∧ (kQ 257).m = (kQ 257).m) ∧ (kQ 257).n' = (kQ 257).n' ∧ True) ∧ (((kQ 263).v = (kQ 263).v ∧ (kQ 263).m = (kQ 263).m) ∧ (kQ 263).n' = (kQ 263).n' ∧ True) ∧ True) := by kernel_rfl
theorem ql3 : ∀ p ∈ PL3, Rq p := rl_all (ql3_run.mpr ⟨⟨⟨rfl, rfl⟩, rfl, trivial⟩, ⟨⟨rfl, rfl⟩, rfl, trivial⟩, ⟨⟨rfl, rfl⟩, rfl, trivial⟩, ⟨⟨rfl, rfl⟩, rfl, trivial⟩, ⟨⟨rfl, rfl⟩, rfl, trivial⟩, ⟨⟨rfl, rfl⟩, rfl, trivial⟩, ⟨⟨rfl, rfl⟩, rfl, trivial⟩, ⟨⟨rfl, rfl⟩, rfl, trivial⟩, ⟨⟨rfl, rfl⟩, rfl, trivial⟩, ⟨⟨rfl, rfl⟩, rfl, trivial⟩, ⟨⟨rfl, rfl⟩, rfl, trivial⟩, ⟨⟨rfl, rfl⟩, rfl, trivial⟩, ⟨⟨rfl, rfl⟩, rfl, trivial⟩, ⟨⟨rfl, rfl⟩, rfl, trivial⟩, trivial⟩)
end Go.Ev.Z
end
