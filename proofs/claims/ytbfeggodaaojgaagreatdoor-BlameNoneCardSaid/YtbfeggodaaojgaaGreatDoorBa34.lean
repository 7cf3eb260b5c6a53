/-
  Calls for the primes from 269 to 349. No condition.
-/
import Derived.Test.YtbfeggodaaojgaaGreatDoorBa09
set_option linter.all false
section
set_option linter.all false
set_option maxRecDepth 100000
set_option maxHeartbeats 0
set_option linter.unusedVariables false
namespace Go.Ev.Z
open Go Go.Ev Go.Proofs
def PL4 : List Nat := [269, 271, 277, 281, 283, 293, 307, 311, 313, 317, 331, 337, 347, 349]
theorem ql4_run : Rl PL4 = ((((kQ 269).v = (kQ 269).v ∧ (kQ 269).m = (kQ 269).m) ∧ (kQ 269).n' = (kQ 269).n' ∧ True) ∧ (((kQ 271).v = (kQ 271).v ∧ (kQ 271).m = (kQ 271).m) ∧ (kQ 271).n' = (kQ 271).n' ∧ True) ∧ (((kQ 277).v = (kQ 277).v ∧ (kQ 277).m = (kQ 277).m) ∧ (kQ 277).n' = (kQ 277).n' ∧ True) ∧ (((kQ 281).v = (kQ 281).v ∧ (kQ 281).m = (kQ 281).m) ∧ (kQ 281).n' = (kQ 281).n' ∧ True) ∧ (((kQ 283).v = (kQ 283).v ∧ (kQ 283).m = (kQ 283).m) ∧ (kQ 283).n' = (kQ 283).n' ∧ True) ∧ (((kQ 293).v = (kQ 293).v ∧ (kQ 293).m = (kQ 293).m) ∧ (kQ 293).n' = (kQ 293).n' ∧ True) ∧ (((kQ 307).v = (kQ 307).v ∧ (kQ 307).m = (kQ 307).m) ∧ (kQ 307).n' = (kQ 307).n' ∧ True) ∧ (((kQ 311).v = (kQ 311).v ∧ (kQ 311).m = (kQ 311).m) ∧ (kQ 311).n' = (kQ 311).n' ∧ True) ∧ (((kQ 313).v = (kQ 313).v ∧ (kQ 313).m = (kQ 313).m) ∧ (kQ 313).n' = (kQ 313).n' ∧ True) ∧ (((kQ 317).v = (kQ 317).v ∧ (kQ 317).m = (kQ 317).m) ∧ (kQ 317).n' = (kQ 317).n' ∧ True) ∧ (((kQ 331).v = (kQ 331).v ∧ (kQ 331).m = (kQ 331).m) ∧ (kQ 331).n' = (kQ 331).n' ∧ True) ∧ (((kQ 337).v = (kQ 337).v ∧ (kQ 337).m = (kQ 337).m) ∧ (kQ 337).n' = (kQ 337).n' ∧ True) ∧ (((kQ 347).v = (kQ 347).v ∧ (kQ 347).m = (kQ 347).m) ∧ (kQ 347).n' = (kQ 347).n' ∧ True) ∧ (((kQ 349).v = (kQ 349).v ∧ (kQ 349).m = (kQ 349).m) ∧ (kQ 349).n' = (kQ 349).n' ∧ True) ∧ True) := by kernel_rfl
theorem ql4 : ∀ p ∈ PL4, Rq p := rl_all (ql4_run.mpr ⟨⟨⟨rfl, rfl⟩, rfl, trivial⟩, ⟨⟨rfl, rfl⟩, rfl, trivial⟩, ⟨⟨rfl, rfl⟩, rfl, trivial⟩, ⟨⟨rfl, rfl⟩, rfl, trivial⟩, ⟨⟨rfl, rfl⟩, rfl, trivial⟩, ⟨⟨rfl, rfl⟩, rfl, trivial⟩, ⟨⟨rfl, rfl⟩, rfl, trivial⟩, ⟨⟨rfl, rfl⟩, rfl, trivial⟩, ⟨⟨rfl, rfl⟩, rfl, trivial⟩, ⟨⟨rfl, rfl⟩, rfl, trivial⟩, ⟨⟨rfl, rfl⟩, rfl, trivial⟩, ⟨⟨rfl, rfl⟩, rfl, trivial⟩, ⟨⟨rfl, rfl⟩, rfl, trivial⟩, ⟨⟨rfl, rfl⟩, rfl, trivial⟩, trivial⟩)
end Go.Ev.Z
end
