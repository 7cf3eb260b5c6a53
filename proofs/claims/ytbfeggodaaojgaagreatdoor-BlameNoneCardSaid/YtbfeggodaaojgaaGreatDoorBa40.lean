/-
  Calls for the primes from 811 to 887. No condition.
-/
import Derived.Test.YtbfeggodaaojgaaGreatDoorBa09
set_option linter.all false
section
set_option linter.all false
set_option maxRecDepth 100000
set_option maxHeartbeats 0
set_option linter.unusedVariables false
namespace Go.Ev.Z
open Go Go.Ev Go.Proofs
def PL10 : List Nat := [811, 821, 823, 827, 829, 839, 853, 857, 859, 863, 877, 881, 883, 887]
theorem ql10_run : Rl PL10 = ((((kQ 811).v = (kQ 811).v ∧ (kQ 811).m = (kQ 811).m) ∧ (kQ 811).n' = (kQ 811).n' ∧ True) ∧ (((kQ 821).v = (kQ 821).v ∧ (kQ 821).m = (kQ 821).m) ∧ (kQ 821).n' = (kQ 821).n' ∧ True) ∧ (((kQ 823).v = (kQ 823).v ∧ (kQ 823).m = (kQ 823).m) ∧ (kQ 823).n' = (kQ 823).n' ∧ True) ∧ (((kQ 827).v = (kQ 827).v ∧ (kQ 827).m = (kQ 827).m) ∧ (kQ 827).n' = (kQ 827).n' ∧ True) ∧ (((kQ 829).v = (kQ 829).v ∧ (kQ 829).m = (kQ 829).m) ∧ (kQ 829).n' = (kQ 829).n' ∧ True) ∧ (((kQ 839).v = (kQ 839).v ∧ (kQ 839).m = (kQ 839).m) ∧ (kQ 839).n' = (kQ 839).n' ∧ True) ∧ (((kQ 853).v = (kQ 853).v ∧ (kQ 853).m = (kQ 853).m) ∧ (kQ 853).n' = (kQ 853).n' ∧ True) ∧ (((kQ 857).v = (kQ 857).v ∧ (kQ 857).m = (kQ 857).m) ∧ (kQ 857).n' = (kQ 857).n' ∧ True) ∧ (((kQ 859).v = (kQ 859).v ∧ (kQ 859).m = (kQ 859).m) ∧ (kQ 859).n' = (kQ 859).n' ∧ True) ∧ (((kQ 863).v = (kQ 863).v ∧ (kQ 863).m = (kQ 863).m) ∧ (kQ 863).n' = (kQ 863).n' ∧ True) ∧ (((kQ 877).v = (kQ 877).v ∧ (kQ 877).m = (kQ 877).m) ∧ (kQ 877).n' = (kQ 877).n' ∧ True) ∧ (((kQ 881).v = (kQ 881).v ∧ (kQ 881).m = (kQ 881).m) ∧ (kQ 881).n' = (kQ 881).n' ∧ True) ∧ (((kQ 883).v = (kQ 883).v ∧ (kQ 883).m = (kQ 883).m) ∧ (kQ 883).n' = (kQ 883).n' ∧ True) ∧ (((kQ 887).v = (kQ 887).v ∧ (kQ 887).m = (kQ 887).m) ∧ (kQ 887).n' = (kQ 887).n' ∧ True) ∧ True) := by kernel_rfl
theorem ql10 : ∀ p ∈ PL10, Rq p := rl_all (ql10_run.mpr ⟨⟨⟨rfl, rfl⟩, rfl, trivial⟩, ⟨⟨rfl, rfl⟩, rfl, trivial⟩, ⟨⟨rfl, rfl⟩, rfl, trivial⟩, ⟨⟨rfl, rfl⟩, rfl, trivial⟩, ⟨⟨rfl, rfl⟩, rfl, trivial⟩, ⟨⟨rfl, rfl⟩, rfl, trivial⟩, ⟨⟨rfl, rfl⟩, rfl, trivial⟩, ⟨⟨rfl, rfl⟩, rfl, trivial⟩, ⟨⟨rfl, rfl⟩, rfl, trivial⟩, ⟨⟨rfl, rfl⟩, rfl, trivial⟩, ⟨⟨rfl, rfl⟩, rfl, trivial⟩, ⟨⟨rfl, rfl⟩, rfl, trivial⟩, ⟨⟨rfl, rfl⟩, rfl, trivial⟩, ⟨⟨rfl, rfl⟩, rfl, trivial⟩, trivial⟩)
end Go.Ev.Z
end
