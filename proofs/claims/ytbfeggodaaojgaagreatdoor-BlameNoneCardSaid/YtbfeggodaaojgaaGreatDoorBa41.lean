/-
  Calls for the primes from 907 to 997. No condition.
-/
import Derived.Test.YtbfeggodaaojgaaGreatDoorBa09
set_option linter.all false
section
set_option linter.all false
set_option maxRecDepth 100000
set_option maxHeartbeats 0
set_option linter.unusedVariables false
namespace Go.Ev.Z
open Go Go.Ev Go.Proofs
def PL11 : List Nat := [907, 911, 919, 929, 937, 941, 947, 953, 967, 971, 977, 983, 991, 997]
theorem ql11_run : Rl PL11 = ((((kQ 907).v = (kQ 907).v ∧ (kQ 907).m = (kQ 907).m) ∧ (kQ 907).n' = (kQ 907).n' ∧ True) ∧ (((kQ 911).v = (kQ 911).v ∧ (kQ 911).m = (kQ 911).m) ∧ (kQ 911).n' = (kQ 911).n' ∧ True) ∧ (((kQ 919).v = (kQ 919).v ∧ (kQ 919).m = (kQ 919).m) ∧ (kQ 919).n' = (kQ 919).n' ∧ True) ∧ (((kQ 929).v = (kQ 929).v ∧ (kQ 929).m = (kQ 929).m) ∧ (kQ 929).n' = (kQ 929).n' ∧ True) ∧ (((kQ 937).v = (kQ 937).v ∧ (kQ 937).m = (kQ 937).m) ∧ (kQ 937).n' = (kQ 937).n' ∧ True) ∧ (((kQ 941).v = (kQ 941).v ∧ (kQ 941).m = (kQ 941).m) ∧ (kQ 941).n' = (kQ 941).n' ∧ True) ∧ (((kQ 947).v = (kQ 947).v ∧ (kQ 947).m = (kQ 947).m) ∧ (kQ 947).n' = (kQ 947).n' ∧ True) ∧ (((kQ 953).v = (kQ 953).v ∧ (kQ 953).m = (kQ 953).m) ∧ (kQ 953).n' = (kQ 953).n' ∧ True) ∧ (((kQ 967).v = (kQ 967).v ∧ (kQ 967).m = (kQ 967).m) ∧ (kQ 967).n' = (kQ 967).n' ∧ True) ∧ (((kQ 971).v = (kQ 971).v ∧ (kQ 971).m = (kQ 971).m) ∧ (kQ 971).n' = (kQ 971).n' ∧ True) ∧ (((kQ 977).v = (kQ 977).v ∧ (kQ 977).m = (kQ 977).m) ∧ (kQ 977).n' = (kQ 977).n' ∧ True) ∧ (((kQ 983).v = (kQ 983).v ∧ (kQ 983).m = (kQ 983).m) ∧ (kQ 983).n' = (kQ 983).n' ∧ True) ∧ (((kQ 991).v = (kQ 991).v ∧ (kQ 991).m = (kQ 991).m) ∧ (kQ 991).n' = (kQ 991).n' ∧ True) ∧ (((kQ 997).v = (kQ 997).v ∧ (kQ 997).m = (kQ 997).m) ∧ (kQ 997).n' = (kQ 997).n' ∧ True) ∧ True) := by kernel_rfl
theorem ql11 : ∀ p ∈ PL11, Rq p := rl_all (ql11_run.mpr ⟨⟨⟨rfl, rfl⟩, rfl, trivial⟩, ⟨⟨rfl, rfl⟩, rfl, trivial⟩, ⟨⟨rfl, rfl⟩, rfl, trivial⟩, ⟨⟨rfl, rfl⟩, rfl, trivial⟩, ⟨⟨rfl, rfl⟩, rfl, trivial⟩, ⟨⟨rfl, rfl⟩, rfl, trivial⟩, ⟨⟨rfl, rfl⟩, rfl, trivial⟩, ⟨⟨rfl, rfl⟩, rfl, trivial⟩, ⟨⟨rfl, rfl⟩, rfl, trivial⟩, ⟨⟨rfl, rfl⟩, rfl, trivial⟩, ⟨⟨rfl, rfl⟩, rfl, trivial⟩, ⟨⟨rfl, rfl⟩, rfl, trivial⟩, ⟨⟨rfl, rfl⟩, rfl, trivial⟩, ⟨⟨rfl, rfl⟩, rfl, trivial⟩, trivial⟩)
end Go.Ev.Z
end
