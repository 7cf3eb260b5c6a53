/-
  Calls for the primes from 109 to 181. No condition.
-/
import Derived.Test.YtbfeggodaaojgaaGreatDoorBa09
set_option linter.all false
section
set_option linter.all false
set_option maxRecDepth 100000
set_option maxHeartbeats 0
set_option linter.unusedVariables false
namespace Go.Ev.Z
open Go Go.Ev Go.Proofs
def PL2 : List Nat := [109, 113, 127, 131, 137, 139, 149, 151, 157, 163, 167, 173, 179, 181]
theorem ql2_run : Rl PL2 = ((((kQ 109).v = (kQ 109).v ∧ (kQ 109).m = (kQ 109).m) ∧ (kQ 109).n' = (kQ 109).n' ∧ True) ∧ (((kQ 113).v = (kQ 113).v ∧ (kQ 113).m = (kQ 113).m) ∧ (kQ 113).n' = (kQ 113).n' ∧ True) ∧ (((kQ 127).v = (kQ 127).v ∧ (kQ 127).m = (kQ 127).m) ∧ (kQ 127).n' = (kQ 127).n' ∧ True) ∧ (((kQ 131).v = (kQ 131).v ∧ (kQ 131).m = (kQ 131).m) ∧ (kQ 131).n' = (kQ 131).n' ∧ True) ∧ (((kQ 137).v = (kQ 137).v ∧ (kQ 137).m = (kQ 137).m) ∧ (kQ 137).n' = (kQ 137).n' ∧ True) ∧ (((kQ 139).v = (kQ 139).v ∧ (kQ 139).m = (kQ 139).m) ∧ (kQ 139).n' = (kQ 139).n' ∧ True) ∧ (((kQ 149).v = (kQ 149).v ∧ (kQ 149).m = (kQ 149).m) ∧ (kQ 149).n' = (kQ 149).n' ∧ True) ∧ (((kQ 151).v = (kQ 151).v ∧ (kQ 151).m = (kQ 151).m) ∧ (kQ 151).n' = (kQ 151).n' ∧ True) ∧ (((kQ 157).v = (kQ 157).v ∧ (kQ 157).m = (kQ 157).m) ∧ (kQ 157).n' = (kQ 157).n' ∧ True) ∧ (((kQ 163).v = (kQ 163).v ∧ (kQ 163).m = (kQ 163).m) ∧ (kQ 163).n' = (kQ 163).n' ∧ True) ∧ (((kQ 167).v = (kQ 167).v ∧ (kQ 167).m = (kQ 167).m) ∧ (kQ 167).n' = (kQ 167).n' ∧ True) ∧ (((kQ 173).v = (kQ 173).v ∧ (kQ 173).m = (kQ 173).m) ∧ (kQ 173).n' = (kQ 173).n' ∧ True) ∧ (((kQ 179).v = (kQ 179).v ∧ (kQ 179).m = (kQ 179).m) ∧ (kQ 179).n' = (kQ 179).n' ∧ True) ∧ (((kQ 181).v = (kQ 181).v ∧ (kQ 181).m = (kQ 181).m) ∧ (kQ 181).n' = (kQ 181).n' ∧ True) ∧ True) := by kernel_rfl
theorem ql2 : ∀ p ∈ PL2, Rq p := rl_all (ql2_run.mpr ⟨⟨⟨rfl, rfl⟩, rfl, trivial⟩, ⟨⟨rfl, rfl⟩, rfl, trivial⟩, ⟨⟨rfl, rfl⟩, rfl, trivial⟩, ⟨⟨rfl, rfl⟩, rfl, trivial⟩, ⟨⟨rfl, rfl⟩, rfl, trivial⟩, ⟨⟨rfl, rfl⟩, rfl, trivial⟩, ⟨⟨rfl, rfl⟩, rfl, trivial⟩, ⟨⟨rfl, rfl⟩, rfl, trivial⟩, ⟨⟨rfl, rfl⟩, rfl, trivial⟩, ⟨⟨rfl, rfl⟩, rfl, trivial⟩, ⟨⟨rfl, rfl⟩, rfl, trivial⟩, ⟨⟨rfl, rfl⟩, rfl, trivial⟩, ⟨⟨rfl, rfl⟩, rfl, trivial⟩, ⟨⟨rfl, rfl⟩, rfl, trivial⟩, trivial⟩)
end Go.Ev.Z
end
