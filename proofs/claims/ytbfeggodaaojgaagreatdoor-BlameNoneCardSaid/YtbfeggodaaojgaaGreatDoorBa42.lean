/-
  Walks: which numbers are primes, in the program and in its reference, for every number. Walks: an object that is not in a store; equality of hashes. All calls with known outcomes. The calls of the law 'BlameNone': what the evaluator has run, as contracts. The calls of the law 'BlameNone' with any hash, and with any number. Walks: the law 'BlameNone'. From the form's own reading of the arguments: a row of bytes, and a number. 'BlameNone': the statement and its tied card. No condition.
-/
import Derived.Test.YtbfeggodaaojgaaGreatDoorBa02
import Derived.Test.YtbfeggodaaojgaaGreatDoorBa09
import Derived.Laws.Pointers
import Derived.Test.YtbfeggodaaojgaaGreatDoorBa10
import Derived.Test.YtbfeggodaaojgaaGreatDoorBa29
import Derived.Test.YtbfeggodaaojgaaGreatDoorBa30
import Derived.Test.YtbfeggodaaojgaaGreatDoorBa31
import Derived.Test.YtbfeggodaaojgaaGreatDoorBa32
import Derived.Test.YtbfeggodaaojgaaGreatDoorBa33
import Derived.Test.YtbfeggodaaojgaaGreatDoorBa34
import Derived.Test.YtbfeggodaaojgaaGreatDoorBa35
import Derived.Test.YtbfeggodaaojgaaGreatDoorBa36
import Derived.Test.YtbfeggodaaojgaaGreatDoorBa37
import Derived.Test.YtbfeggodaaojgaaGreatDoorBa38
import Derived.Test.YtbfeggodaaojgaaGreatDoorBa39
import Derived.Test.YtbfeggodaaojgaaGreatDoorBa40
import Derived.Test.YtbfeggodaaojgaaGreatDoorBa41
import Derived.Test.YtbfeggodaaojgaaGreatDoorRows
import Derived.Test.YtbfeggodaaojgaaGreatDoorChecked
import Derived.WalkKit
import Derived.ProofKit
import Derived.OpenShut
import Derived.ShutString
import Derived.ChangeOld
import Derived.Below
import Derived.Deep.Slices
import Derived.Lib.SmallJoins
import Derived.Laws.IdiomArrays
import Derived.Test.YtbfeggodaaojgaaGreatDoorTie
import Derived.Test.YtbfeggodaaojgaaGreatDoorCards
import Derived.JoinedOf
import Derived.LaidMore
import Derived.Lay
import Derived.SevenTiedAt
import Derived.Stop.Joined
set_option linter.all false
section
namespace Go.Proofs.YtbfeggodaaojgaaGreatDoor
open Go Go.Sy Go.Pl Go.Proofs
set_option maxRecDepth 100000

/-- A prime number that is permitted. -/
def isPr (p : Int) : Bool := decide (2 ≤ p) && decide (p ≤ 997) && (List.range p.toNat).all fun d => decide (d < 2) || decide (p.toNat % d ≠ 0)
theorem isPr_iff {p : Int} : isPr p = true ↔ 2 ≤ p ∧ p ≤ 997 ∧ ∀ d, d < p.toNat → 2 ≤ d → p.toNat % d ≠ 0 := by
  unfold isPr
  simp only [Bool.and_eq_true, decide_eq_true_eq, List.all_eq_true, List.mem_range, Bool.or_eq_true]
  constructor
  · rintro ⟨⟨h1, h2⟩, h3⟩
    exact ⟨h1, h2, fun d hd h4 => (h3 d hd).resolve_left (by omega)⟩
  · rintro ⟨h1, h2, h3⟩
    exact ⟨⟨h1, h2⟩, fun d hd => by
      by_cases h4 : d < 2
      · exact .inl h4
      · exact .inr (h3 d hd (by omega))⟩
theorem isPr_lo {p : Int} (h : p < 2) : isPr p = false := by
  rw [Bool.eq_false_iff, Ne, isPr_iff]; omega
theorem isPr_hi {p : Int} (h : 997 < p) : isPr p = false := by
  rw [Bool.eq_false_iff, Ne, isPr_iff]; omega
theorem isPr_no {n d : Nat} (hd : d < n) (h2 : 2 ≤ d) (h : n % d = 0) : isPr n = false := by
  rw [Bool.eq_false_iff, Ne, isPr_iff]
  rintro ⟨_, _, h3⟩
  exact h3 d (by simpa using hd) h2 (by simpa using h)
theorem isPr_yes {n : Nat} (h2 : 2 ≤ n) (h9 : n ≤ 997) (h : ∀ d, d < n → 2 ≤ d → n % d ≠ 0) : isPr n = true :=
  isPr_iff.2 ⟨by omega, by omega, fun d hd h3 => by simpa using h d (by simpa using hd) h3⟩
theorem sq_no {n k : Nat} (hk : n < k * k) (h : ∀ d, d < k → 2 ≤ d → n % d ≠ 0) : ∀ d, d < n → 2 ≤ d → n % d ≠ 0 := by
  intro d hd h2 h0
  have hdv := Nat.dvd_of_mod_eq_zero h0
  obtain ⟨e, he⟩ := hdv
  by_cases hdk : d < k
  · exact h d hdk h2 h0
  · have he2 : 2 ≤ e := by
      refine Classical.byContradiction fun hc => ?_
      rcases (by omega : e = 0 ∨ e = 1) with h3 | h3 <;> subst h3 <;> omega
    have hek : e < k := by
      refine Classical.byContradiction fun hc => ?_
      have : k * k ≤ d * e := Nat.mul_le_mul (by omega) (by omega)
      omega
    exact h e hek he2 (by rw [he]; exact Nat.mul_mod_left d e)

theorem refPrime_lo (E : World) (g : PH) (s : Own) (p : Int) (h : p < 2) : Ctr Tryz.prog E 9 #[vi p] g s (fun r g' s' => r = vb (isPr p) ∧ g = g' ∧ s = s') := by
  rw [isPr_lo h]
  refine Ctr.of (args := [vi p]) Tryz.func9 rfl Tryz.ntmps9 (Nat.le_of_ble_eq_true rfl) ?_
  refine SC.seq ?_
  refine SC.region ?_
  refine SL.u (SU.assign rfl) (by decide) ?_
  refine SL.nil ?_
  refine ST.thenN ?_
  refine SC.seq ?_
  refine SC.seq ?_
  refine SC.region ?_
  refine SL.u (SU.move rfl) (by decide) ?_
  refine SL.u (SU.eq (v' := vb true) (SU.lss rfl rfl) (congrArg vb (decide_eq_true (by omega)))) (by decide) ?_
  refine SL.u (SU.move rfl) (by decide) ?_
  refine SL.off (Gd.onF rfl rfl rfl (by decide)) (by decide) ?_
  refine SL.off (Gd.onF rfl rfl rfl (by decide)) (by decide) ?_
  refine SL.u ((by first | exact SU.pickT rfl rfl | exact SU.pickF rfl rfl)) (by decide) ?_
  refine SL.nil ?_
  refine ST.thenN ?_
  refine SC.condT rfl ?_
  refine SC.seq ?_
  refine SC.region ?_
  refine SL.u (SU.assign rfl) (by decide) ?_
  refine SL.nil ?_
  refine ST.thenN ?_
  refine SC.ret ?_
  refine ST.thenR ?_
  exact ST.ret1 (.inl rfl) Tryz.results9 rfl ⟨rfl, rfl, rfl⟩
theorem refPrime_hi (E : World) (g : PH) (s : Own) (p : Int) (h : 997 < p) : Ctr Tryz.prog E 9 #[vi p] g s (fun r g' s' => r = vb (isPr p) ∧ g = g' ∧ s = s') := by
  rw [isPr_hi h]
  refine Ctr.of (args := [vi p]) Tryz.func9 rfl Tryz.ntmps9 (Nat.le_of_ble_eq_true rfl) ?_
  refine SC.seq ?_
  refine SC.region ?_
  refine SL.u (SU.assign rfl) (by decide) ?_
  refine SL.nil ?_
  refine ST.thenN ?_
  refine SC.seq ?_
  refine SC.seq ?_
  refine SC.region ?_
  refine SL.u (SU.move rfl) (by decide) ?_
  refine SL.u (SU.eq (v' := vb false) (SU.lss rfl rfl) (congrArg vb (decide_eq_false (by omega)))) (by decide) ?_
  refine SL.u (SU.move rfl) (by decide) ?_
  refine SL.gu (Gd.onT rfl rfl rfl (by decide)) (SU.move rfl) (by decide) ?_
  refine SL.gu (Gd.onT rfl rfl rfl (by decide)) (SU.eq (v' := vb true) (SU.gtr rfl rfl) (congrArg vb (decide_eq_true (by omega)))) (by decide) ?_
  refine SL.u ((by first | exact SU.pickT rfl rfl | exact SU.pickF rfl rfl)) (by decide) ?_
  refine SL.nil ?_
  refine ST.thenN ?_
  refine SC.condT rfl ?_
  refine SC.seq ?_
  refine SC.region ?_
  refine SL.u (SU.assign rfl) (by decide) ?_
  refine SL.nil ?_
  refine ST.thenN ?_
  refine SC.ret ?_
  refine ST.thenR ?_
  exact ST.ret1 (.inl rfl) Tryz.results9 rfl ⟨rfl, rfl, rfl⟩
theorem refPrime_mid (E : World) (g : PH) (s : Own) (n : Nat) (h2 : 2 ≤ n) (h9 : n ≤ 997) : Ctr Tryz.prog E 9 #[vi n] g s (fun r g' s' => r = vb (isPr n) ∧ g = g' ∧ s = s') := by
  refine Ctr.of (args := [vi n]) Tryz.func9 rfl Tryz.ntmps9 (Nat.le_of_ble_eq_true rfl) ?_
  refine SC.seq ?_
  refine SC.region ?_
  refine SL.u (SU.assign rfl) (by decide) ?_
  refine SL.nil ?_
  refine ST.thenN ?_
  refine SC.seq ?_
  refine SC.seq ?_
  refine SC.region ?_
  refine SL.u (SU.move rfl) (by decide) ?_
  refine SL.u (SU.eq (v' := vb false) (SU.lss rfl rfl) (congrArg vb (decide_eq_false (by omega)))) (by decide) ?_
  refine SL.u (SU.move rfl) (by decide) ?_
  refine SL.gu (Gd.onT rfl rfl rfl (by decide)) (SU.move rfl) (by decide) ?_
  refine SL.gu (Gd.onT rfl rfl rfl (by decide)) (SU.eq (v' := vb false) (SU.gtr rfl rfl) (congrArg vb (decide_eq_false (by omega)))) (by decide) ?_
  refine SL.u ((by first | exact SU.pickT rfl rfl | exact SU.pickF rfl rfl)) (by decide) ?_
  refine SL.nil ?_
  refine ST.thenN ?_
  refine SC.condF rfl ?_
  refine SC.skip ?_
  refine ST.thenN ?_
  refine SC.seq ?_
  refine SC.seq ?_
  refine SC.region ?_
  refine SL.u (SU.assign rfl) (by decide) ?_
  refine SL.nil ?_
  refine ST.thenN ?_
  refine SC.block ?_
  refine SC.loop (ι := Nat) (fun d => [(0, vi n), (3, vi d)]) (fun _ => g) (fun _ => s) (fun d => 2 ≤ d ∧ d ≤ n ∧ ∀ e, e < d → 2 ≤ e → n % e ≠ 0) (fun d => n - d) 2 ⟨rfl, rfl, trivial⟩ rfl rfl ⟨Nat.le_refl _, h2, fun e h1 h3 => by omega⟩ ?_
  rintro d ⟨hd2, hdn, hno⟩
  refine SC.seq ?_
  refine SC.seq ?_
  refine SC.region ?_
  refine SL.u (SU.move rfl) (by decide) ?_
  refine SL.u (SU.move rfl) (by decide) ?_
  refine SL.u (SU.lss rfl rfl) (by decide) ?_
  refine SL.nil ?_
  refine ST.thenN ?_
  refine SC.ifP rfl (fun hlt => ?_) (fun hlt => ?_)
  · have hdl : d < n := by omega
    have hr : ((n : Nat) : Int).tmod ((d : Nat) : Int) = ((n % d : Nat) : Int) := (Int.ofNat_tmod n d).symm
    refine SC.skip ?_
    refine ST.thenN ?_
    refine SC.seq ?_
    refine SC.block ?_
    refine SC.seq ?_
    refine SC.region ?_
    refine SL.u (SU.move rfl) (by decide) ?_
    refine SL.u (SU.move rfl) (by decide) ?_
    refine SL.u (SU.eq (v' := vi (n % d : Nat)) (SU.rem rfl rfl (by omega)) (congrArg vi hr)) (by decide) ?_
    refine SL.u (SU.eql rfl rfl) (by decide) ?_
    refine SL.nil ?_
    refine ST.thenN ?_
    refine SC.ifP rfl (fun hz => ?_) (fun hz => ?_)
    · have hp := isPr_no hdl hd2 (by omega)
      refine SC.seq ?_
      refine SC.region ?_
      refine SL.u (SU.assign rfl) (by decide) ?_
      refine SL.nil ?_
      refine ST.thenN ?_
      refine SC.ret ?_
      refine ST.blockR ?_
      refine ST.thenR ?_
      refine ST.thenR ?_
      refine ST.blockR ?_
      refine ST.thenR ?_
      exact ST.ret1 (.inl rfl) Tryz.results9 rfl ⟨by rw [hp], rfl, rfl⟩
    · skip
      refine SC.skip ?_
      refine ST.blockN ?_
      refine ST.thenN ?_
      refine SC.region ?_
      refine SL.u (SU.move rfl) (by decide) ?_
      refine SL.u (SU.add rfl rfl (by omega)) (by decide) ?_
      refine SL.u (SU.assign rfl) (by decide) ?_
      refine SL.nil ?_
      exact ST.again (d + 1) ⟨rfl, rfl, trivial⟩ rfl rfl ⟨by omega, by omega, fun e h1 h3 => by
        by_cases k : e = d
        · subst k; omega
        · exact hno e (by omega) h3⟩ (by omega)
  · have hde : d = n := by omega
    subst hde
    have hp := isPr_yes h2 h9 hno
    refine SC.exit ?_
    refine ST.thenX ?_
    refine ST.thenX ?_
    refine ST.blockX ?_
    refine ST.thenN ?_
    refine SC.seq ?_
    refine SC.region ?_
    refine SL.u (SU.assign rfl) (by decide) ?_
    refine SL.nil ?_
    refine ST.thenN ?_
    refine SC.ret ?_
    exact ST.ret1 (.inl rfl) Tryz.results9 rfl ⟨by rw [hp], rfl, rfl⟩
theorem refPrime_any (E : World) (g : PH) (s : Own) (p : Int) : Ctr Tryz.prog E 9 #[vi p] g s (fun r g' s' => r = vb (isPr p) ∧ g = g' ∧ s = s') := by
  by_cases h2 : p < 2
  · exact refPrime_lo E g s p h2
  · by_cases h9 : 997 < p
    · exact refPrime_hi E g s p h9
    · obtain ⟨n, rfl⟩ : ∃ n : Nat, p = (n : Int) := ⟨p.toNat, by omega⟩
      exact refPrime_mid E g s n (by omega) (by omega)

theorem fPrime_lo (E : World) (g : PH) (s : Own) (p : Int) (h : p < 2) : Ctr Tryz.prog E 38 #[vi p] g s (fun r g' s' => r = vb (isPr p) ∧ g = g' ∧ s = s') := by
  rw [isPr_lo h]
  refine Ctr.of (args := [vi p]) Tryz.func38 rfl Tryz.ntmps38 (Nat.le_of_ble_eq_true rfl) ?_
  refine SC.seq ?_
  refine SC.region ?_
  refine SL.u (SU.assign rfl) (by decide) ?_
  refine SL.nil ?_
  refine ST.thenN ?_
  refine SC.seq ?_
  refine SC.seq ?_
  refine SC.region ?_
  refine SL.u (SU.move rfl) (by decide) ?_
  refine SL.u (SU.eq (v' := vb true) (SU.lss rfl rfl) (congrArg vb (decide_eq_true (by omega)))) (by decide) ?_
  refine SL.u (SU.move rfl) (by decide) ?_
  refine SL.off (Gd.onF rfl rfl rfl (by decide)) (by decide) ?_
  refine SL.off (Gd.onF rfl rfl rfl (by decide)) (by decide) ?_
  refine SL.u ((by first | exact SU.pickT rfl rfl | exact SU.pickF rfl rfl)) (by decide) ?_
  refine SL.nil ?_
  refine ST.thenN ?_
  refine SC.condT rfl ?_
  refine SC.seq ?_
  refine SC.region ?_
  refine SL.u (SU.assign rfl) (by decide) ?_
  refine SL.nil ?_
  refine ST.thenN ?_
  refine SC.ret ?_
  refine ST.thenR ?_
  exact ST.ret1 (.inl rfl) Tryz.results38 rfl ⟨rfl, rfl, rfl⟩
theorem fPrime_hi (E : World) (g : PH) (s : Own) (p : Int) (h : 997 < p) : Ctr Tryz.prog E 38 #[vi p] g s (fun r g' s' => r = vb (isPr p) ∧ g = g' ∧ s = s') := by
  rw [isPr_hi h]
  refine Ctr.of (args := [vi p]) Tryz.func38 rfl Tryz.ntmps38 (Nat.le_of_ble_eq_true rfl) ?_
  refine SC.seq ?_
  refine SC.region ?_
  refine SL.u (SU.assign rfl) (by decide) ?_
  refine SL.nil ?_
  refine ST.thenN ?_
  refine SC.seq ?_
  refine SC.seq ?_
  refine SC.region ?_
  refine SL.u (SU.move rfl) (by decide) ?_
  refine SL.u (SU.eq (v' := vb false) (SU.lss rfl rfl) (congrArg vb (decide_eq_false (by omega)))) (by decide) ?_
  refine SL.u (SU.move rfl) (by decide) ?_
  refine SL.gu (Gd.onT rfl rfl rfl (by decide)) (SU.move rfl) (by decide) ?_
  refine SL.gu (Gd.onT rfl rfl rfl (by decide)) (SU.eq (v' := vb true) (SU.gtr rfl rfl) (congrArg vb (decide_eq_true (by omega)))) (by decide) ?_
  refine SL.u ((by first | exact SU.pickT rfl rfl | exact SU.pickF rfl rfl)) (by decide) ?_
  refine SL.nil ?_
  refine ST.thenN ?_
  refine SC.condT rfl ?_
  refine SC.seq ?_
  refine SC.region ?_
  refine SL.u (SU.assign rfl) (by decide) ?_
  refine SL.nil ?_
  refine ST.thenN ?_
  refine SC.ret ?_
  refine ST.thenR ?_
  exact ST.ret1 (.inl rfl) Tryz.results38 rfl ⟨rfl, rfl, rfl⟩
theorem fPrime_mid (E : World) (g : PH) (s : Own) (n : Nat) (h2 : 2 ≤ n) (h9 : n ≤ 997) : Ctr Tryz.prog E 38 #[vi n] g s (fun r g' s' => r = vb (isPr n) ∧ g = g' ∧ s = s') := by
  refine Ctr.of (args := [vi n]) Tryz.func38 rfl Tryz.ntmps38 (Nat.le_of_ble_eq_true rfl) ?_
  refine SC.seq ?_
  refine SC.region ?_
  refine SL.u (SU.assign rfl) (by decide) ?_
  refine SL.nil ?_
  refine ST.thenN ?_
  refine SC.seq ?_
  refine SC.seq ?_
  refine SC.region ?_
  refine SL.u (SU.move rfl) (by decide) ?_
  refine SL.u (SU.eq (v' := vb false) (SU.lss rfl rfl) (congrArg vb (decide_eq_false (by omega)))) (by decide) ?_
  refine SL.u (SU.move rfl) (by decide) ?_
  refine SL.gu (Gd.onT rfl rfl rfl (by decide)) (SU.move rfl) (by decide) ?_
  refine SL.gu (Gd.onT rfl rfl rfl (by decide)) (SU.eq (v' := vb false) (SU.gtr rfl rfl) (congrArg vb (decide_eq_false (by omega)))) (by decide) ?_
  refine SL.u ((by first | exact SU.pickT rfl rfl | exact SU.pickF rfl rfl)) (by decide) ?_
  refine SL.nil ?_
  refine ST.thenN ?_
  refine SC.condF rfl ?_
  refine SC.skip ?_
  refine ST.thenN ?_
  refine SC.seq ?_
  refine SC.seq ?_
  refine SC.region ?_
  refine SL.u (SU.assign rfl) (by decide) ?_
  refine SL.nil ?_
  refine ST.thenN ?_
  refine SC.block ?_
  refine SC.loop (ι := Nat) (fun d => [(0, vi n), (3, vi d)]) (fun _ => g) (fun _ => s) (fun d => 2 ≤ d ∧ (d = 2 ∨ d ≤ n) ∧ ∀ e, e < d → 2 ≤ e → n % e ≠ 0) (fun d => 1000 - d) 2 ⟨rfl, rfl, trivial⟩ rfl rfl ⟨Nat.le_refl _, .inl rfl, fun e h1 h3 => by omega⟩ ?_
  rintro d ⟨hd2, hdn, hno⟩
  have hdn' : d ≤ 997 := by omega
  have hdd : d * d ≤ 997 * 997 := Nat.mul_le_mul hdn' hdn'
  have hc : ((d : Nat) : Int) * ((d : Nat) : Int) = ((d * d : Nat) : Int) := by simp
  refine SC.seq ?_
  refine SC.seq ?_
  refine SC.region ?_
  refine SL.u (SU.move rfl) (by decide) ?_
  refine SL.u (SU.move rfl) (by decide) ?_
  refine SL.u (SU.eq (v' := vi ((d * d : Nat))) (SU.mulW rfl rfl) (congrArg vi (by rw [hc]; exact IntWalk.i64_in _ (by omega)))) (by decide) ?_
  refine SL.u (SU.move rfl) (by decide) ?_
  refine SL.u (SU.leq rfl rfl) (by decide) ?_
  refine SL.nil ?_
  refine ST.thenN ?_
  refine SC.ifP rfl (fun hle => ?_) (fun hle => ?_)
  · have hdl : d < n := by
      have : 2 * d ≤ d * d := Nat.mul_le_mul hd2 (Nat.le_refl _)
      omega
    have hr : ((n : Nat) : Int).tmod ((d : Nat) : Int) = ((n % d : Nat) : Int) := (Int.ofNat_tmod n d).symm
    refine SC.skip ?_
    refine ST.thenN ?_
    refine SC.seq ?_
    refine SC.block ?_
    refine SC.seq ?_
    refine SC.region ?_
    refine SL.u (SU.move rfl) (by decide) ?_
    refine SL.u (SU.move rfl) (by decide) ?_
    refine SL.u (SU.eq (v' := vi (n % d : Nat)) (SU.rem rfl rfl (by omega)) (congrArg vi hr)) (by decide) ?_
    refine SL.u (SU.eql rfl rfl) (by decide) ?_
    refine SL.nil ?_
    refine ST.thenN ?_
    refine SC.ifP rfl (fun hz => ?_) (fun hz => ?_)
    · have hp := isPr_no hdl hd2 (by omega)
      refine SC.seq ?_
      refine SC.region ?_
      refine SL.u (SU.assign rfl) (by decide) ?_
      refine SL.nil ?_
      refine ST.thenN ?_
      refine SC.ret ?_
      refine ST.blockR ?_
      refine ST.thenR ?_
      refine ST.thenR ?_
      refine ST.blockR ?_
      refine ST.thenR ?_
      exact ST.ret1 (.inl rfl) Tryz.results38 rfl ⟨by rw [hp], rfl, rfl⟩
    · skip
      refine SC.skip ?_
      refine ST.blockN ?_
      refine ST.thenN ?_
      refine SC.region ?_
      refine SL.u (SU.move rfl) (by decide) ?_
      refine SL.u (SU.add rfl rfl (by omega)) (by decide) ?_
      refine SL.u (SU.assign rfl) (by decide) ?_
      refine SL.nil ?_
      exact ST.again (d + 1) ⟨rfl, rfl, trivial⟩ rfl rfl ⟨by omega, .inr (by omega), fun e h1 h3 => by
        by_cases k : e = d
        · subst k; omega
        · exact hno e (by omega) h3⟩ (by omega)
  · have hp := isPr_yes h2 h9 (sq_no (k := d) (by omega) hno)
    refine SC.exit ?_
    refine ST.thenX ?_
    refine ST.thenX ?_
    refine ST.blockX ?_
    refine ST.thenN ?_
    refine SC.seq ?_
    refine SC.region ?_
    refine SL.u (SU.assign rfl) (by decide) ?_
    refine SL.nil ?_
    refine ST.thenN ?_
    refine SC.ret ?_
    exact ST.ret1 (.inl rfl) Tryz.results38 rfl ⟨by rw [hp], rfl, rfl⟩
theorem fPrime_any (E : World) (g : PH) (s : Own) (p : Int) : Ctr Tryz.prog E 38 #[vi p] g s (fun r g' s' => r = vb (isPr p) ∧ g = g' ∧ s = s') := by
  by_cases h2 : p < 2
  · exact fPrime_lo E g s p h2
  · by_cases h9 : 997 < p
    · exact fPrime_hi E g s p h9
    · obtain ⟨n, rfl⟩ : ∃ n : Nat, p = (n : Int) := ⟨p.toNat, by omega⟩
      exact fPrime_mid E g s n (by omega) (by omega)

end Go.Proofs.YtbfeggodaaojgaaGreatDoor
end
section
namespace Go.Proofs.YtbfeggodaaojgaaGreatDoor
open Go Go.Sy Go.Pl Go.Proofs
set_option maxRecDepth 100000

section
variable {P : Program} {N : Nat} {f : Fr} {dst : Option Tmp} {ty : TypeId} {pos : String} {af : Array Edge} {gd : Option (Nat × Bool)}
theorem SU.eqlPn {x y : Operand} {T U : TypeId} {p : Option Addr} (hT : P.underlying T = some (.pointer (P.pointee T))) (hx : ev f x = some (.pointer p)) (hy : ev f y = some (.pointer none)) :
    SU P N ⟨dst, .binOp .eql T x y U, ty, pos, af, gd⟩ f (.bool p.isNone) := fun a w ha => by
  have hg : (eqGuard .eql T x y (.pointer p) (.pointer none)).run P w = .ok () w := by simp [eqGuard]
  have hb := run_eql_pointer_nil (P := P) (w := w) T p hT
  simp only [execOp, ha.ev hx, ha.ev hy, Sem.run_bind, hg, Result.andThen_ok, hb]
  rfl
theorem SU.eqlU {x y : Operand} {T R : TypeId} {h k : List Nat} {n : Nat} (hT : P.eqGuardType P.depth T = false) (hq : Ev.etT P 5 T = some (.ar n 1 .one .sci)) (hh : h.length = n) (hk : k.length = n)
    (hx : ev f x = some (.agg (vU h).toArray)) (hy : ev f y = some (.agg (vU k).toArray)) : SU P N ⟨dst, .binOp .eql T x y R, ty, pos, af, gd⟩ f (vb (decide (h = k))) := fun a w ha => by
  have hg := run_eqGuard_agg (P := P) (w := w) .eql T x y (vU h).toArray (vU k).toArray hT
  have he := Ev.eqT_ok 5 T _ hq (.agg (U h)) (.agg (U k)) (fun r => r = decide (h = k)) (by rw [eqT_U _ hh hk])
  obtain ⟨r, rfl, h2⟩ := he
  have hv : ∀ l : List Nat, Ev.VR (fun _ => none) (.agg (U l)) (.agg (vU l).toArray) := fun l => by simp only [Ev.VR]; exact ⟨_, (LV_U l _).2 rfl, rfl⟩
  have h3 := h2 _ _ _ (hv h) (hv k) w 9999 (by omega)
  simp only [execOp, ha.ev hx, ha.ev hy, Sem.run_bind, hg, Result.andThen_ok]
  rw [run_eql_struct, h3]
  rfl
end

theorem get_none (E : World) (g : PH) (s : Own) (b am clk : Nat) (h : List Nat) (T : TypeId) (fz : Nat × Nat) (ρ : Ev.Env) (es : Ev.ES) (ks : List (List Nat)) (En : List MapEntry) (hl : h.length = 32) (hg : g b = some (.cells #[.map (some am)] T fz)) (hm : g am = some (.map En.toArray clk))
    (he : Ev.ESR ρ es En) (hk : EsU 32 es ks) (hn : h ∉ ks) : Ctr Tryz.prog E 118 #[pp b 0, .agg (vU h).toArray] g s (fun r g' s' => r = .tuple #[.string .empty, vb false] ∧ g = g' ∧ s = s') := by
  refine Ctr.of (args := [pp b 0, .agg (vU h).toArray]) Tryz.func118 rfl Tryz.ntmps118 (Nat.le_of_ble_eq_true rfl) ?_
  refine SC.seq ?_
  refine SC.region ?_
  refine SL.o (SO.box rfl) (by decide) ?_
  rintro _ _ _ ⟨b3, rfl, rfl, rfl⟩
  refine SL.u (SU.assign rfl) (by decide) ?_
  refine SL.u (SU.assign rfl) (by decide) ?_
  refine SL.nil ?_
  refine ST.thenN ?_
  refine SC.seq ?_
  refine SC.seq ?_
  refine SC.region ?_
  refine SL.u (SU.move rfl) (by decide) ?_
  refine SL.u (SU.eqlPn (by kernel_rfl) rfl rfl) (by decide) ?_
  refine SL.nil ?_
  refine ST.thenN ?_
  refine SC.condF rfl ?_
  refine SC.skip ?_
  refine ST.thenN ?_
  refine SC.seq ?_
  refine SC.draw [] [(0, 2), (1, 2), (2, 2), (3, 1), (4, 1), (5, 1), (6, 2), (7, 2), (8, 2), (9, 2), (10, 2)] Tryz.mixed (by kernel_rfl) ?_
  refine SP.u (i := 0) rfl (SU.move rfl) (by decide) ?_
  refine SP.u (i := 1) rfl ((by first | exact SU.nilCheck rfl | exact SU.nilCheckF rfl)) (by decide) ?_
  refine SP.u (i := 2) rfl ((by first | exact SU.fieldAddr Tryz.underlying103 rfl Tryz.sizeOf101 rfl | exact SU.fieldAddrC Tryz.underlying103 rfl Tryz.sizeOf101 rfl (by first | rfl | assumption))) (by decide) ?_
  refine SP.q (i := 3) rfl (SQ.load (v := .map (some am)) Tryz.isAgg101 rfl (CellAt.known hg rfl)) (by decide) ?_
  refine SP.q (i := 4) rfl (SQ.loadVarK 0 Tryz.isAgg25 Tryz.sizeOf25 rfl rfl (by simp [vU, hl, Value.cells])) (by decide) ?_
  refine SP.q (i := 5) rfl (SQ.lookupNo (kt := 25) Tryz.underlying101 (by kernel_rfl) Tryz.zeroValue9 rfl rfl hm he hk hn hl) (by decide) ?_
  refine SP.u (i := 6) rfl (SU.move rfl) (by decide) ?_
  refine SP.u (i := 7) rfl (SU.extract rfl rfl) (by decide) ?_
  refine SP.u (i := 8) rfl (SU.extract rfl rfl) (by decide) ?_
  refine SP.u (i := 9) rfl (SU.assign rfl) (by decide) ?_
  refine SP.u (i := 10) rfl (SU.assign rfl) (by decide) ?_
  refine SP.nil ?_
  refine ST.thenN ?_
  refine SC.seq ?_
  refine SC.region ?_
  refine SL.u (SU.move rfl) (by decide) ?_
  refine SL.u (SU.move rfl) (by decide) ?_
  refine SL.u (SU.assign rfl) (by decide) ?_
  refine SL.u (SU.assign rfl) (by decide) ?_
  refine SL.nil ?_
  refine ST.thenN ?_
  refine SC.ret ?_
  refine ST.drop (s' := s) (.cons _ (.refl _)) ?_
  exact ST.ret2 (.inl rfl) Tryz.results118 rfl rfl ⟨rfl, rfl, rfl⟩

end Go.Proofs.YtbfeggodaaojgaaGreatDoor
end
section
set_option linter.all false
set_option maxRecDepth 100000
set_option maxHeartbeats 0
set_option linter.unusedVariables false
namespace Go.Ev.Z
open Go Go.Ev Go.Proofs
def PL : List Nat := (PL0 ++ (PL1 ++ (PL2 ++ (PL3 ++ (PL4 ++ (PL5 ++ (PL6 ++ (PL7 ++ (PL8 ++ (PL9 ++ (PL10 ++ PL11)))))))))))
theorem rq_all : ∀ p ∈ PL, Rq p := fun p h => (List.mem_append.1 h).elim (ql0 p) fun h => (List.mem_append.1 h).elim (ql1 p) fun h => (List.mem_append.1 h).elim (ql2 p) fun h => (List.mem_append.1 h).elim (ql3 p) fun h => (List.mem_append.1 h).elim (ql4 p) fun h => (List.mem_append.1 h).elim (ql5 p) fun h => (List.mem_append.1 h).elim (ql6 p) fun h => (List.mem_append.1 h).elim (ql7 p) fun h => (List.mem_append.1 h).elim (ql8 p) fun h => (List.mem_append.1 h).elim (ql9 p) fun h => (List.mem_append.1 h).elim (ql10 p) fun h => ql11 p h
end Go.Ev.Z
end
section
namespace Go.Proofs.YtbfeggodaaojgaaGreatDoor
open Go Go.Sy Go.Pl Go.Proofs
set_option maxRecDepth 100000
set_option maxHeartbeats 2000000

theorem sub_of {M m : Ev.Mem} (h : Ev.restrK M m (fun m' => m' = M) = (M = M)) : Ev.Sub M m := by
  obtain ⟨_, rfl, h1⟩ := Ev.restrK_ok _ _ _ (h.mpr rfl)
  exact h1
theorem fre_le {ρ : Ev.Env} {n n' : Ev.Pos} (h : Ev.Fre ρ n) (hl : Nat.ble n.nat n'.nat = true) : Ev.Fre ρ n' := fun p hp => h p (Nat.le_trans (Nat.le_of_ble_eq_true hl) hp)
theorem ps_pq : Ev.Z.ps.nat < Ev.Z.pq.nat := Nat.lt_of_lt_of_le (Nat.lt_succ_self _) (Nat.le_of_ble_eq_true (by kernel_rfl))
theorem ms_loc : Ev.vrfP Ev.Z.pq.nat Ev.Z.pq.nat Ev.Z.tMs (fun p => p) .leaf fun _ => Ev.vrfM Ev.Z.tMs Ev.Z.Ms Ev.Z.Ms Ev.Z.tMs True := (by kernel_rfl : _ = True).mpr trivial
/-- The store of the example, under names. -/
def St (ρ : Ev.Env) (b j : Nat) : Prop := ρ Ev.Z.ps = some (b, j) ∧ Ev.Fre ρ Ev.Z.pq
theorem St.cut {ρ : Ev.Env} {b j : Nat} (h : ρ Ev.Z.ps = some (b, j)) : St (envQ ρ Ev.Z.pq none) b j := ⟨by rw [envQ_lt ps_pq]; exact h, fre_envN⟩

theorem c_sanity (E : World) (g : PH) (s : Own) : Ctr Tryz.prog E 4 #[] g s (fun r g' s' => r = vb true ∧ g = g' ∧ s = s') := by
  refine (Ctr.kn (E := E) (g := g) Ev.Z.k19_ok (ρ := fun _ => none) (fun _ _ => rfl) (vs := []) (Ev.LV_nil.2 rfl) [] s).mono ?_
  rintro x g' s' ⟨rfl, ρ', hv, _, _, rfl⟩
  have hv : Ev.VR ρ' (.bool true) x := hv
  simp only [Ev.VR] at hv
  exact ⟨hv, rfl, rfl⟩

theorem c_example (E : World) (g : PH) (V s : Own) : Ctr Tryz.prog E 5 #[] g (V ++ s) (fun r g' s' => g = g' ∧ ∃ ρ a k, ρ Ev.Z.pmod = some (a, k) ∧ Ev.Fre ρ Ev.Z.k3.n' ∧ r = .tuple #[pp a 0, .agg (vU Ev.Z.lH).toArray] ∧ s' = V ++ (ents Tryz.prog ρ Ev.Z.k3.m ++ s)) := by
  refine (Ctr.kn (E := E) (g := g) Ev.Z.k3_ok (ρ := fun _ => none) (fun _ _ => rfl) (vs := []) (Ev.LV_nil.2 rfl) V s).mono ?_
  rintro x g' s' ⟨rfl, ρ', hv, _, hf, rfl⟩
  have h0 : Ev.Z.k3.v = .tup (.cons (.ptr Ev.Z.pmod 0) (.cons (.agg (U Ev.Z.lH)) .nil)) := by kernel_rfl
  rw [h0] at hv
  simp only [Ev.VR, Ev.LV] at hv
  obtain ⟨vs, ⟨v, r, ⟨a, k, h1, rfl⟩, ⟨v2, r2, ⟨us, h2, rfl⟩, rfl, rfl⟩, rfl⟩, rfl⟩ := hv
  rw [LV_U] at h2; subst h2
  exact ⟨rfl, ρ', a, k, h1, hf, rfl, rfl⟩

theorem c_copied (E : World) (g : PH) (V s : Own) (ρ : Ev.Env) (a k : Nat) (ha : ρ Ev.Z.pmod = some (a, k)) (hf : Ev.Fre ρ Ev.Z.k3.n') :
    Ctr Tryz.prog E 6 #[pp a 0] g (V ++ (ents Tryz.prog ρ Ev.Z.k3.m ++ s)) (fun r g' s' => g = g' ∧ ∃ ρ' b j, St ρ' b j ∧ r = pp b 0 ∧ s' = V ++ (ents Tryz.prog ρ' Ev.Z.Ms ++ s)) := by
  have hm : Ev.Z.k3.m = Ev.Z.k6.r := by kernel_rfl
  have hl : Ev.Z.k6.l = .cons (.ptr Ev.Z.pmod 0) .nil := by kernel_rfl
  have hL : Ev.LV ρ Ev.Z.k6.l [pp a 0] := by rw [hl]; exact Ev.LV_cons.2 ⟨_, _, by simp only [Ev.VR]; exact ⟨a, k, ha, rfl⟩, Ev.LV_nil.2 rfl, rfl⟩
  rw [hm]
  refine (Ctr.kn (E := E) (g := g) Ev.Z.k6_ok (fre_le hf (by kernel_rfl)) hL V s).re ?_
  rintro x g' s' w ⟨rfl, ρ', hv, he, _, rfl⟩ hw
  have h0 : Ev.Z.k6.v = .ptr Ev.Z.ps 0 := by kernel_rfl
  rw [h0] at hv
  simp only [Ev.VR] at hv
  obtain ⟨b, j, h1, rfl⟩ := hv
  exact ⟨_, hw.part (sub_of (by kernel_rfl)) ms_loc, rfl, _, b, j, St.cut h1, rfl, rfl⟩

theorem st_args {ρ : Ev.Env} {b j : Nat} (h : ρ Ev.Z.ps = some (b, j)) {x : Ev.SV} {v : Value} (hx : Ev.VR ρ x v) {y : Ev.SV} {u : Value} (hy : Ev.VR ρ y u) : Ev.LV ρ (.cons (.ptr Ev.Z.ps 0) (.cons x (.cons (.int .i64 0) (.cons y .nil)))) [pp b 0, v, vi 0, u] :=
  Ev.LV_cons.2 ⟨_, _, by simp only [Ev.VR]; exact ⟨b, j, h, rfl⟩, Ev.LV_cons.2 ⟨_, _, hx, Ev.LV_cons.2 ⟨_, _, by simp only [Ev.VR], Ev.LV_cons.2 ⟨_, _, hy, Ev.LV_nil.2 rfl, rfl⟩, rfl⟩, rfl⟩, rfl⟩

theorem c_nil (E : World) (g : PH) (V s : Own) (ρ : Ev.Env) (b j : Nat) (hS : St ρ b j) :
    Ctr Tryz.prog E 7 #[pp b 0, .slice none 0 0, vi 0, vi 2] g (V ++ (ents Tryz.prog ρ Ev.Z.Ms ++ s)) (fun r g' s' => g = g' ∧ r = .tuple #[.slice none 0 0, .slice none 0 0, vi 1] ∧ ∃ ρ', St ρ' b j ∧ s' = V ++ (ents Tryz.prog ρ' Ev.Z.Ms ++ s)) := by
  have hm : Ev.Z.Ms = Ev.Z.k_nil.r := by kernel_rfl
  have hl : Ev.Z.k_nil.l = .cons (.ptr Ev.Z.ps 0) (.cons .nils (.cons (.int .i64 0) (.cons (.int .i64 2) .nil))) := by kernel_rfl
  have hL : Ev.LV ρ Ev.Z.k_nil.l [pp b 0, .slice none 0 0, vi 0, vi 2] := by rw [hl]; exact st_args hS.1 (by simp only [Ev.VR]) (by simp only [Ev.VR])
  have key := (Ctr.kn (E := E) (g := g) Ev.Z.k_nil_ok (fre_le hS.2 (by kernel_rfl)) hL V s)
  rw [← hm] at key
  refine key.re ?_
  rintro x g' s' w ⟨rfl, ρ', hv, he, _, rfl⟩ hw
  have h0 : Ev.Z.k_nil.v = .tup (.cons .nils (.cons .nils (.cons (.int .i64 1) .nil))) := by kernel_rfl
  rw [h0] at hv
  simp only [Ev.VR, Ev.LV] at hv
  obtain ⟨vs, ⟨v, r, rfl, ⟨v2, r2, rfl, ⟨v3, r3, rfl, rfl, rfl⟩, rfl⟩, rfl⟩, rfl⟩ := hv
  exact ⟨_, hw.part (sub_of (by kernel_rfl)) ms_loc, rfl, rfl, _, St.cut (he _ _ hS.1), rfl⟩

/-- A call of 'Blame' with one hash. -/
theorem c_one {e : Ev.Kn} (he : Ev.KnOk Tryz.prog e) {hs : List Nat} (hfn : e.fn = 7) (hr : Ev.Tr.put Ev.Z.pq Ev.Z.Ms (.cells (U hs)) = e.r) (hn : Ev.Z.pq.succ = e.n) (hl : e.l = .cons (.ptr Ev.Z.ps 0) (.cons (.slice Ev.Z.pq 0 1 (.k 1)) (.cons (.int .i64 0) (.cons (.int .i64 2) .nil))))
    {x y : Ev.SV} {f : Int} (hv : e.v = .tup (.cons x (.cons y (.cons (.int .i64 f) .nil)))) (hsub : Ev.restrK Ev.Z.Ms e.m (fun m' => m' = Ev.Z.Ms) = (Ev.Z.Ms = Ev.Z.Ms)) (E : World) (g : PH) (V s : Own) (ρ : Ev.Env) (b j c : Nat) (T : TypeId) (hS : St ρ b j) :
    Ctr Tryz.prog E 7 #[pp b 0, .slice (some ⟨c, 0, none⟩) 1 1, vi 0, vi 2] g (pt c (.cells (vU hs).toArray T (0, 0)) :: (V ++ (ents Tryz.prog ρ Ev.Z.Ms ++ s)))
      (fun r g' s' => g = g' ∧ ∃ u v, r = .tuple #[u, v, vi f] ∧ ∃ ρ', St ρ' b j ∧ s' = V ++ (ents Tryz.prog ρ' Ev.Z.Ms ++ s)) := by
  have hq : envQ ρ Ev.Z.pq (some (c, 1)) Ev.Z.ps = some (b, j) := by rw [envQ_lt ps_pq]; exact hS.1
  have hL : Ev.LV (envQ ρ Ev.Z.pq (some (c, 1))) e.l [pp b 0, .slice (some ⟨c, 0, none⟩) 1 1, vi 0, vi 2] := by
    rw [hl]; exact st_args hq (by simp only [Ev.VR]; exact ⟨c, 1, envQ_at, rfl⟩) (by simp only [Ev.VR])
  have key := Ctr.knT (E := E) (g := g) (T := T) (f := (0, 0)) he hr hn hS.2 ((LV_U hs _).2 rfl) (fun _ _ h => Nat.not_lt_zero _ h.2) hL V s
  rw [hfn] at key
  refine key.re ?_
  rintro z g' s' w ⟨rfl, ρ', hz, hext, _, rfl⟩ hw
  rw [hv] at hz
  simp only [Ev.VR, Ev.LV] at hz
  obtain ⟨vs, ⟨v, r, h1, ⟨v2, r2, h2, ⟨v3, r3, rfl, rfl, rfl⟩, rfl⟩, rfl⟩, rfl⟩ := hz
  exact ⟨_, hw.part (sub_of hsub) ms_loc, rfl, v, v2, rfl, _, St.cut (hext _ _ hq), rfl⟩
end Go.Proofs.YtbfeggodaaojgaaGreatDoor
end
section
namespace Go.Proofs.YtbfeggodaaojgaaGreatDoor
open Go Go.Sy Go.Pl Go.Proofs
set_option maxRecDepth 100000
set_option maxHeartbeats 2000000

/-- The hashes of the store. -/
def keysU : List (List Nat) := [Ev.Z.hK0, Ev.Z.hK1, Ev.Z.hK2, Ev.Z.hK3, Ev.Z.hK4, Ev.Z.hK5, Ev.Z.hK6, Ev.Z.hK7, Ev.Z.hK8]
theorem keysU_es : EsU 32 Ev.Z.esU keysU := ⟨rfl, rfl, rfl, rfl, rfl, rfl, rfl, rfl, rfl, rfl, rfl, rfl, rfl, rfl, rfl, rfl, rfl, rfl, trivial⟩
theorem get_kp (hs : List Nat) (hl : hs.length = 32) (hn : hs ∉ keysU) : KpOk Tryz.prog 118 (.cons (.ptr Ev.Z.ps 0) (.cons (.agg (U hs)) .nil)) Ev.Z.Ms (.tup (.cons (.str []) (.cons (.bool false) .nil))) := by
  refine KpOk.of ⟨_, Tryz.func118, by kernel_rfl, by kernel_rfl⟩ fun ρ n w vs hm hv => ?_
  obtain ⟨b, k, ob, h1, h2, us, T, f, rfl, h3, _⟩ := hm.mem Ev.Z.ps (.cells (.cons (.map Ev.Z.pM) .nil)) (by kernel_rfl)
  obtain ⟨am, k', ob', h4, h5, En, rfl, h6⟩ := hm.mem Ev.Z.pM (.mp Ev.Z.esU Ev.Z.clkU) (by kernel_rfl)
  obtain ⟨y, r, hy, hr, rfl⟩ := Ev.LV_cons.1 h3
  have hr := Ev.LV_nil.1 hr
  subst hr
  simp only [Ev.VR] at hy
  obtain ⟨am', k2, h7, rfl⟩ := hy
  rw [h4] at h7; injection h7 with h7; injection h7 with h7 _; subst h7
  obtain ⟨a1, r1, ha1, hr1, rfl⟩ := Ev.LV_cons.1 hv
  obtain ⟨a2, r2, ha2, hr2, rfl⟩ := Ev.LV_cons.1 hr1
  have hr2 := Ev.LV_nil.1 hr2
  subst hr2
  simp only [Ev.VR] at ha1 ha2
  obtain ⟨b', k3, h8, rfl⟩ := ha1
  rw [h1] at h8; injection h8 with h8; injection h8 with h8 _; subst h8
  obtain ⟨us2, h9, rfl⟩ := ha2
  rw [LV_U] at h9; subst h9
  refine (get_none w _ [] b am Ev.Z.clkU hs T f ρ Ev.Z.esU keysU En hl h2 h5 h6 keysU_es hn).mono ?_
  rintro r g' s' ⟨rfl, rfl, rfl⟩
  exact ⟨by simp only [Ev.VR, Ev.LV]; exact ⟨_, ⟨_, _, ⟨rfl, fun _ h => by cases h⟩, ⟨_, _, rfl, rfl, rfl⟩, rfl⟩, rfl⟩, Le.refl _⟩

def tU (hs : List Nat) : Ev.Cl → Ev.Cl := fun cl => knP 118 (.cons (.ptr Ev.Z.ps 0) (.cons (.agg (U hs)) .nil)) Ev.Z.Ms (.tup (.cons (.str []) (.cons (.bool false) .nil))) cl
theorem kU_run (x0 x1 x2 x3 x4 x5 x6 x7 x8 x9 x10 x11 x12 x13 x14 x15 x16 x17 x18 x19 x20 x21 x22 x23 x24 x25 x26 x27 x28 x29 x30 x31 : Nat) : Ev.runN Tryz.prog (tU [x0, x1, x2, x3, x4, x5, x6, x7, x8, x9, x10, x11, x12, x13, x14, x15, x16, x17, x18, x19, x20, x21, x22, x23, x24, x25, x26, x27, x28, x29, x30, x31]) [41, 219, 286] 100000000 (Ev.Z.kU x0 x1 x2 x3 x4 x5 x6 x7 x8 x9 x10 x11 x12 x13 x14 x15 x16 x17 x18 x19 x20 x21 x22 x23 x24 x25 x26 x27 x28 x29 x30 x31).fn (Ev.Z.kU x0 x1 x2 x3 x4 x5 x6 x7 x8 x9 x10 x11 x12 x13 x14 x15 x16 x17 x18 x19 x20 x21 x22 x23 x24 x25 x26 x27 x28 x29 x30 x31).l (Ev.Z.kU x0 x1 x2 x3 x4 x5 x6 x7 x8 x9 x10 x11 x12 x13 x14 x15 x16 x17 x18 x19 x20 x21 x22 x23 x24 x25 x26 x27 x28 x29 x30 x31).r (Ev.Z.kU x0 x1 x2 x3 x4 x5 x6 x7 x8 x9 x10 x11 x12 x13 x14 x15 x16 x17 x18 x19 x20 x21 x22 x23 x24 x25 x26 x27 x28 x29 x30 x31).n (Ev.Z.kU x0 x1 x2 x3 x4 x5 x6 x7 x8 x9 x10 x11 x12 x13 x14 x15 x16 x17 x18 x19 x20 x21 x22 x23 x24 x25 x26 x27 x28 x29 x30 x31).endK True =
    ((Ev.SV.cons (.ptr Ev.Z.ps 0) (.cons (.agg (U [x0, x1, x2, x3, x4, x5, x6, x7, x8, x9, x10, x11, x12, x13, x14, x15, x16, x17, x18, x19, x20, x21, x22, x23, x24, x25, x26, x27, x28, x29, x30, x31])) .nil) = Ev.SV.cons (.ptr Ev.Z.ps 0) (.cons (.agg (U [x0, x1, x2, x3, x4, x5, x6, x7, x8, x9, x10, x11, x12, x13, x14, x15, x16, x17, x18, x19, x20, x21, x22, x23, x24, x25, x26, x27, x28, x29, x30, x31])) .nil) ∧ Ev.Z.Ms = Ev.Z.Ms) ∧ ((Ev.Z.kU x0 x1 x2 x3 x4 x5 x6 x7 x8 x9 x10 x11 x12 x13 x14 x15 x16 x17 x18 x19 x20 x21 x22 x23 x24 x25 x26 x27 x28 x29 x30 x31).v = (Ev.Z.kU x0 x1 x2 x3 x4 x5 x6 x7 x8 x9 x10 x11 x12 x13 x14 x15 x16 x17 x18 x19 x20 x21 x22 x23 x24 x25 x26 x27 x28 x29 x30 x31).v ∧ (Ev.Z.kU x0 x1 x2 x3 x4 x5 x6 x7 x8 x9 x10 x11 x12 x13 x14 x15 x16 x17 x18 x19 x20 x21 x22 x23 x24 x25 x26 x27 x28 x29 x30 x31).m = (Ev.Z.kU x0 x1 x2 x3 x4 x5 x6 x7 x8 x9 x10 x11 x12 x13 x14 x15 x16 x17 x18 x19 x20 x21 x22 x23 x24 x25 x26 x27 x28 x29 x30 x31).m) ∧ (Ev.Z.kU x0 x1 x2 x3 x4 x5 x6 x7 x8 x9 x10 x11 x12 x13 x14 x15 x16 x17 x18 x19 x20 x21 x22 x23 x24 x25 x26 x27 x28 x29 x30 x31).n' = (Ev.Z.kU x0 x1 x2 x3 x4 x5 x6 x7 x8 x9 x10 x11 x12 x13 x14 x15 x16 x17 x18 x19 x20 x21 x22 x23 x24 x25 x26 x27 x28 x29 x30 x31).n' ∧ True) := by kernel_rfl
theorem kU_ok (x0 x1 x2 x3 x4 x5 x6 x7 x8 x9 x10 x11 x12 x13 x14 x15 x16 x17 x18 x19 x20 x21 x22 x23 x24 x25 x26 x27 x28 x29 x30 x31 : Nat) (hn : [x0, x1, x2, x3, x4, x5, x6, x7, x8, x9, x10, x11, x12, x13, x14, x15, x16, x17, x18, x19, x20, x21, x22, x23, x24, x25, x26, x27, x28, x29, x30, x31] ∉ keysU) : Ev.KnOk Tryz.prog (Ev.Z.kU x0 x1 x2 x3 x4 x5 x6 x7 x8 x9 x10 x11 x12 x13 x14 x15 x16 x17 x18 x19 x20 x21 x22 x23 x24 x25 x26 x27 x28 x29 x30 x31) :=
  ⟨_, Ev.runN_ok (by kernel_rfl) (Go.Sy.TabOk.kp (get_kp _ rfl hn) Ev.TabOk.id) [41, 219, 286] 100000000, (kU_run x0 x1 x2 x3 x4 x5 x6 x7 x8 x9 x10 x11 x12 x13 x14 x15 x16 x17 x18 x19 x20 x21 x22 x23 x24 x25 x26 x27 x28 x29 x30 x31).mpr ⟨⟨rfl, rfl⟩, ⟨rfl, rfl⟩, rfl, trivial⟩⟩

/-- 'Blame' with one hash: an error, unless it is that of a commit. -/
theorem c_hash (hs : List Nat) (hl : hs.length = 32) (E : World) (g : PH) (V s : Own) (ρ : Ev.Env) (b j c : Nat) (T : TypeId) (hS : St ρ b j) :
    Ctr Tryz.prog E 7 #[pp b 0, .slice (some ⟨c, 0, none⟩) 1 1, vi 0, vi 2] g (pt c (.cells (vU hs).toArray T (0, 0)) :: (V ++ (ents Tryz.prog ρ Ev.Z.Ms ++ s)))
      (fun r g' s' => g = g' ∧ ∃ u v f, r = .tuple #[u, v, vi f] ∧ (hs = Ev.Z.hA ∨ hs = Ev.Z.hB ∨ hs = Ev.Z.hC ∨ f ≠ 0) ∧ ∃ ρ', St ρ' b j ∧ s' = V ++ (ents Tryz.prog ρ' Ev.Z.Ms ++ s)) := by
  by_cases h0 : hs = Ev.Z.hK0
  · subst h0
    refine (c_one Ev.Z.k_h0_ok rfl (by kernel_rfl) (by kernel_rfl) (by kernel_rfl) (by kernel_rfl : Ev.Z.k_h0.v = .tup (.cons (.slice Ev.Z.p5065 0 1 (.r 0)) (.cons (.slice Ev.Z.p5060 0 2 (.r 0)) (.cons (.int .i64 0) .nil)))) (by kernel_rfl) E g V s ρ b j c T hS).mono ?_
    rintro r g' s' ⟨h1, u, v, h2, h3⟩
    exact ⟨h1, u, v, _, h2, by decide, h3⟩
  by_cases h1 : hs = Ev.Z.hK1
  · subst h1
    refine (c_one Ev.Z.k_h1_ok rfl (by kernel_rfl) (by kernel_rfl) (by kernel_rfl) (by kernel_rfl : Ev.Z.k_h1.v = .tup (.cons .nils (.cons .nils (.cons (.int .i64 51) .nil)))) (by kernel_rfl) E g V s ρ b j c T hS).mono ?_
    rintro r g' s' ⟨h1, u, v, h2, h3⟩
    exact ⟨h1, u, v, _, h2, by decide, h3⟩
  by_cases h2 : hs = Ev.Z.hK2
  · subst h2
    refine (c_one Ev.Z.k_h2_ok rfl (by kernel_rfl) (by kernel_rfl) (by kernel_rfl) (by kernel_rfl : Ev.Z.k_h2.v = .tup (.cons .nils (.cons .nils (.cons (.int .i64 51) .nil)))) (by kernel_rfl) E g V s ρ b j c T hS).mono ?_
    rintro r g' s' ⟨h1, u, v, h2, h3⟩
    exact ⟨h1, u, v, _, h2, by decide, h3⟩
  by_cases h3 : hs = Ev.Z.hK3
  · subst h3
    refine (c_one Ev.Z.k_h3_ok rfl (by kernel_rfl) (by kernel_rfl) (by kernel_rfl) (by kernel_rfl : Ev.Z.k_h3.v = .tup (.cons .nils (.cons .nils (.cons (.int .i64 51) .nil)))) (by kernel_rfl) E g V s ρ b j c T hS).mono ?_
    rintro r g' s' ⟨h1, u, v, h2, h3⟩
    exact ⟨h1, u, v, _, h2, by decide, h3⟩
  by_cases h4 : hs = Ev.Z.hK4
  · subst h4
    refine (c_one Ev.Z.k_h4_ok rfl (by kernel_rfl) (by kernel_rfl) (by kernel_rfl) (by kernel_rfl : Ev.Z.k_h4.v = .tup (.cons .nils (.cons .nils (.cons (.int .i64 51) .nil)))) (by kernel_rfl) E g V s ρ b j c T hS).mono ?_
    rintro r g' s' ⟨h1, u, v, h2, h3⟩
    exact ⟨h1, u, v, _, h2, by decide, h3⟩
  by_cases h5 : hs = Ev.Z.hK5
  · subst h5
    refine (c_one Ev.Z.k_h5_ok rfl (by kernel_rfl) (by kernel_rfl) (by kernel_rfl) (by kernel_rfl : Ev.Z.k_h5.v = .tup (.cons .nils (.cons .nils (.cons (.int .i64 51) .nil)))) (by kernel_rfl) E g V s ρ b j c T hS).mono ?_
    rintro r g' s' ⟨h1, u, v, h2, h3⟩
    exact ⟨h1, u, v, _, h2, by decide, h3⟩
  by_cases h6 : hs = Ev.Z.hK6
  · subst h6
    refine (c_one Ev.Z.k_h6_ok rfl (by kernel_rfl) (by kernel_rfl) (by kernel_rfl) (by kernel_rfl : Ev.Z.k_h6.v = .tup (.cons (.slice Ev.Z.p5509 0 1 (.r 0)) (.cons (.slice Ev.Z.p5507 0 1 (.r 0)) (.cons (.int .i64 0) .nil)))) (by kernel_rfl) E g V s ρ b j c T hS).mono ?_
    rintro r g' s' ⟨h1, u, v, h2, h3⟩
    exact ⟨h1, u, v, _, h2, by decide, h3⟩
  by_cases h7 : hs = Ev.Z.hK7
  · subst h7
    refine (c_one Ev.Z.k_h7_ok rfl (by kernel_rfl) (by kernel_rfl) (by kernel_rfl) (by kernel_rfl : Ev.Z.k_h7.v = .tup (.cons (.slice Ev.Z.p5929 0 1 (.r 0)) (.cons (.slice Ev.Z.p5927 0 1 (.r 0)) (.cons (.int .i64 0) .nil)))) (by kernel_rfl) E g V s ρ b j c T hS).mono ?_
    rintro r g' s' ⟨h1, u, v, h2, h3⟩
    exact ⟨h1, u, v, _, h2, by decide, h3⟩
  by_cases h8 : hs = Ev.Z.hK8
  · subst h8
    refine (c_one Ev.Z.k_h8_ok rfl (by kernel_rfl) (by kernel_rfl) (by kernel_rfl) (by kernel_rfl : Ev.Z.k_h8.v = .tup (.cons .nils (.cons .nils (.cons (.int .i64 51) .nil)))) (by kernel_rfl) E g V s ρ b j c T hS).mono ?_
    rintro r g' s' ⟨h1, u, v, h2, h3⟩
    exact ⟨h1, u, v, _, h2, by decide, h3⟩
  have hn : hs ∉ keysU := by
    simp only [keysU, List.mem_cons, List.mem_nil_iff, or_false, not_or]
    exact ⟨h0, h1, h2, h3, h4, h5, h6, h7, h8⟩
  match hs, hl, hn with
  | [x0, x1, x2, x3, x4, x5, x6, x7, x8, x9, x10, x11, x12, x13, x14, x15, x16, x17, x18, x19, x20, x21, x22, x23, x24, x25, x26, x27, x28, x29, x30, x31], _, hn =>
    refine (c_one (hs := [x0, x1, x2, x3, x4, x5, x6, x7, x8, x9, x10, x11, x12, x13, x14, x15, x16, x17, x18, x19, x20, x21, x22, x23, x24, x25, x26, x27, x28, x29, x30, x31]) (kU_ok x0 x1 x2 x3 x4 x5 x6 x7 x8 x9 x10 x11 x12 x13 x14 x15 x16 x17 x18 x19 x20 x21 x22 x23 x24 x25 x26 x27 x28 x29 x30 x31 hn) rfl (by kernel_rfl) (by kernel_rfl) (by kernel_rfl) (by kernel_rfl : (Ev.Z.kU x0 x1 x2 x3 x4 x5 x6 x7 x8 x9 x10 x11 x12 x13 x14 x15 x16 x17 x18 x19 x20 x21 x22 x23 x24 x25 x26 x27 x28 x29 x30 x31).v = .tup (.cons .nils (.cons .nils (.cons (.int .i64 50) .nil)))) (by kernel_rfl) E g V s ρ b j c T hS).mono ?_
    rintro r g' s' ⟨h1, u, v, h2, h3⟩
    exact ⟨h1, u, v, _, h2, .inr (.inr (.inr (by decide))), h3⟩

/-- 'Path' in a nil store. -/
theorem c_path (hs : List Nat) (hl : hs.length = 32) (E : World) (g : PH) (V s : Own) (c : Nat) (T : TypeId) :
    Ctr Tryz.prog E 8 #[.pointer none, .slice (some ⟨c, 0, none⟩) 1 1] g (pt c (.cells (vU hs).toArray T (0, 0)) :: (V ++ s))
      (fun r g' s' => g = g' ∧ ∃ u v, r = .tuple #[u, v, vi 50] ∧ s' = V ++ s) := by
  match hs, hl with
  | [x0, x1, x2, x3, x4, x5, x6, x7, x8, x9, x10, x11, x12, x13, x14, x15, x16, x17, x18, x19, x20, x21, x22, x23, x24, x25, x26, x27, x28, x29, x30, x31], _ =>
    have hL : Ev.LV (envQ (fun _ => none) Ev.Z.pq (some (c, 1))) (Ev.Z.kPath x0 x1 x2 x3 x4 x5 x6 x7 x8 x9 x10 x11 x12 x13 x14 x15 x16 x17 x18 x19 x20 x21 x22 x23 x24 x25 x26 x27 x28 x29 x30 x31).l [.pointer none, .slice (some ⟨c, 0, none⟩) 1 1] := by
      rw [show (Ev.Z.kPath x0 x1 x2 x3 x4 x5 x6 x7 x8 x9 x10 x11 x12 x13 x14 x15 x16 x17 x18 x19 x20 x21 x22 x23 x24 x25 x26 x27 x28 x29 x30 x31).l = .cons .nilp (.cons (.slice Ev.Z.pq 0 1 (.k 1)) .nil) from by kernel_rfl]
      exact Ev.LV_cons.2 ⟨_, _, by simp only [Ev.VR], Ev.LV_cons.2 ⟨_, _, by simp only [Ev.VR]; exact ⟨c, 1, envQ_at, rfl⟩, Ev.LV_nil.2 rfl, rfl⟩, rfl⟩
    have key := Ctr.knT (E := E) (g := g) (T := T) (f := (0, 0)) (Ev.Z.kPath_ok x0 x1 x2 x3 x4 x5 x6 x7 x8 x9 x10 x11 x12 x13 x14 x15 x16 x17 x18 x19 x20 x21 x22 x23 x24 x25 x26 x27 x28 x29 x30 x31) (M := .leaf) (q := Ev.Z.pq) (L := U [x0, x1, x2, x3, x4, x5, x6, x7, x8, x9, x10, x11, x12, x13, x14, x15, x16, x17, x18, x19, x20, x21, x22, x23, x24, x25, x26, x27, x28, x29, x30, x31]) (by kernel_rfl) (by kernel_rfl) (fun _ _ => rfl) ((LV_U [x0, x1, x2, x3, x4, x5, x6, x7, x8, x9, x10, x11, x12, x13, x14, x15, x16, x17, x18, x19, x20, x21, x22, x23, x24, x25, x26, x27, x28, x29, x30, x31] _).2 rfl) (fun _ _ h => Nat.not_lt_zero _ h.2) hL V s
    refine Ctr.re key ?_
    rintro z g' s' w ⟨rfl, ρ', hz, _, _, rfl⟩ hw
    rw [show (Ev.Z.kPath x0 x1 x2 x3 x4 x5 x6 x7 x8 x9 x10 x11 x12 x13 x14 x15 x16 x17 x18 x19 x20 x21 x22 x23 x24 x25 x26 x27 x28 x29 x30 x31).v = .tup (.cons .nils (.cons .nils (.cons (.int .i64 50) .nil))) from by kernel_rfl] at hz
    simp only [Ev.VR, Ev.LV] at hz
    obtain ⟨vs, ⟨v, r, h1, ⟨v2, r2, h2, ⟨v3, r3, rfl, rfl, rfl⟩, rfl⟩, rfl⟩, rfl⟩ := hz
    exact ⟨V ++ s, hw.sublist (List.Sublist.append (.refl _) (List.sublist_append_right _ _)), rfl, v, v2, rfl, rfl⟩

/-- A number that is no prime. -/
theorem prime_kp (p : Int) (h : isPr p = false) : KpOk Tryz.prog 38 (.cons (.int .i64 p) .nil) .leaf (.bool false) := by
  refine KpOk.of ⟨_, Tryz.func38, by kernel_rfl, by kernel_rfl⟩ fun ρ n w vs hm hv => ?_
  obtain ⟨y, r, hy, hr, rfl⟩ := Ev.LV_cons.1 hv
  have hr := Ev.LV_nil.1 hr
  subst hr
  simp only [Ev.VR] at hy
  subst hy
  refine (fPrime_any w _ [] p).mono ?_
  rintro r g' s' ⟨rfl, rfl, rfl⟩
  exact ⟨by simp only [Ev.VR]; rw [h], Le.refl _⟩
def tN (p : Int) : Ev.Cl → Ev.Cl := fun cl => knP 38 (.cons (.int .i64 p) .nil) .leaf (.bool false) cl
theorem kN_run (p : Int) : Ev.runN Tryz.prog (tN p) [41, 219, 286] 100000000 (Ev.Z.kN p).fn (Ev.Z.kN p).l (Ev.Z.kN p).r (Ev.Z.kN p).n (Ev.Z.kN p).endK True =
    (((.cons (.int .i64 p) .nil : Ev.SV) = .cons (.int .i64 p) .nil ∧ (.leaf : Ev.Mem) = .leaf) ∧ ((Ev.Z.kN p).v = (Ev.Z.kN p).v ∧ (Ev.Z.kN p).m = (Ev.Z.kN p).m) ∧ (Ev.Z.kN p).n' = (Ev.Z.kN p).n' ∧ True) := by kernel_rfl
theorem kN_ok (p : Int) (h : isPr p = false) : Ev.KnOk Tryz.prog (Ev.Z.kN p) :=
  ⟨_, Ev.runN_ok (by kernel_rfl) (Go.Sy.TabOk.kp (prime_kp p h) Ev.TabOk.id) [41, 219, 286] 100000000, (kN_run p).mpr ⟨⟨rfl, rfl⟩, ⟨rfl, rfl⟩, rfl, trivial⟩⟩
/-- The primes are those of the list. -/
def inPL (l : List Nat) (n : Nat) : Bool := l.any fun m => Nat.beq m n
theorem pl_all : (List.range 998).all (fun n => !(isPr n) || inPL Ev.Z.PL n) = true := by decide +kernel
theorem pl_in {p : Int} (h : isPr p = true) : ∃ n : Nat, p = n ∧ n ∈ Ev.Z.PL := by
  obtain ⟨h1, h2, _⟩ := isPr_iff.1 h
  obtain ⟨n, rfl⟩ : ∃ n : Nat, p = (n : Int) := ⟨p.toNat, by omega⟩
  have h3 := List.all_eq_true.1 pl_all n (List.mem_range.2 (by omega))
  rw [h] at h3
  simp only [Bool.not_true, Bool.false_or, inPL, List.any_eq_true] at h3
  obtain ⟨m, hm, he⟩ := h3
  have := Nat.eq_of_beq_eq_true he; subst this
  exact ⟨m, rfl, hm⟩

/-- 'Blame' with the first commit and any number. -/
theorem c_prime (p : Int) (E : World) (g : PH) (V s : Own) (ρ : Ev.Env) (b j c : Nat) (T : TypeId) (hS : St ρ b j) :
    Ctr Tryz.prog E 7 #[pp b 0, .slice (some ⟨c, 0, none⟩) 1 3, vi 0, vi p] g (pt c (.cells (vU Ev.Z.lH).toArray T (0, 0)) :: (V ++ (ents Tryz.prog ρ Ev.Z.Ms ++ s)))
      (fun r g' s' => g = g' ∧ ∃ u v n n' m m' f, r = .tuple #[.slice u n n', .slice v m m', vi f] ∧ (isPr p = true → n = 1 ∧ m = 2 ∧ f = 0) ∧ (isPr p = false → n = 0 ∧ m = 0 ∧ f = 46) ∧
        ∃ ρ' M, Ev.Tr.get Ev.Z.pq M = some (.cells (U Ev.Z.lH)) ∧ ρ' Ev.Z.pq = some (c, 3) ∧ s' = V ++ (ents Tryz.prog ρ' M ++ s)) := by
  have hq : envQ ρ Ev.Z.pq (some (c, 3)) Ev.Z.ps = some (b, j) := by rw [envQ_lt ps_pq]; exact hS.1
  have hA : ∀ x : Int, Ev.LV (envQ ρ Ev.Z.pq (some (c, 3))) (.cons (.ptr Ev.Z.ps 0) (.cons (.slice Ev.Z.pq 0 1 (.k 3)) (.cons (.int .i64 0) (.cons (.int .i64 x) .nil)))) [pp b 0, .slice (some ⟨c, 0, none⟩) 1 3, vi 0, vi x] := fun x =>
    st_args hq (by simp only [Ev.VR]; exact ⟨c, 3, envQ_at, rfl⟩) (by simp only [Ev.VR])
  cases hp : isPr p with
  | false =>
    have hL : Ev.LV (envQ ρ Ev.Z.pq (some (c, 3))) (Ev.Z.kN p).l [pp b 0, .slice (some ⟨c, 0, none⟩) 1 3, vi 0, vi p] := by
      rw [show (Ev.Z.kN p).l = .cons (.ptr Ev.Z.ps 0) (.cons (.slice Ev.Z.pq 0 1 (.k 3)) (.cons (.int .i64 0) (.cons (.int .i64 p) .nil))) from by kernel_rfl]; exact hA p
    have key := Ctr.knT (E := E) (g := g) (T := T) (f := (0, 0)) (kN_ok p hp) (M := Ev.Z.Ms) (q := Ev.Z.pq) (L := U Ev.Z.lH) (by kernel_rfl) (by kernel_rfl) hS.2 ((LV_U Ev.Z.lH _).2 rfl) (fun _ _ h => Nat.not_lt_zero _ h.2) hL V s
    refine Ctr.mono key ?_
    rintro z g' s' ⟨rfl, ρ', hz, hext, _, rfl⟩
    rw [show (Ev.Z.kN p).v = .tup (.cons .nils (.cons .nils (.cons (.int .i64 46) .nil))) from by kernel_rfl] at hz
    simp only [Ev.VR, Ev.LV] at hz
    obtain ⟨vs, ⟨v, r, rfl, ⟨v2, r2, rfl, ⟨v3, r3, rfl, rfl, rfl⟩, rfl⟩, rfl⟩, rfl⟩ := hz
    exact ⟨rfl, _, _, _, _, _, _, _, rfl, (fun h => by cases h), fun _ => ⟨rfl, rfl, rfl⟩, ρ', (Ev.Z.kN p).m, by kernel_rfl, hext _ _ envQ_at, rfl⟩
  | true =>
    obtain ⟨n, rfl, hn⟩ := pl_in hp
    have hL : Ev.LV (envQ ρ Ev.Z.pq (some (c, 3))) (Ev.Z.kQ n).l [pp b 0, .slice (some ⟨c, 0, none⟩) 1 3, vi 0, vi n] := by
      rw [show (Ev.Z.kQ n).l = .cons (.ptr Ev.Z.ps 0) (.cons (.slice Ev.Z.pq 0 1 (.k 3)) (.cons (.int .i64 0) (.cons (.int .i64 n) .nil))) from by kernel_rfl]; exact hA n
    have key := Ctr.knT (E := E) (g := g) (T := T) (f := (0, 0)) (Ev.Z.kQ_ok (Ev.Z.rq_all n hn)) (M := Ev.Z.Ms) (q := Ev.Z.pq) (L := U Ev.Z.lH) (by kernel_rfl) (by kernel_rfl) hS.2 ((LV_U Ev.Z.lH _).2 rfl) (fun _ _ h => Nat.not_lt_zero _ h.2) hL V s
    refine Ctr.mono key ?_
    rintro z g' s' ⟨rfl, ρ', hz, hext, _, rfl⟩
    rw [show (Ev.Z.kQ n).v = .tup (.cons (.slice Ev.Z.p5065 0 1 (.r 0)) (.cons (.slice Ev.Z.p5060 0 2 (.r 0)) (.cons (.int .i64 0) .nil))) from by kernel_rfl] at hz
    simp only [Ev.VR, Ev.LV] at hz
    obtain ⟨vs, ⟨v, r, ⟨a1, k1, _, rfl⟩, ⟨v2, r2, ⟨a2, k2, _, rfl⟩, ⟨v3, r3, rfl, rfl, rfl⟩, rfl⟩, rfl⟩, rfl⟩ := hz
    exact ⟨rfl, _, _, _, _, _, _, _, rfl, (fun _ => ⟨rfl, rfl, rfl⟩), (fun h => by cases h), ρ', (Ev.Z.kQ n).m, by kernel_rfl, hext _ _ envQ_at, rfl⟩
end Go.Proofs.YtbfeggodaaojgaaGreatDoor
end
section
namespace Go.Proofs.YtbfeggodaaojgaaGreatDoor
open Go Go.Sy Go.Pl Go.Proofs
set_option maxRecDepth 100000
set_option maxHeartbeats 4000000

section
variable {P : Program} {N : Nat} {f : Fr} {dst : Option Tmp} {ty : TypeId} {pos : String} {af : Array Edge} {gd : Option (Nat × Bool)}
theorem SU.sliceArrH {x hi : Operand} {T e : TypeId} {b o n k : Nat} {h : Int} (hT : P.underlying T = some (.array n e)) (hs : ∀ w, (sizeOf e).run P w = .ok k w) (hx : ev f x = some (pp b o)) (hh : ev f hi = some (vi h)) (h0 : 0 ≤ h) (h2 : h ≤ n) :
    SU P N ⟨dst, .slice T x none (some hi) none, ty, pos, af, gd⟩ f (.slice (some ⟨b, o, none⟩) h.toNat n) := fun a w ha => by
  simp [execOp, ha.ev hx, ha.ev hh, Instr.sliceAt, Instr.slice, run_underlying hT, Instr.sliceBounds, run_sliceBound, sliced, h0, h2, Instr.sureAddr, hs w, Addr.add, Sem.run]
end
section
variable {P : Program} {N : Nat} {f : Fr} {dst : Option Tmp} {ty : TypeId} {pos : String} {af : Array Edge} {gd : Option (Nat × Bool)}
theorem SU.eqlBn {x y : Operand} {T U : TypeId} {m n : Bool} (hT : P.underlying T = some .bool) (hx : ev f x = some (.bool m)) (hy : ev f y = some (.bool n)) :
    SU P N ⟨dst, .binOp .eql T x y U, ty, pos, af, gd⟩ f (.bool (m == n)) := fun a w ha => by
  have hg : (eqGuard .eql T x y (.bool m) (.bool n)).run P w = .ok () w := by simp [eqGuard]
  have hb := run_eql_bool (P := P) w T m n hT
  simp only [execOp, ha.ev hx, ha.ev hy, Sem.run_bind, hg, Result.andThen_ok, hb]
  rfl
end
theorem ones_U (l : List Nat) : Ones (vU l) := by
  induction l with
  | nil => trivial
  | cons a l ih => exact ⟨rfl, ih⟩
theorem len_vU (l : List Nat) : (vU l).length = l.length := by simp [vU]
theorem lH_get (d : Nat) (k : List Nat) (hk : (Ev.Z.lH.drop d).take 32 = k) (j : Nat) (v : Value) (hv : (vU k)[j]? = some v) : (vU Ev.Z.lH)[d + j]? = some v := by
  subst hk
  simp only [vU, List.map_take, List.map_drop] at hv ⊢
  rw [List.getElem?_take] at hv
  split at hv
  · rw [List.getElem?_drop] at hv; exact hv
  · cases hv

theorem Tryz.sty36 : STy Tryz.prog 36 25 32 32 (.agg (vU (List.replicate 32 0)).toArray) := ⟨Tryz.underlying36, ⟨Tryz.t25, by kernel_rfl, by kernel_rfl, by kernel_rfl, by kernel_rfl⟩, rfl, by simp [Value.cells, vU]⟩

theorem blameNone_spec (E : World) (g : PH) (s : Own) (hs : List Nat) (hl : hs.length = 32) (p : Int) :
    Ctr Tryz.prog E 3 #[.agg (vU hs).toArray, vi p] g s (fun r g' s' => r = vb true ∧ s = s' ∧ Le g g') := by
  have hcs : ∀ (b : Nat), (List.flatMap (fun v : Value => v.cells.toList) [Value.agg (Value.agg (vU hs).toArray).cells]) = vU hs := fun _ => by simp [Value.cells]
  refine Ctr.of (args := [.agg (vU hs).toArray, vi p]) Tryz.func3 rfl Tryz.ntmps3 (Nat.le_of_ble_eq_true rfl) ?_
  refine SC.seq ?_
  refine SC.region ?_
  refine SL.o (SO.box rfl) (by decide) ?_
  rintro _ _ _ ⟨b2, rfl, rfl, rfl⟩
  refine SL.u (SU.assign rfl) (by decide) ?_
  refine SL.nil ?_
  refine ST.thenN ?_
  refine SC.seq ?_
  refine SC.region ?_
  refine SL.o (SO.call Tryz.call4 rfl (c_sanity E g _)) (by decide) ?_
  rintro _ _ _ ⟨rfl, rfl, rfl⟩
  refine SL.u (SU.assign rfl) (by decide) ?_
  refine SL.nil ?_
  refine ST.thenN ?_
  refine SC.seq ?_
  refine SC.region ?_
  refine SL.o (SO.call Tryz.call5 rfl (c_example E g [_] s)) (by decide) ?_
  rintro _ _ _ ⟨rfl, ρ1, a1, k1, ha1, hf1, rfl, rfl⟩
  refine SL.u (SU.move rfl) (by decide) ?_
  refine SL.u (SU.extract rfl rfl) (by decide) ?_
  refine SL.u (SU.extract rfl rfl) (by decide) ?_
  refine SL.o (SO.alloc Tryz.zeroValue26) (by decide) ?_
  rintro _ _ _ ⟨b7, rfl, rfl, rfl⟩
  refine SL.u (SU.assign rfl) (by decide) ?_
  refine SL.on (SO.storeAllK 0 Tryz.sizeOf26 rfl rfl rfl rfl (by kernel_rfl) (by simpa [Value.cells] using ones_U _)) ?_
  rintro _ _ _ ⟨rfl, rfl⟩
  refine SL.nil ?_
  refine ST.thenN ?_
  refine SC.seq ?_
  refine SC.region ?_
  refine SL.u (SU.move rfl) (by decide) ?_
  refine SL.o (SO.call Tryz.call6 rfl (c_copied E g [_, _] s ρ1 a1 k1 ha1 hf1)) (by decide) ?_
  rintro _ _ _ ⟨rfl, ρ2, b, j, hS2, rfl, rfl⟩
  refine SL.u (SU.assign rfl) (by decide) ?_
  refine SL.nil ?_
  refine ST.thenN ?_
  refine SC.seq ?_
  refine SC.region ?_
  refine SL.u (SU.move rfl) (by decide) ?_
  refine SL.o (SO.call Tryz.call7 rfl (c_nil E g [_, _] s ρ2 b j hS2)) (by decide) ?_
  rintro _ _ _ ⟨rfl, rfl, ρ3, hS3, rfl⟩
  refine SL.u (SU.move rfl) (by decide) ?_
  refine SL.u (SU.extract rfl rfl) (by decide) ?_
  refine SL.u (SU.extract rfl rfl) (by decide) ?_
  refine SL.u (SU.extract rfl rfl) (by decide) ?_
  refine SL.u (SU.assign rfl) (by decide) ?_
  refine SL.u (SU.assign rfl) (by decide) ?_
  refine SL.u (SU.assign rfl) (by decide) ?_
  refine SL.nil ?_
  refine ST.thenN ?_
  refine SC.seq ?_
  refine SC.region ?_
  refine SL.u (SU.move rfl) (by decide) ?_
  refine SL.q (SQ.loadVarK 1 Tryz.isAgg22 Tryz.sizeOf22 rfl rfl (by simp [vU, hl, Value.cells])) (by decide) ?_
  refine SL.o (SO.buildSlice Tryz.sty36 rfl rfl rfl (szs_mk ⟨by simp [Value.cells, vU, hl], trivial⟩) (by decide)) (by decide) ?_
  rintro _ _ _ ⟨b39, rfl, rfl, rfl⟩
  rw [hcs 0]
  refine SL.o (SO.call Tryz.call7 rfl (c_hash hs hl E g [_, _] s ρ3 b j b39 _ hS3)) (by decide) ?_
  rintro _ _ _ ⟨rfl, u5, v5, f5, rfl, hf5, ρ4, hS4, rfl⟩
  refine SL.u (SU.move rfl) (by decide) ?_
  refine SL.u (SU.extract rfl rfl) (by decide) ?_
  refine SL.u (SU.extract rfl rfl) (by decide) ?_
  refine SL.u (SU.extract rfl rfl) (by decide) ?_
  refine SL.u (SU.assign rfl) (by decide) ?_
  refine SL.u (SU.assign rfl) (by decide) ?_
  refine SL.u (SU.assign rfl) (by decide) ?_
  refine SL.nil ?_
  refine ST.thenN ?_
  refine SC.seq ?_
  refine SC.region ?_
  refine SL.q (SQ.loadVarK 1 Tryz.isAgg22 Tryz.sizeOf22 rfl rfl (by simp [vU, hl, Value.cells])) (by decide) ?_
  refine SL.o (SO.buildSlice Tryz.sty36 rfl rfl rfl (szs_mk ⟨by simp [Value.cells, vU, hl], trivial⟩) (by decide)) (by decide) ?_
  rintro _ _ _ ⟨b46, rfl, rfl, rfl⟩
  rw [hcs 0]
  refine SL.o (SO.call Tryz.call8 rfl (c_path hs hl E g [_, _] _ b46 _)) (by decide) ?_
  rintro _ _ _ ⟨rfl, u6, v6, rfl, rfl⟩
  refine SL.u (SU.move rfl) (by decide) ?_
  refine SL.u (SU.extract rfl rfl) (by decide) ?_
  refine SL.u (SU.extract rfl rfl) (by decide) ?_
  refine SL.u (SU.extract rfl rfl) (by decide) ?_
  refine SL.u (SU.assign rfl) (by decide) ?_
  refine SL.u (SU.assign rfl) (by decide) ?_
  refine SL.u (SU.assign rfl) (by decide) ?_
  refine SL.nil ?_
  refine ST.thenN ?_
  refine SC.seq ?_
  refine SC.region ?_
  refine SL.u (SU.move rfl) (by decide) ?_
  refine SL.u (SU.sliceArrH Tryz.underlying26 Tryz.sizeOf25 rfl rfl (by decide) (by decide)) (by decide) ?_
  refine SL.u (SU.move rfl) (by decide) ?_
  refine SL.o (SO.call Tryz.call7 rfl (c_prime p E g [_] s ρ4 b j b7 _ hS4)) (by decide) ?_
  rintro _ _ _ ⟨rfl, u7, v7, n7, n8, m7, m8, f7, rfl, hT7, hF7, ρ5, M5, hM5, hk5, rfl⟩
  refine SL.u (SU.move rfl) (by decide) ?_
  refine SL.u (SU.extract rfl rfl) (by decide) ?_
  refine SL.u (SU.extract rfl rfl) (by decide) ?_
  refine SL.u (SU.extract rfl rfl) (by decide) ?_
  refine SL.u (SU.assign rfl) (by decide) ?_
  refine SL.u (SU.assign rfl) (by decide) ?_
  refine SL.u (SU.assign rfl) (by decide) ?_
  refine SL.nil ?_
  refine ST.thenN ?_
  refine SC.cutB 21 (decide (hs = Ev.Z.hA ∨ hs = Ev.Z.hB ∨ hs = Ev.Z.hC)) ?_ ?_
  · skip
    refine SC.region ?_
    refine SL.q (SQ.loadVarK 0 Tryz.isAgg22 Tryz.sizeOf22 rfl rfl (by simp [vU, hl, Value.cells])) (by decide) ?_
    refine SL.u (SU.indexAddrA Tryz.underlying26 Tryz.sizeOf25 rfl rfl (by first | decide | omega) (by first | decide | omega)) (by decide) ?_
    refine SL.q (SQ.loadAggAt (vs := vU Ev.Z.hA) Tryz.isAgg25 Tryz.sizeOf25 rfl (by rw [len_vU]; rfl) (fun i v hv => CellAt.ev (s1 := [_]) hM5 hk5 (fun us h => (LV_U _ us).1 h) (lH_get 0 _ rfl i v hv))) (by decide) ?_
    refine SL.u (SU.eqlU (by kernel_rfl) (by kernel_rfl) hl rfl rfl rfl) (by decide) ?_
    refine SL.u (SU.move rfl) (by decide) ?_
    refine SL.split ?_ ?_
    · intro h63
      refine SL.off (Gd.onF rfl rfl rfl (by decide)) (by decide) ?_
      refine SL.off (Gd.onF rfl rfl rfl (by decide)) (by decide) ?_
      refine SL.off (Gd.onF rfl rfl rfl (by decide)) (by decide) ?_
      refine SL.off (Gd.onF rfl rfl rfl (by decide)) (by decide) ?_
      refine SL.u ((by first | exact SU.pickT rfl rfl | exact SU.pickF rfl rfl)) (by decide) ?_
      refine SL.u (SU.move rfl) (by decide) ?_
      refine SL.off (Gd.onF rfl rfl rfl (by decide)) (by decide) ?_
      refine SL.off (Gd.onF rfl rfl rfl (by decide)) (by decide) ?_
      refine SL.off (Gd.onF rfl rfl rfl (by decide)) (by decide) ?_
      refine SL.off (Gd.onF rfl rfl rfl (by decide)) (by decide) ?_
      refine SL.u ((by first | exact SU.pickT rfl rfl | exact SU.pickF rfl rfl)) (by decide) ?_
      refine SL.u (SU.assign rfl) (by decide) ?_
      refine SL.nil ?_
      exact ST.mid1 (by simp_all [get?]) (by repeat' (first | exact trivial | refine ⟨.inl rfl, ?_⟩ | refine ⟨.inr rfl, ?_⟩))
    · intro h63
      refine SL.gq (Gd.onT rfl rfl rfl (by decide)) (SQ.loadVarK 0 Tryz.isAgg22 Tryz.sizeOf22 rfl rfl (by simp [vU, hl, Value.cells])) (by decide) ?_
      refine SL.gu (Gd.onT rfl rfl rfl (by decide)) (SU.indexAddrA Tryz.underlying26 Tryz.sizeOf25 rfl rfl (by first | decide | omega) (by first | decide | omega)) (by decide) ?_
      refine SL.gq (Gd.onT rfl rfl rfl (by decide)) (SQ.loadAggAt (vs := vU Ev.Z.hB) Tryz.isAgg25 Tryz.sizeOf25 rfl (by rw [len_vU]; rfl) (fun i v hv => CellAt.ev (s1 := [_]) hM5 hk5 (fun us h => (LV_U _ us).1 h) (lH_get 32 _ rfl i v hv))) (by decide) ?_
      refine SL.gu (Gd.onT rfl rfl rfl (by decide)) (SU.eqlU (by kernel_rfl) (by kernel_rfl) hl rfl rfl rfl) (by decide) ?_
      refine SL.u ((by first | exact SU.pickT rfl rfl | exact SU.pickF rfl rfl)) (by decide) ?_
      refine SL.u (SU.move rfl) (by decide) ?_
      refine SL.split ?_ ?_
      · intro h69
        refine SL.off (Gd.onF rfl rfl rfl (by decide)) (by decide) ?_
        refine SL.off (Gd.onF rfl rfl rfl (by decide)) (by decide) ?_
        refine SL.off (Gd.onF rfl rfl rfl (by decide)) (by decide) ?_
        refine SL.off (Gd.onF rfl rfl rfl (by decide)) (by decide) ?_
        refine SL.u ((by first | exact SU.pickT rfl rfl | exact SU.pickF rfl rfl)) (by decide) ?_
        refine SL.u (SU.assign rfl) (by decide) ?_
        refine SL.nil ?_
        exact ST.mid1 (by simp_all [get?]) (by repeat' (first | exact trivial | refine ⟨.inl rfl, ?_⟩ | refine ⟨.inr rfl, ?_⟩))
      · intro h69
        refine SL.gq (Gd.onT rfl rfl rfl (by decide)) (SQ.loadVarK 0 Tryz.isAgg22 Tryz.sizeOf22 rfl rfl (by simp [vU, hl, Value.cells])) (by decide) ?_
        refine SL.gu (Gd.onT rfl rfl rfl (by decide)) (SU.indexAddrA Tryz.underlying26 Tryz.sizeOf25 rfl rfl (by first | decide | omega) (by first | decide | omega)) (by decide) ?_
        refine SL.gq (Gd.onT rfl rfl rfl (by decide)) (SQ.loadAggAt (vs := vU Ev.Z.hC) Tryz.isAgg25 Tryz.sizeOf25 rfl (by rw [len_vU]; rfl) (fun i v hv => CellAt.ev (s1 := [_]) hM5 hk5 (fun us h => (LV_U _ us).1 h) (lH_get 64 _ rfl i v hv))) (by decide) ?_
        refine SL.gu (Gd.onT rfl rfl rfl (by decide)) (SU.eqlU (by kernel_rfl) (by kernel_rfl) hl rfl rfl rfl) (by decide) ?_
        refine SL.u ((by first | exact SU.pickT rfl rfl | exact SU.pickF rfl rfl)) (by decide) ?_
        refine SL.u (SU.assign rfl) (by decide) ?_
        refine SL.nil ?_
        exact ST.mid1 (by simp_all [get?]) (by repeat' (first | exact trivial | refine ⟨.inl rfl, ?_⟩ | refine ⟨.inr rfl, ?_⟩))
  refine SC.seq ?_
  refine SC.region ?_
  refine SL.u (SU.assign rfl) (by decide) ?_
  refine SL.nil ?_
  refine ST.thenN ?_
  refine SC.seq ?_
  refine SC.seq ?_
  refine SC.region ?_
  refine SL.u (SU.move rfl) (by decide) ?_
  refine SL.o (SO.call Tryz.call9 rfl (refPrime_any E g _ p)) (by decide) ?_
  rintro _ _ _ ⟨rfl, rfl, rfl⟩
  refine SL.nil ?_
  refine ST.thenN ?_
  have hkn : ¬ (hs = Ev.Z.hA ∨ hs = Ev.Z.hB ∨ hs = Ev.Z.hC) → f5 ≠ 0 := fun h => by
    rcases hf5 with e | e | e | e
    · exact absurd (.inl e) h
    · exact absurd (.inr (.inl e)) h
    · exact absurd (.inr (.inr e)) h
    · exact e
  refine SC.ifB rfl (fun hp => ?_) (fun hp => ?_)
  · obtain ⟨rfl, rfl, rfl⟩ := hT7 hp
    refine SC.region ?_
    refine SL.u (SU.assign rfl) (by decide) ?_
    refine SL.nil ?_
    refine ST.thenN ?_
    refine SC.seq ?_
    refine SC.region ?_
    refine SL.u (SU.move rfl) (by decide) ?_
    refine SL.u (SU.move rfl) (by decide) ?_
    refine SL.gu (Gd.onT rfl rfl rfl (by decide)) (SU.move rfl) (by decide) ?_
    refine SL.gu (Gd.onT rfl rfl rfl (by decide)) (SU.eq (v' := vb true) (SU.eql rfl rfl) (congrArg vb (decide_eq_true (by omega)))) (by decide) ?_
    refine SL.u ((by first | exact SU.pickT rfl rfl | exact SU.pickF rfl rfl)) (by decide) ?_
    refine SL.u (SU.move rfl) (by decide) ?_
    refine SL.gu (Gd.onT rfl rfl rfl (by decide)) (SU.move rfl) (by decide) ?_
    refine SL.gu (Gd.onT rfl rfl rfl (by decide)) ((by first | exact SU.lenN Tryz.underlying31 rfl | exact SU.len Tryz.underlying31 rfl (by assumption))) (by decide) ?_
    refine SL.gu (Gd.onT rfl rfl rfl (by decide)) (SU.move rfl) (by decide) ?_
    refine SL.gu (Gd.onT rfl rfl rfl (by decide)) ((by first | exact SU.lenN Tryz.underlying32 rfl | exact SU.len Tryz.underlying32 rfl (by assumption))) (by decide) ?_
    refine SL.gu (Gd.onT rfl rfl rfl (by decide)) (SU.add rfl rfl (by omega)) (by decide) ?_
    refine SL.gu (Gd.onT rfl rfl rfl (by decide)) (SU.eq (v' := vb true) (SU.eql rfl rfl) (congrArg vb (decide_eq_true (by omega)))) (by decide) ?_
    refine SL.u ((by first | exact SU.pickT rfl rfl | exact SU.pickF rfl rfl)) (by decide) ?_
    refine SL.u (SU.move rfl) (by decide) ?_
    refine SL.gu (Gd.onT rfl rfl rfl (by decide)) (SU.move rfl) (by decide) ?_
    refine SL.gu (Gd.onT rfl rfl rfl (by decide)) (SU.move rfl) (by decide) ?_
    refine SL.split ?_ ?_
    · intro h92
      refine SL.off (Gd.onF rfl rfl rfl (by decide)) (by decide) ?_
      refine SL.off (Gd.onF rfl rfl rfl (by decide)) (by decide) ?_
      refine SL.gu (Gd.onT rfl rfl rfl (by decide)) ((by first | exact SU.pickT rfl rfl | exact SU.pickF rfl rfl)) (by decide) ?_
      refine SL.u ((by first | exact SU.pickT rfl rfl | exact SU.pickF rfl rfl)) (by decide) ?_
      refine SL.u (SU.move rfl) (by decide) ?_
      refine SL.gu (Gd.onT rfl rfl rfl (by decide)) (SU.move rfl) (by decide) ?_
      refine SL.gu (Gd.onT rfl rfl rfl (by decide)) (SU.eq (v' := vb true) (SU.eql rfl rfl) (congrArg vb (decide_eq_true (by omega)))) (by decide) ?_
      refine SL.u ((by first | exact SU.pickT rfl rfl | exact SU.pickF rfl rfl)) (by decide) ?_
      refine SL.u (SU.move rfl) (by decide) ?_
      refine SL.gu (Gd.onT rfl rfl rfl (by decide)) (SU.move rfl) (by decide) ?_
      refine SL.gu (Gd.onT rfl rfl rfl (by decide)) (SU.move rfl) (by decide) ?_
      refine SL.gu (Gd.onT rfl rfl rfl (by decide)) (SU.eq (v' := vb true) (SU.eql rfl rfl) (congrArg vb (decide_eq_true (by omega)))) (by decide) ?_
      refine SL.u ((by first | exact SU.pickT rfl rfl | exact SU.pickF rfl rfl)) (by decide) ?_
      refine SL.u (SU.move rfl) (by decide) ?_
      refine SL.gu (Gd.onT rfl rfl rfl (by decide)) (SU.move rfl) (by decide) ?_
      refine SL.gu (Gd.onT rfl rfl rfl (by decide)) (SU.eq (v' := vb true) (SU.eql rfl rfl) (congrArg vb (decide_eq_true (by omega)))) (by decide) ?_
      refine SL.gu (Gd.onT rfl rfl rfl (by decide)) (SU.move rfl) (by decide) ?_
      refine SL.gu (Gd.onT rfl rfl rfl (by decide)) ((by first | exact SU.lenN Tryz.underlying31 rfl | exact SU.len Tryz.underlying31 rfl (by assumption))) (by decide) ?_
      refine SL.gu (Gd.onT rfl rfl rfl (by decide)) (SU.eq (v' := vb true) (SU.eql rfl rfl) (congrArg vb (decide_eq_true (by omega)))) (by decide) ?_
      refine SL.gu (Gd.onT rfl rfl rfl (by decide)) (SU.eqlBn Tryz.underlying4 rfl rfl) (by decide) ?_
      refine SL.u ((by first | exact SU.pickT rfl rfl | exact SU.pickF rfl rfl)) (by decide) ?_
      refine SL.u (SU.move rfl) (by decide) ?_
      refine SL.gu (Gd.onT rfl rfl rfl (by decide)) (SU.move rfl) (by decide) ?_
      refine SL.gu (Gd.onT rfl rfl rfl (by decide)) (SU.eq (v' := vb true) (SU.eql rfl rfl) (congrArg vb (decide_eq_true (by omega)))) (by decide) ?_
      refine SL.gu (Gd.onT rfl rfl rfl (by decide)) (SU.move rfl) (by decide) ?_
      refine SL.gu (Gd.onT rfl rfl rfl (by decide)) ((by first | exact SU.lenN Tryz.underlying32 rfl | exact SU.len Tryz.underlying32 rfl (by assumption))) (by decide) ?_
      refine SL.gu (Gd.onT rfl rfl rfl (by decide)) (SU.eq (v' := vb true) (SU.eql rfl rfl) (congrArg vb (decide_eq_true (by omega)))) (by decide) ?_
      refine SL.gu (Gd.onT rfl rfl rfl (by decide)) (SU.eqlBn Tryz.underlying4 rfl rfl) (by decide) ?_
      refine SL.u ((by first | exact SU.pickT rfl rfl | exact SU.pickF rfl rfl)) (by decide) ?_
      refine SL.u (SU.assign rfl) (by decide) ?_
      refine SL.nil ?_
      refine ST.thenN ?_
      refine SC.ret ?_
      refine ST.drop (s' := s) (.cons _ (List.sublist_append_right _ _)) ?_
      exact ST.ret1 (.inl rfl) Tryz.results3 rfl ⟨rfl, rfl, Le.refl _⟩
    · intro h92
      refine SL.gu (Gd.onT rfl rfl rfl (by decide)) (SU.move rfl) (by decide) ?_
      refine SL.gu (Gd.onT rfl rfl rfl (by decide)) (SU.eq (v' := vb true) (SU.neq rfl rfl) (congrArg vb (decide_eq_true (hkn h92)))) (by decide) ?_
      refine SL.gu (Gd.onT rfl rfl rfl (by decide)) ((by first | exact SU.pickT rfl rfl | exact SU.pickF rfl rfl)) (by decide) ?_
      refine SL.u ((by first | exact SU.pickT rfl rfl | exact SU.pickF rfl rfl)) (by decide) ?_
      refine SL.u (SU.move rfl) (by decide) ?_
      refine SL.gu (Gd.onT rfl rfl rfl (by decide)) (SU.move rfl) (by decide) ?_
      refine SL.gu (Gd.onT rfl rfl rfl (by decide)) (SU.eq (v' := vb true) (SU.eql rfl rfl) (congrArg vb (decide_eq_true (by omega)))) (by decide) ?_
      refine SL.u ((by first | exact SU.pickT rfl rfl | exact SU.pickF rfl rfl)) (by decide) ?_
      refine SL.u (SU.move rfl) (by decide) ?_
      refine SL.gu (Gd.onT rfl rfl rfl (by decide)) (SU.move rfl) (by decide) ?_
      refine SL.gu (Gd.onT rfl rfl rfl (by decide)) (SU.move rfl) (by decide) ?_
      refine SL.gu (Gd.onT rfl rfl rfl (by decide)) (SU.eq (v' := vb true) (SU.eql rfl rfl) (congrArg vb (decide_eq_true (by omega)))) (by decide) ?_
      refine SL.u ((by first | exact SU.pickT rfl rfl | exact SU.pickF rfl rfl)) (by decide) ?_
      refine SL.u (SU.move rfl) (by decide) ?_
      refine SL.gu (Gd.onT rfl rfl rfl (by decide)) (SU.move rfl) (by decide) ?_
      refine SL.gu (Gd.onT rfl rfl rfl (by decide)) (SU.eq (v' := vb true) (SU.eql rfl rfl) (congrArg vb (decide_eq_true (by omega)))) (by decide) ?_
      refine SL.gu (Gd.onT rfl rfl rfl (by decide)) (SU.move rfl) (by decide) ?_
      refine SL.gu (Gd.onT rfl rfl rfl (by decide)) ((by first | exact SU.lenN Tryz.underlying31 rfl | exact SU.len Tryz.underlying31 rfl (by assumption))) (by decide) ?_
      refine SL.gu (Gd.onT rfl rfl rfl (by decide)) (SU.eq (v' := vb true) (SU.eql rfl rfl) (congrArg vb (decide_eq_true (by omega)))) (by decide) ?_
      refine SL.gu (Gd.onT rfl rfl rfl (by decide)) (SU.eqlBn Tryz.underlying4 rfl rfl) (by decide) ?_
      refine SL.u ((by first | exact SU.pickT rfl rfl | exact SU.pickF rfl rfl)) (by decide) ?_
      refine SL.u (SU.move rfl) (by decide) ?_
      refine SL.gu (Gd.onT rfl rfl rfl (by decide)) (SU.move rfl) (by decide) ?_
      refine SL.gu (Gd.onT rfl rfl rfl (by decide)) (SU.eq (v' := vb true) (SU.eql rfl rfl) (congrArg vb (decide_eq_true (by omega)))) (by decide) ?_
      refine SL.gu (Gd.onT rfl rfl rfl (by decide)) (SU.move rfl) (by decide) ?_
      refine SL.gu (Gd.onT rfl rfl rfl (by decide)) ((by first | exact SU.lenN Tryz.underlying32 rfl | exact SU.len Tryz.underlying32 rfl (by assumption))) (by decide) ?_
      refine SL.gu (Gd.onT rfl rfl rfl (by decide)) (SU.eq (v' := vb true) (SU.eql rfl rfl) (congrArg vb (decide_eq_true (by omega)))) (by decide) ?_
      refine SL.gu (Gd.onT rfl rfl rfl (by decide)) (SU.eqlBn Tryz.underlying4 rfl rfl) (by decide) ?_
      refine SL.u ((by first | exact SU.pickT rfl rfl | exact SU.pickF rfl rfl)) (by decide) ?_
      refine SL.u (SU.assign rfl) (by decide) ?_
      refine SL.nil ?_
      refine ST.thenN ?_
      refine SC.ret ?_
      refine ST.drop (s' := s) (.cons _ (List.sublist_append_right _ _)) ?_
      exact ST.ret1 (.inl rfl) Tryz.results3 rfl ⟨rfl, rfl, Le.refl _⟩
  · obtain ⟨rfl, rfl, rfl⟩ := hF7 hp
    refine SC.skip ?_
    refine ST.thenN ?_
    refine SC.seq ?_
    refine SC.region ?_
    refine SL.u (SU.move rfl) (by decide) ?_
    refine SL.u (SU.move rfl) (by decide) ?_
    refine SL.gu (Gd.onT rfl rfl rfl (by decide)) (SU.move rfl) (by decide) ?_
    refine SL.gu (Gd.onT rfl rfl rfl (by decide)) (SU.eq (v' := vb true) (SU.eql rfl rfl) (congrArg vb (decide_eq_true (by omega)))) (by decide) ?_
    refine SL.u ((by first | exact SU.pickT rfl rfl | exact SU.pickF rfl rfl)) (by decide) ?_
    refine SL.u (SU.move rfl) (by decide) ?_
    refine SL.gu (Gd.onT rfl rfl rfl (by decide)) (SU.move rfl) (by decide) ?_
    refine SL.gu (Gd.onT rfl rfl rfl (by decide)) ((by first | exact SU.lenN Tryz.underlying31 rfl | exact SU.len Tryz.underlying31 rfl (by assumption))) (by decide) ?_
    refine SL.gu (Gd.onT rfl rfl rfl (by decide)) (SU.move rfl) (by decide) ?_
    refine SL.gu (Gd.onT rfl rfl rfl (by decide)) ((by first | exact SU.lenN Tryz.underlying32 rfl | exact SU.len Tryz.underlying32 rfl (by assumption))) (by decide) ?_
    refine SL.gu (Gd.onT rfl rfl rfl (by decide)) (SU.add rfl rfl (by omega)) (by decide) ?_
    refine SL.gu (Gd.onT rfl rfl rfl (by decide)) (SU.eq (v' := vb true) (SU.eql rfl rfl) (congrArg vb (decide_eq_true (by omega)))) (by decide) ?_
    refine SL.u ((by first | exact SU.pickT rfl rfl | exact SU.pickF rfl rfl)) (by decide) ?_
    refine SL.u (SU.move rfl) (by decide) ?_
    refine SL.gu (Gd.onT rfl rfl rfl (by decide)) (SU.move rfl) (by decide) ?_
    refine SL.gu (Gd.onT rfl rfl rfl (by decide)) (SU.move rfl) (by decide) ?_
    refine SL.split ?_ ?_
    · intro h92
      refine SL.off (Gd.onF rfl rfl rfl (by decide)) (by decide) ?_
      refine SL.off (Gd.onF rfl rfl rfl (by decide)) (by decide) ?_
      refine SL.gu (Gd.onT rfl rfl rfl (by decide)) ((by first | exact SU.pickT rfl rfl | exact SU.pickF rfl rfl)) (by decide) ?_
      refine SL.u ((by first | exact SU.pickT rfl rfl | exact SU.pickF rfl rfl)) (by decide) ?_
      refine SL.u (SU.move rfl) (by decide) ?_
      refine SL.gu (Gd.onT rfl rfl rfl (by decide)) (SU.move rfl) (by decide) ?_
      refine SL.gu (Gd.onT rfl rfl rfl (by decide)) (SU.eq (v' := vb true) (SU.eql rfl rfl) (congrArg vb (decide_eq_true (by omega)))) (by decide) ?_
      refine SL.u ((by first | exact SU.pickT rfl rfl | exact SU.pickF rfl rfl)) (by decide) ?_
      refine SL.u (SU.move rfl) (by decide) ?_
      refine SL.gu (Gd.onT rfl rfl rfl (by decide)) (SU.move rfl) (by decide) ?_
      refine SL.gu (Gd.onT rfl rfl rfl (by decide)) (SU.move rfl) (by decide) ?_
      refine SL.gu (Gd.onT rfl rfl rfl (by decide)) (SU.eq (v' := vb true) (SU.eql rfl rfl) (congrArg vb (decide_eq_true (by omega)))) (by decide) ?_
      refine SL.u ((by first | exact SU.pickT rfl rfl | exact SU.pickF rfl rfl)) (by decide) ?_
      refine SL.u (SU.move rfl) (by decide) ?_
      refine SL.gu (Gd.onT rfl rfl rfl (by decide)) (SU.move rfl) (by decide) ?_
      refine SL.gu (Gd.onT rfl rfl rfl (by decide)) (SU.eq (v' := vb false) (SU.eql rfl rfl) (congrArg vb (decide_eq_false (by omega)))) (by decide) ?_
      refine SL.gu (Gd.onT rfl rfl rfl (by decide)) (SU.move rfl) (by decide) ?_
      refine SL.gu (Gd.onT rfl rfl rfl (by decide)) ((by first | exact SU.lenN Tryz.underlying31 rfl | exact SU.len Tryz.underlying31 rfl (by assumption))) (by decide) ?_
      refine SL.gu (Gd.onT rfl rfl rfl (by decide)) (SU.eq (v' := vb false) (SU.eql rfl rfl) (congrArg vb (decide_eq_false (by omega)))) (by decide) ?_
      refine SL.gu (Gd.onT rfl rfl rfl (by decide)) (SU.eqlBn Tryz.underlying4 rfl rfl) (by decide) ?_
      refine SL.u ((by first | exact SU.pickT rfl rfl | exact SU.pickF rfl rfl)) (by decide) ?_
      refine SL.u (SU.move rfl) (by decide) ?_
      refine SL.gu (Gd.onT rfl rfl rfl (by decide)) (SU.move rfl) (by decide) ?_
      refine SL.gu (Gd.onT rfl rfl rfl (by decide)) (SU.eq (v' := vb false) (SU.eql rfl rfl) (congrArg vb (decide_eq_false (by omega)))) (by decide) ?_
      refine SL.gu (Gd.onT rfl rfl rfl (by decide)) (SU.move rfl) (by decide) ?_
      refine SL.gu (Gd.onT rfl rfl rfl (by decide)) ((by first | exact SU.lenN Tryz.underlying32 rfl | exact SU.len Tryz.underlying32 rfl (by assumption))) (by decide) ?_
      refine SL.gu (Gd.onT rfl rfl rfl (by decide)) (SU.eq (v' := vb false) (SU.eql rfl rfl) (congrArg vb (decide_eq_false (by omega)))) (by decide) ?_
      refine SL.gu (Gd.onT rfl rfl rfl (by decide)) (SU.eqlBn Tryz.underlying4 rfl rfl) (by decide) ?_
      refine SL.u ((by first | exact SU.pickT rfl rfl | exact SU.pickF rfl rfl)) (by decide) ?_
      refine SL.u (SU.assign rfl) (by decide) ?_
      refine SL.nil ?_
      refine ST.thenN ?_
      refine SC.ret ?_
      refine ST.drop (s' := s) (.cons _ (List.sublist_append_right _ _)) ?_
      exact ST.ret1 (.inl rfl) Tryz.results3 rfl ⟨rfl, rfl, Le.refl _⟩
    · intro h92
      refine SL.gu (Gd.onT rfl rfl rfl (by decide)) (SU.move rfl) (by decide) ?_
      refine SL.gu (Gd.onT rfl rfl rfl (by decide)) (SU.eq (v' := vb true) (SU.neq rfl rfl) (congrArg vb (decide_eq_true (hkn h92)))) (by decide) ?_
      refine SL.gu (Gd.onT rfl rfl rfl (by decide)) ((by first | exact SU.pickT rfl rfl | exact SU.pickF rfl rfl)) (by decide) ?_
      refine SL.u ((by first | exact SU.pickT rfl rfl | exact SU.pickF rfl rfl)) (by decide) ?_
      refine SL.u (SU.move rfl) (by decide) ?_
      refine SL.gu (Gd.onT rfl rfl rfl (by decide)) (SU.move rfl) (by decide) ?_
      refine SL.gu (Gd.onT rfl rfl rfl (by decide)) (SU.eq (v' := vb true) (SU.eql rfl rfl) (congrArg vb (decide_eq_true (by omega)))) (by decide) ?_
      refine SL.u ((by first | exact SU.pickT rfl rfl | exact SU.pickF rfl rfl)) (by decide) ?_
      refine SL.u (SU.move rfl) (by decide) ?_
      refine SL.gu (Gd.onT rfl rfl rfl (by decide)) (SU.move rfl) (by decide) ?_
      refine SL.gu (Gd.onT rfl rfl rfl (by decide)) (SU.move rfl) (by decide) ?_
      refine SL.gu (Gd.onT rfl rfl rfl (by decide)) (SU.eq (v' := vb true) (SU.eql rfl rfl) (congrArg vb (decide_eq_true (by omega)))) (by decide) ?_
      refine SL.u ((by first | exact SU.pickT rfl rfl | exact SU.pickF rfl rfl)) (by decide) ?_
      refine SL.u (SU.move rfl) (by decide) ?_
      refine SL.gu (Gd.onT rfl rfl rfl (by decide)) (SU.move rfl) (by decide) ?_
      refine SL.gu (Gd.onT rfl rfl rfl (by decide)) (SU.eq (v' := vb false) (SU.eql rfl rfl) (congrArg vb (decide_eq_false (by omega)))) (by decide) ?_
      refine SL.gu (Gd.onT rfl rfl rfl (by decide)) (SU.move rfl) (by decide) ?_
      refine SL.gu (Gd.onT rfl rfl rfl (by decide)) ((by first | exact SU.lenN Tryz.underlying31 rfl | exact SU.len Tryz.underlying31 rfl (by assumption))) (by decide) ?_
      refine SL.gu (Gd.onT rfl rfl rfl (by decide)) (SU.eq (v' := vb false) (SU.eql rfl rfl) (congrArg vb (decide_eq_false (by omega)))) (by decide) ?_
      refine SL.gu (Gd.onT rfl rfl rfl (by decide)) (SU.eqlBn Tryz.underlying4 rfl rfl) (by decide) ?_
      refine SL.u ((by first | exact SU.pickT rfl rfl | exact SU.pickF rfl rfl)) (by decide) ?_
      refine SL.u (SU.move rfl) (by decide) ?_
      refine SL.gu (Gd.onT rfl rfl rfl (by decide)) (SU.move rfl) (by decide) ?_
      refine SL.gu (Gd.onT rfl rfl rfl (by decide)) (SU.eq (v' := vb false) (SU.eql rfl rfl) (congrArg vb (decide_eq_false (by omega)))) (by decide) ?_
      refine SL.gu (Gd.onT rfl rfl rfl (by decide)) (SU.move rfl) (by decide) ?_
      refine SL.gu (Gd.onT rfl rfl rfl (by decide)) ((by first | exact SU.lenN Tryz.underlying32 rfl | exact SU.len Tryz.underlying32 rfl (by assumption))) (by decide) ?_
      refine SL.gu (Gd.onT rfl rfl rfl (by decide)) (SU.eq (v' := vb false) (SU.eql rfl rfl) (congrArg vb (decide_eq_false (by omega)))) (by decide) ?_
      refine SL.gu (Gd.onT rfl rfl rfl (by decide)) (SU.eqlBn Tryz.underlying4 rfl rfl) (by decide) ?_
      refine SL.u ((by first | exact SU.pickT rfl rfl | exact SU.pickF rfl rfl)) (by decide) ?_
      refine SL.u (SU.assign rfl) (by decide) ?_
      refine SL.nil ?_
      refine ST.thenN ?_
      refine SC.ret ?_
      refine ST.drop (s' := s) (.cons _ (List.sublist_append_right _ _)) ?_
      exact ST.ret1 (.inl rfl) Tryz.results3 rfl ⟨rfl, rfl, Le.refl _⟩
end Go.Proofs.YtbfeggodaaojgaaGreatDoor
end
section
namespace Go.Proofs.YtbfeggodaaojgaaGreatDoor
open Go Go.Sy Go.Proofs
open Go.ChangeShapes Go.WideShapes Go.ChangeAt Go.RowKit
set_option maxRecDepth 100000

section
variable {H : Type} {enc : TypeId × Value → H} {W : World} {base : Nat} {spare : Nat → Bool} {hd : Bool}
/-- All that a world holds. -/
def held (W : World) : PH := fun b => W.heap[b]?
def E0 (W : World) : World := { W with drawn := 0 }
theorem at_start (W : World) : At (E0 W) (held W) [] W := ⟨rfl, ⟨rfl, Nat.zero_le _⟩, rfl, fun _ _ h => h, by simp, by simp, List.Pairwise.nil⟩
theorem at_below {W W' : World} {g : PH} {s : Own} (h : At (E0 W) g s W') (hl : Le (held W) g) : Below W.heap.size W W' := by
  have hb : ∀ k, k < W.heap.size → W'.heap[k]? = W.heap[k]? := fun k hk => by
    have h1 : W.heap[k]? = some W.heap[k] := Array.getElem?_eq_getElem hk
    rw [h1]
    exact h.known k _ (hl k _ h1)
  refine ⟨h.os, h.tape.1, h.output, ?_, hb⟩
  refine Decidable.of_not_not fun hc => ?_
  have h1 := hb W'.heap.size (by omega)
  rw [Array.getElem?_eq_none (Nat.le_refl _), Array.getElem?_eq_getElem (by omega)] at h1
  cases h1
theorem okWide_array {r : Reach} {b0 : Nat} {P : Program} {w : World} {t e : TypeId} {n : Nat} {v : Value} (ht : P.underlying t = some (.array n e)) (h : Value.okWide P w r b0 t v) : ∃ cs, v = .agg cs ∧ cs.size = P.cellsOf t := by
  simp only [Value.okWide, ht] at h
  obtain ⟨cs, h1, h2, _⟩ := h
  exact ⟨cs, h1, h2⟩
theorem bytes_vals : ∀ (l : List Value), (∀ i, i < l.length → ∃ n : Nat, (l.drop i).take 1 = [.int .u8 (.ofNat n)]) → ∃ hs : List Nat, l = vU hs
  | [], _ => ⟨[], rfl⟩
  | v :: l, h => by
    obtain ⟨n, h0⟩ := h 0 (by simp)
    obtain ⟨hs, rfl⟩ := bytes_vals l fun i hi => by simpa using h (i + 1) (by simpa using hi)
    simp at h0; subst h0
    exact ⟨n :: hs, rfl⟩
theorem Tryz.cellsB : Tryz.prog.cellsOf 22 = 32 ∧ Tryz.prog.cellsOf 5 = 1 := ⟨by kernel_rfl, by kernel_rfl⟩
theorem bytes_of {r : Reach} {b0 : Nat} {v : Value} {d : DataW H} {p : List MemPlace} (hv : Value.okWide Tryz.prog W r b0 22 v) (h : DataW.Trod enc Tryz.prog W base spare hd 22 v d p) :
    ∃ hs : List Nat, v = .agg (vU hs).toArray ∧ hs.length = 32 := by
  obtain ⟨cs, rfl, hsz⟩ := okWide_array Tryz.underlying22 hv
  rw [Tryz.cellsB.1] at hsz
  obtain ⟨l⟩ := cs
  have hl : l.length = 32 := by simpa using hsz
  obtain ⟨fuel, hf⟩ := h
  obtain ⟨xs, m, _, _, _, hx, hel⟩ := DataW.trod_array Tryz.underlying22 (show DataW.trod enc Tryz.prog W base spare hd fuel 22 l = some (d, p) by simpa [Value.cells] using hf)
  obtain ⟨hs, rfl⟩ := bytes_vals l fun i hi => by
    have h0 := hel i (by omega)
    rw [Tryz.cellsB.2, Nat.mul_one, List.getElem?_eq_getElem (by omega)] at h0
    obtain ⟨a, e0, _, w0⟩ := DataW.trod_int Tryz.underlying5 h0
    have h2 : IntKind.u8.min ≤ a ∧ a ≤ IntKind.u8.max := by simpa [Lit.wf] using w0
    have e1 : IntKind.u8.min = 0 := by decide
    obtain ⟨n, rfl⟩ : ∃ n : Nat, a = (n : Int) := ⟨a.toNat, by omega⟩
    exact ⟨n, e0⟩
  exact ⟨hs, rfl, by simpa [vU] using hl⟩
end

end Go.Proofs.YtbfeggodaaojgaaGreatDoor
end
section
namespace Go.Proofs.YtbfeggodaaojgaaGreatDoor.blameNoneDone
open Go Go.Sy Go.Pl Go.Proofs Go.Proofs.YtbfeggodaaojgaaGreatDoor
open Go.ChangeShapes Go.WideShapes Go.ChangeAt Go.RowKit
set_option linter.unusedVariables false

theorem own : ownKnob Tryz.prog.godebug = none := by kernel_rfl
theorem laidOut : laidOutB Tryz.prog = true := by kernel_rfl

set_option maxRecDepth 100000 in
theorem lifted (os : Os) (started : os.Started) (H : Type) (enc : TypeId × Value → H) :
    ReturnsInHanded {} Tryz.checked os 3 .any (fun w args => (Rows.blameNoneSpec.pre enc Tryz.prog Tryz.f3 Rows.blameNoneRow.domain false w args ∧ laidMetH Tryz.prog Rows.blameNoneRow.laid w) ∧ sizedMet enc Tryz.prog Tryz.f3 (OpenSpec.ofChange Rows.blameNoneSpec) false w args)
      (Rows.blameNoneSpec.post enc Tryz.prog Tryz.f3 false true false false) := by
  refine returnsInHanded_of_change_and (C := Tryz.checked) (X := fun w _ => laidMetH Tryz.prog Rows.blameNoneRow.laid w) (fun _ _ _ hh h => h.of_heap hh) own started (by kernel_rfl) Tryz.func3
    (ChangeSpec.witness_shaped (enc := enc) (C := Tryz.checked) (os := os) (X := fun w _ => laidMetH Tryz.prog Rows.blameNoneRow.laid w) false (World.laidAll Tryz.prog os Rows.blameNoneRow.laid) #[.agg (vU (List.replicate 32 0)).toArray, .int .i64 0] 8 (World.laidAll_os _ _ _)
      (World.shaped_of_ZipB (by kernel_rfl) (by kernel_rfl)) (by kernel_rfl) (by kernel_rfl) (by kernel_rfl)
      (by rw [MakeChecks.laidMetH_plain _ _ _ (by kernel_rfl)]; exact laidMet_laidAll _ (by kernel_rfl) (by kernel_rfl))) ?_
  intro W base args ds gs before hval0 hW hcnd hsz0 hL _
  have hval : ∀ (j : Nat) t v, Tryz.f3.params[j]? = some t → args[j]? = some v → Value.okWide Tryz.prog W .any base t v := hval0
  have hW' := hW
  obtain ⟨p, q, hA0, hV, rfl, hfz, hnd⟩ := hW
  have hA : DataW.TrodAll enc Tryz.prog W 0 (fun _ => true) true Tryz.f3.params.toList args.toList ds p := hA0
  rw [Tryz.params3] at hA hval
  obtain ⟨v0, vs0, d0, ds0, p0, q0, hargs, rfl, rfl, h0, r0⟩ := trodAll_cons hA
  obtain ⟨v1, vs1, d1, ds1, p1, q1, rfl, rfl, rfl, h1, r1⟩ := trodAll_cons r0
  obtain ⟨rfl, rfl, rfl⟩ := trodAll_nil r1
  obtain rfl : args = #[v0, v1] := by cases args; simp_all
  obtain ⟨rfl, rfl⟩ := trodVars_none hV
  have lt0 : ∀ x ∈ p0, x.block < W.heap.size := by obtain ⟨m, hm⟩ := h0; exact DataW.trod_lt m _ _ _ hm
  have lt1 : ∀ x ∈ p1, x.block < W.heap.size := by obtain ⟨m, hm⟩ := h1; exact DataW.trod_lt m _ _ _ hm
  obtain ⟨hs, e0, hl⟩ := bytes_of (hval 0 22 v0 rfl rfl) h0
  obtain ⟨p, e1⟩ := okWide_int Tryz.underlying3 (hval 1 3 v1 rfl rfl)
  clear hA0 hval0
  have walk : Calls Tryz.prog 3 #[v0, v1] W fun e w' => e = .returned (.bool true) ∧ Below W.heap.size W w' := by
    rw [e0, e1]
    refine (blameNone_spec (E0 W) (held W) [] hs hl p W (at_start W)).mono ?_
    rintro e w' ⟨v, g', s', rfl, hat, rfl, rfl, hle⟩
    exact ⟨rfl, at_below hat hle⟩
  refine walk.mono fun e W' ⟨he, bel⟩ => ?_
  subst he
  exact ⟨_, rfl, _, _, _, [], _, [], hW', trodAll_mk1 (shut_bool Tryz.underlying4 _), (trodAll_cons_mk (Below.trod laidOut (by kernel_rfl) (of_decide_eq_true (by kernel_rfl)) h0 bel lt0) (trodAll_cons_mk (Below.trod laidOut (by kernel_rfl) (of_decide_eq_true (by kernel_rfl)) h1 bel lt1) trodAll_mk0)), rfl, bel.frame _, fun h => by cases h⟩

def kindsB (P : Program) (fn : Func) (c : OpenClaim) : Bool := (c.kinds == (if c.domain.isEmpty then [] else fn.params.toList.map fun t => match P.underlying t with | some (.int k) => some k | _ => none))
theorem and2 {a b : Bool} (h : a = true) (k : b = true) : (a && b) = true := by rw [h, k]; rfl
theorem joined_mk {P : Program} {f : FuncId} {fn : Func} {s : ChangeSpec} {c : OpenClaim}
    (h0 : (c.wf (OpenSpec.ofChange s)) = true)
    (h1 : (laidOutB P) = true)
    (h2 : (mapsRowed P) = true)
    (h3 : (fn.params.all (P.readableRec ·)) = true)
    (h4 : (namedTie P c.named s.vars) = true)
    (h5 : ((c.stops == [])) = true)
    (h6 : ((P.stops == [])) = true)
    (h7 : ((c.knobs == [])) = true)
    (h8 : ((P.stopKnobs == [])) = true)
    (h9 : ((c.inPlace == P.inPlace f)) = true)
    (h10 : ((c.unfollowed == P.unfollowed f)) = true)
    (h11 : ((c.recurses == P.recurses f)) = true)
    (h12 : ((c.named == P.varsNamed f)) = true)
    (h13 : ((c.maps == (fn.params.toList ++ s.plain.varTypes P).any (P.mapsRec ·))) = true)
    (h14 : ((c.ifaces == (fn.params.toList ++ s.plain.varTypes P).any (P.ifacesRec ·))) = true)
    (h15 : ((c.mapsOut == P.mapsAmong fn.resultTypes.toList)) = true)
    (h16 : ((c.loops == (fn.params.toList ++ s.plain.varTypes P).any (P.loopsFrom ·))) = true)
    (h17 : ((c.wideKeys == (fn.params.toList ++ s.plain.varTypes P ++ fn.resultTypes.toList).any (P.wideKeysFrom ·))) = true)
    (h18 : (s.vars.all (P.varReadable ·)) = true)
    (h19 : (fn.resultTypes.all (fun t => P.readableRec t && decide (t < P.types.size))) = true)
    (h20 : ((c.ifacesOut == fn.resultTypes.toList.any (P.ifacesRec ·))) = true)
    (h21 : ((c.loopsOut == fn.resultTypes.toList.any (P.loopsFrom ·))) = true)
    (h22 : ((c.plainKeys == P.plainKeys)) = true)
    (h23 : (c.shortTexts.isNone) = true)
    (h24 : (P.stopsHeard) = true)
    (h25 : (P.mayEnter) = true)
    (h26 : ((c.lifted == P.liftsFinal)) = true)
    (h27 : ((P.make == some c.make)) = true)
    (h28 : (kindsB P fn c) = true)
    (h29 : ((c.pinned == c.pinnedBy)) = true)
    (h30 : ((c.veiled == (fn.params.toList ++ s.plain.varTypes P ++ fn.resultTypes.toList).any (P.veiledRec ·))) = true)
    (h31 : (c.veiledFits P fn.params.toList (fn.params.toList ++ s.plain.varTypes P ++ fn.resultTypes.toList)) = true)
    : joinedFacts P f fn s c = true := by
  exact and2 (and2 (and2 (and2 (and2 (and2 (and2 (and2 (and2 (and2 (and2 (and2 (and2 (and2 (and2 (and2 (and2 (and2 (and2 (and2 (and2 (and2 (and2 (and2 (and2 (and2 (and2 (and2 (and2 (and2 (and2 h0 h1) h2) h3) h4) h5) h6) h7) h8) h9) h10) h11) h12) h13) h14) h15) h16) h17) h18) h19) h20) h21) h22) h23) h24) h25) h26) h27) h28) h29) h30) h31
theorem k0 : (Rows.blameNoneRow.wf (OpenSpec.ofChange Rows.blameNoneSpec)) = true := by kernel_rfl
theorem k1 : (laidOutB Tryz.prog) = true := by kernel_rfl
theorem k2 : (mapsRowed Tryz.prog) = true := by kernel_rfl
theorem k3 : (Tryz.f3.params.all (Tryz.prog.readableRec ·)) = true := by kernel_rfl
theorem k4 : (namedTie Tryz.prog Rows.blameNoneRow.named Rows.blameNoneSpec.vars) = true := by kernel_rfl
theorem k5 : ((Rows.blameNoneRow.stops == [])) = true := by kernel_rfl
theorem k6 : ((Tryz.prog.stops == [])) = true := by kernel_rfl
theorem k7 : ((Rows.blameNoneRow.knobs == [])) = true := by kernel_rfl
theorem k8 : ((Tryz.prog.stopKnobs == [])) = true := by kernel_rfl
theorem k9 : ((Rows.blameNoneRow.inPlace == Tryz.prog.inPlace 3)) = true := by kernel_rfl
theorem k10 : ((Rows.blameNoneRow.unfollowed == Tryz.prog.unfollowed 3)) = true := by kernel_rfl
theorem k11 : ((Rows.blameNoneRow.recurses == Tryz.prog.recurses 3)) = true := by kernel_rfl
theorem k12 : ((Rows.blameNoneRow.named == Tryz.prog.varsNamed 3)) = true := by kernel_rfl
theorem k13 : ((Rows.blameNoneRow.maps == (Tryz.f3.params.toList ++ Rows.blameNoneSpec.plain.varTypes Tryz.prog).any (Tryz.prog.mapsRec ·))) = true := by kernel_rfl
theorem k14 : ((Rows.blameNoneRow.ifaces == (Tryz.f3.params.toList ++ Rows.blameNoneSpec.plain.varTypes Tryz.prog).any (Tryz.prog.ifacesRec ·))) = true := by kernel_rfl
theorem k15 : ((Rows.blameNoneRow.mapsOut == Tryz.prog.mapsAmong Tryz.f3.resultTypes.toList)) = true := by kernel_rfl
theorem k16 : ((Rows.blameNoneRow.loops == (Tryz.f3.params.toList ++ Rows.blameNoneSpec.plain.varTypes Tryz.prog).any (Tryz.prog.loopsFrom ·))) = true := by kernel_rfl
theorem k17 : ((Rows.blameNoneRow.wideKeys == (Tryz.f3.params.toList ++ Rows.blameNoneSpec.plain.varTypes Tryz.prog ++ Tryz.f3.resultTypes.toList).any (Tryz.prog.wideKeysFrom ·))) = true := by kernel_rfl
theorem k18 : (Rows.blameNoneSpec.vars.all (Tryz.prog.varReadable ·)) = true := by kernel_rfl
theorem k19 : (Tryz.f3.resultTypes.all (fun t => Tryz.prog.readableRec t && decide (t < Tryz.prog.types.size))) = true := by kernel_rfl
theorem k20 : ((Rows.blameNoneRow.ifacesOut == Tryz.f3.resultTypes.toList.any (Tryz.prog.ifacesRec ·))) = true := by kernel_rfl
theorem k21 : ((Rows.blameNoneRow.loopsOut == Tryz.f3.resultTypes.toList.any (Tryz.prog.loopsFrom ·))) = true := by kernel_rfl
theorem k22 : ((Rows.blameNoneRow.plainKeys == Tryz.prog.plainKeys)) = true := by kernel_rfl
theorem k23 : (Rows.blameNoneRow.shortTexts.isNone) = true := by kernel_rfl
theorem k24 : (Tryz.prog.stopsHeard) = true := by kernel_rfl
theorem k25 : (Tryz.prog.mayEnter) = true := by kernel_rfl
theorem k26 : ((Rows.blameNoneRow.lifted == Tryz.prog.liftsFinal)) = true := by kernel_rfl
theorem k27 : ((Tryz.prog.make == some Rows.blameNoneRow.make)) = true := by kernel_rfl
theorem k28 : (kindsB Tryz.prog Tryz.f3 Rows.blameNoneRow) = true := by kernel_rfl
theorem k29 : ((Rows.blameNoneRow.pinned == Rows.blameNoneRow.pinnedBy)) = true := by kernel_rfl
theorem k30 : ((Rows.blameNoneRow.veiled == (Tryz.f3.params.toList ++ Rows.blameNoneSpec.plain.varTypes Tryz.prog ++ Tryz.f3.resultTypes.toList).any (Tryz.prog.veiledRec ·))) = true := by kernel_rfl
theorem k31 : (Rows.blameNoneRow.veiledFits Tryz.prog Tryz.f3.params.toList (Tryz.f3.params.toList ++ Rows.blameNoneSpec.plain.varTypes Tryz.prog ++ Tryz.f3.resultTypes.toList)) = true := by kernel_rfl
theorem kp : Rows.blameNoneRow.wfByText (OpenSpec.ofChange Rows.blameNoneSpec) = true := by kernel_rfl
theorem kf : Tryz.prog.funcNamed "cocycle/cocyclelaw23.BlameNone" = some 3 := by kernel_rfl
theorem kr : Tryz.pinned.checked.prog.funcNamed Rows.blameNoneRow.func = some 3 := by kernel_rfl
theorem kj : joinedFacts Tryz.pinned.checked.prog 3 Tryz.f3 Rows.blameNoneSpec Rows.blameNoneRow = true :=
  joined_mk k0 k1 k2 k3 k4 k5 k6 k7 k8 k9 k10 k11 k12 k13 k14 k15 k16 k17 k18 k19 k20 k21 k22 k23 k24 k25 k26 k27 k28 k29 k30 k31
theorem ki : Tryz.f3.isInstance Tryz.prog Rows.blameNoneRow.origin Rows.blameNoneRow.targs := of_decide_eq_true (by kernel_rfl)
theorem kw : Tryz.f3.isWrapper Tryz.prog Rows.blameNoneRow.wrapper Rows.blameNoneRow.mainSum := by unfold Func.isWrapper; first | (rw [if_pos (by decide +kernel)]; kernel_rfl) | (rw [if_neg (by decide +kernel)]; exact ⟨rfl, rfl⟩)
theorem km : Tryz.prog.mainIs = some (true, ("f05792f2a6e158c30a7273ada41acbb8f6255abedcb28992a8325faebb81816c" : String).toList) := by kernel_rfl
theorem kl : true = Tryz.prog.looks [] := by kernel_rfl
theorem kg0 : Tryz.prog.funcs.toList.any Func.goes = false := by kernel_rfl
theorem kg1 (g : FuncId) : (Tryz.prog.funcs[g]?).any Func.goes = false := by
  cases h : Tryz.prog.funcs[g]? with
  | none => rfl
  | some fn =>
    have h1 := List.any_eq_false.1 kg0 fn (by rw [← Array.getElem?_toList] at h; exact List.mem_of_getElem? h)
    simpa using h1
theorem kg2 : Tryz.prog.goes 3 = false := by
  unfold Program.goes
  rw [← Array.any_toList, kg0, Bool.and_false, Bool.or_false]
  simp only [kg1]
  first | exact List.any_eq_false.2 (fun _ _ h => by cases h) | exact Array.any_eq_false.2 (fun _ _ h => by cases h)
theorem kg : false = Rows.blameNoneRow.goesBy Tryz.prog := by
  show false = Tryz.prog.goesAt Rows.blameNoneRow.start Rows.blameNoneRow.func
  unfold Program.goesAt Program.goesFrom
  rw [show Tryz.prog.funcNamed Rows.blameNoneRow.func = some 3 from kf]
  simp only [Option.any_some, kg2, Bool.false_or]
  rfl
theorem kq : ([22, 3].all fun u => !Tryz.prog.wantsStandIn u) = true := by kernel_rfl

theorem over : Rows.blameNoneRow.holds Tryz.pinned (OpenSpec.ofChange Rows.blameNoneSpec) :=
  OpenClaim.holds_of_wide 3 Tryz.f3 rfl rfl rfl rfl rfl rfl rfl ⟨rfl, rfl, rfl, rfl, rfl⟩ rfl rfl rfl rfl rfl kr Tryz.func3 kj ki kw
    (fun os started H enc _ => lifted os started H enc)

theorem proved : Rows.BlameNoneCardSaid :=
  Claim7.holds_tied_plain_at .later [] [.data, .pinned] true (true, "f05792f2a6e158c30a7273ada41acbb8f6255abedcb28992a8325faebb81816c") true
    over (fun _ h => by cases h) kp (fun _ h => by cases h) blameNone_row_tie rfl ⟨rfl, rfl⟩ km rfl
    (fun f fn hf hfn => by
      obtain rfl : f = 3 := Option.some.inj (kf.symm.trans hf) |>.symm
      obtain rfl : fn = Tryz.f3 := (Option.some.inj (Tryz.func3.symm.trans hfn)).symm
      exact ⟨kl, fun j t ht => by
        rw [Tryz.params3] at ht
        have hm : t ∈ [22, 3] := by simpa using Array.mem_of_getElem? ht
        exact (show Tryz.prog.wantsStandIn t = false by simpa using List.all_eq_true.1 kq t hm)⟩)
    kg
#print axioms proved
end Go.Proofs.YtbfeggodaaojgaaGreatDoor.blameNoneDone
end
