/- Bin Pro1 Pro Cpy Cmp Sub -/
import Derived.Test.YtkdibcicncjpdaaGreatOw06
import Derived.Test.YtkdibcicncjpdaaGreatOw04
set_option linter.unusedSimpArgs false
set_option linter.unusedVariables false
namespace Go.Proofs.YtkdibcicncjpdaaGreat
open _root_.Go.Proofs.Tryz _root_.Go.Proofs.YtkdibcicncjpdaaGreat.Tryz
open Go Go.Sy Go.Pl Go.Proofs
set_option maxRecDepth 100000
theorem isNaN2_spec (E : World) (g : PH) (s : Own) (a : Int) : Ctr Tryz.prog E 95 #[vi a] g s (fun r g' s' => r = vb false ∧ g = g' ∧ s = s') := by
 refine Ctr.of (args := [vi a]) func95 rfl ntmps95 (Nat.le_of_ble_eq_true rfl) ?_
 refine SC.seq (SC.region (SL.A rfl (SL.nil (ST.thenN (SC.seq (SC.region (SL.M rfl (SL.M rfl (SL.U (SU.neq rfl rfl) (SL.A rfl (SL.nil (ST.thenN (SC.ret ?_)))))))))))))
 exact ST.ret1 (.inl rfl) results95 rfl ⟨by simp, rfl, rfl⟩
theorem less_spec (E : World) (g : PH) (s : Own) (a b : Int) : Ctr Tryz.prog E 94 #[vi a, vi b] g s (fun r g' s' => r = vb (decide (a < b)) ∧ g = g' ∧ s = s') := by
 refine Ctr.of (args := [vi a, vi b]) func94 rfl ntmps94 (Nat.le_of_ble_eq_true rfl) ?_
 refine SC.seq (SC.region (SL.A rfl (SL.nil (ST.thenN (SC.seq (SC.region (SL.M rfl (SL.W (SO.call call130 rfl (isNaN_spec E g s a)) ?_))))))))
 rintro _ _ _ ⟨rfl, rfl, rfl⟩
 refine SL.M rfl ?_
 first | refine SL.gu (Gd.onT rfl rfl rfl dC) (SU.move rfl) dC ?_ | refine SL.off (Gd.onF rfl rfl rfl dC) dC ?_ | refine SL.off (Gd.off rfl rfl rfl dC) dC ?_
 first | (refine SL.go (Gd.onT rfl rfl rfl dC) (SO.call call130 rfl (isNaN_spec E g s b)) dC ?_; rintro _ _ _ ⟨rfl, rfl, rfl⟩) | refine SL.off (Gd.onF rfl rfl rfl dC) dC ?_ | refine SL.off (Gd.off rfl rfl rfl dC) dC ?_
 first | refine SL.gu (Gd.onT rfl rfl rfl dC) ((by first | exact SU.notP rfl | exact SU.not rfl)) dC ?_ | refine SL.off (Gd.onF rfl rfl rfl dC) dC ?_ | refine SL.off (Gd.off rfl rfl rfl dC) dC ?_
 refine SL.U (SU.pickF rfl rfl) (SL.M rfl ?_)
 first | refine SL.gu (Gd.onT rfl rfl rfl dC) (SU.move rfl) dC ?_ | refine SL.off (Gd.onF rfl rfl rfl dC) dC ?_ | refine SL.off (Gd.off rfl rfl rfl dC) dC ?_
 first | refine SL.gu (Gd.onT rfl rfl rfl dC) (SU.move rfl) dC ?_ | refine SL.off (Gd.onF rfl rfl rfl dC) dC ?_ | refine SL.off (Gd.off rfl rfl rfl dC) dC ?_
 first | refine SL.gu (Gd.onT rfl rfl rfl dC) (SU.lss rfl rfl) dC ?_ | refine SL.off (Gd.onF rfl rfl rfl dC) dC ?_ | refine SL.off (Gd.off rfl rfl rfl dC) dC ?_
 refine SL.U (SU.pickF rfl rfl) (SL.A rfl (SL.nil (ST.thenN (SC.ret ?_))))
 exact ST.ret1 (.inl rfl) results94 rfl ⟨rfl, rfl, rfl⟩
def lbI (l : List Int) (x : Int) : Nat := (l.filter fun y => decide (y < x)).length
theorem lb_eq {l : List Int} {x : Int} {i : Nat} (hi : i ≤ l.length) (h1 : ∀ k (h : k < l.length), k < i → l[k] < x) (h2 : ∀ k (h : k < l.length), i ≤ k → x ≤ l[k]) : lbI l x = i := by
 unfold lbI
 have e : l = l.take i ++ l.drop i := (List.take_append_drop i l).symm
 rw [e, List.filter_append]
 have f1 : (l.take i).filter (fun y => decide (y < x)) = l.take i := by
  rw [List.filter_eq_self]
  intro y hy
  obtain ⟨k, hk, rfl⟩ := List.getElem_of_mem hy
  simp at hk
  simpa using h1 k oM oM
 have f2 : (l.drop i).filter (fun y => decide (y < x)) = [] := by
  rw [List.filter_eq_nil_iff]
  intro y hy
  obtain ⟨k, hk, rfl⟩ := List.getElem_of_mem hy
  simp at hk
  have := h2 (i + k) oM oM
  simp only [List.getElem_drop]
  simp
  omega
 rw [f1, f2]
 simp
 omega
theorem found_eq {l : List Int} {x : Int} {i : Nat} (hs : l.Pairwise (· ≤ ·)) (h1 : ∀ k (h : k < l.length), k < i → l[k] < x) (h2 : ∀ k (h : k < l.length), i ≤ k → x ≤ l[k]) (hi : i < l.length) : decide (l[i] = x) = l.contains x := by
 rw [Bool.eq_iff_iff]
 simp
 constructor
 ·intro e; rw [← e]; exact List.getElem_mem hi
 ·intro hm
  obtain ⟨k, hk, e⟩ := List.getElem_of_mem hm
  have hki : i ≤ k := by
   rcases Nat.lt_or_ge k i with h | h
   ·have := h1 k hk h; omega
   ·exact h
  have h3 := h2 i hi (Nat.le_refl _)
  rcases Nat.eq_or_lt_of_le hki with rfl | h
  ·exact e
  ·have := List.pairwise_iff_getElem.1 hs i k hi hk h
   omega
theorem notFound {l : List Int} {x : Int} {i : Nat} (h1 : ∀ k (h : k < l.length), k < i → l[k] < x) (hi : ¬ i < l.length) : l.contains x = false := by
 rw [Bool.eq_false_iff]
 intro hm
 simp at hm
 obtain ⟨k, hk, e⟩ := List.getElem_of_mem hm
 have := h1 k hk oM
 omega
theorem binSearch_spec (E : World) (g : PH) (s : Own) (v : Value) (l : List Int) (x : Int) (hv : Ints g v l) (hl : l.length < 1099511627776) (hs : l.Pairwise (· ≤ ·)) :
  Ctr Tryz.prog E 59 #[v, vi x] g s (fun r g' s' => r = .tuple #[vi (lbI l x), vb (l.contains x)] ∧ g = g' ∧ s = s') := by
 obtain ⟨p, c, rfl⟩ := SlA.form hv
 refine Ctr.of (args := [.slice p l.length c, vi x]) func59 rfl ntmps59 (Nat.le_of_ble_eq_true rfl) ?_
 refine SC.seq (SC.region (SL.A rfl (SL.A rfl (SL.nil (ST.thenN (SC.seq (SC.region (SL.M rfl (SL.U (SU.lenN underlying45 rfl) (SL.A rfl (SL.nil (ST.thenN (SC.seq (SC.region (SL.M rfl (SL.A rfl (SL.A rfl (SL.nil (ST.thenN (SC.seq (SC.block ?_)))))))))))))))))))))
 refine SC.loop (ι := Nat × Nat) (fun q => [(0, .slice p l.length c), (1, vi x), (6, vi l.length), (7, vi q.1), (8, vi q.2)]) (fun _ => g) (fun _ => s)
  (fun q => q.1 ≤ q.2 ∧ q.2 ≤ l.length ∧ (∀ k (h : k < l.length), k < q.1 → l[k] < x) ∧ ∀ k (h : k < l.length), q.2 ≤ k → x ≤ l[k]) (fun q => q.2 - q.1) (0, l.length)
  ⟨rfl, rfl, rfl, rfl, rfl, trivial⟩ rfl rfl ⟨Nat.zero_le _, Nat.le_refl _, fun k _ h => absurd h oM, fun k h1 h2 => absurd h1 (by dsimp only at h2; omega)⟩ ?_
 rintro ⟨i, j⟩ ⟨hij, hj, hlo, hhi⟩
 dsimp only at hij hj hlo hhi ⊢
 refine SC.seq (SC.seq (SC.region (SL.M rfl (SL.M rfl (SL.U (SU.lss rfl rfl) (SL.nil (ST.thenN ?_)))))))
 refine SC.ifP rfl (fun hlt => ?_) (fun hlt => ?_)
 ·have hb1 := SlA.based hv oM
  have hmid : ((i : Int) + (j : Int)) / 2 = (((i + j) / 2 : Nat) : Int) := oM
  have hml : (i + j) / 2 < l.length := oM
  have hmx : l[((((i + j) / 2 : Nat) : Int)).toNat]? = some l[(i + j) / 2] := List.getElem?_eq_getElem hml
  refine SC.skip (ST.thenN (SC.block (SC.seq (SC.region (SL.M rfl (SL.M rfl (SL.U (SU.add rfl rfl oM) (SL.U (SU.convert underlying3 underlying113 rfl) (SL.U (SU.shr rfl rfl dC) (SL.U (SU.eq (SU.convert underlying113 underlying3 rfl) (congrArg vi ((half_int _ oM oM).trans hmid))) (SL.A rfl (SL.nil (ST.thenN (SC.seq (SC.region (SL.M rfl (SL.M rfl (SL.U (SU.indexAddr underlying45 sizeOf3 rfl rfl hb1 oM sL) (SL.K (SQ.elem1 isAgg3 rfl (SlA.rd hv) hmx rfl) (SL.M rfl (SL.W (SO.call call94 rfl (less_spec E g _ l[(i + j) / 2] x)) ?_)))))))))))))))))))))
  rintro _ _ _ ⟨rfl, rfl, rfl⟩
  refine SL.nil (ST.thenN ?_)
  refine SC.ifP rfl (fun hc => ?_) (fun hc => ?_)
  ·refine SC.region (SL.M rfl (SL.U (SU.add rfl rfl oM) (SL.A rfl (SL.nil (ST.blockN ?_)))))
   refine ST.again ((i + j) / 2 + 1, j) ⟨rfl, rfl, rfl, rfl, rfl, trivial⟩ rfl rfl ⟨lN, hj, fun k hk h => ?_, hhi⟩ lN
   dsimp only at h
   rcases Nat.eq_or_lt_of_le (show k ≤ (i + j) / 2 by omega) with rfl | h'
   ·exact hc
   ·have := List.pairwise_iff_getElem.1 hs k ((i + j) / 2) hk hml h'
    omega
  ·refine SC.region (SL.M rfl (SL.A rfl (SL.nil (ST.blockN ?_))))
   refine ST.again (i, (i + j) / 2) ⟨rfl, rfl, rfl, rfl, rfl, trivial⟩ rfl rfl ⟨lN, lN, hlo, fun k hk h => ?_⟩ lN
   dsimp only at h
   rcases Nat.eq_or_lt_of_le (show (i + j) / 2 ≤ k by omega) with h' | h'
   ·subst h'; omega
   ·have := List.pairwise_iff_getElem.1 hs ((i + j) / 2) k hml hk h'
    omega
 ·have hie : i = j := oM
  subst hie
  have hlb := lb_eq hj hlo hhi
  have hx0 := fun h => SlA.based hv h
  have hget : (i : Int) < (l.length : Int) → l[((i : Nat) : Int).toNat]? = some (l.getD i 0) := fun h => by
   have h2 : i < l.length := oM
   rw [show ((i : Nat) : Int).toNat = i by omega, List.getElem?_eq_getElem h2, List.getD_eq_getElem?_getD, List.getElem?_eq_getElem h2]; rfl
  have hfnd : (i : Int) < (l.length : Int) → decide (l.getD i 0 = x) = l.contains x := fun h => by
   have h2 : i < l.length := oM
   rw [← found_eq hs hlo hhi h2, List.getD_eq_getElem?_getD, List.getElem?_eq_getElem h2]; rfl
  have hnot : ¬ (i : Int) < (l.length : Int) → l.contains x = false := fun h => notFound hlo oM
  generalize l.getD i 0 = y at hget hfnd
  refine SC.exit (ST.thenX (ST.thenX (ST.blockX (ST.thenN (SC.seq (SC.region (SL.M rfl (SL.M rfl (SL.M rfl (SL.U (SU.lss rfl rfl) (SL.M rfl ?_)))))))))))
  refine SL.split ?_ ?_
  ·intro h35
   refine SL.Y rfl rfl rfl (SU.move rfl) (SL.Y rfl rfl rfl (SU.move rfl) (SL.Y rfl rfl rfl (SU.indexAddr underlying45 sizeOf3 rfl rfl (hx0 oM) oM sL) (SL.gq (Gd.onT rfl rfl rfl dC) (SQ.elem1 isAgg3 rfl (SlA.rd hv) (hget h35) rfl) dC (SL.Y rfl rfl rfl (SU.move rfl) (SL.Y rfl rfl rfl (SU.eql rfl rfl) (SL.Y rfl rfl rfl (SU.move rfl) ?_))))))
   refine SL.split ?_ ?_
   ·intro h42
    refine SL.Z rfl rfl rfl (SL.Z rfl rfl rfl (SL.Z rfl rfl rfl (SL.Z rfl rfl rfl (SL.Z rfl rfl rfl (SL.Z rfl rfl rfl (SL.off (Gd.off rfl rfl rfl dC) dC (SL.off (Gd.off rfl rfl rfl dC) dC (SL.Z rfl rfl rfl (SL.Y rfl rfl rfl (SU.pickT rfl rfl) (SL.U (SU.pickT rfl rfl) (SL.A rfl (SL.A rfl (SL.nil (ST.thenN (SC.ret ?_)))))))))))))))
    first | exact ST.ret2 (.inl rfl) results59 rfl rfl ⟨by rw [hlb, hnot h35], rfl, rfl⟩ | exact ST.ret2 (.inl rfl) results59 rfl rfl ⟨by rw [hlb, ← hfnd h35, decide_eq_true h42], rfl, rfl⟩ | exact ST.ret2 (.inl rfl) results59 rfl rfl ⟨by rw [hlb, ← hfnd h35, decide_eq_false h42], rfl, rfl⟩
   ·intro h42
    refine SL.Y rfl rfl rfl (SU.move rfl) (SL.Y rfl rfl rfl (SU.move rfl) (SL.Y rfl rfl rfl (SU.indexAddr underlying45 sizeOf3 rfl rfl (hx0 oM) oM sL) (SL.gq (Gd.onT rfl rfl rfl dC) (SQ.elem1 isAgg3 rfl (SlA.rd hv) (hget h35) rfl) dC (SL.go (Gd.onT rfl rfl rfl dC) (SO.call call95 rfl (isNaN2_spec E g s _)) dC ?_))))
    rintro _ _ _ ⟨rfl, rfl, rfl⟩
    refine SL.Y rfl rfl rfl (SU.move rfl) (SL.Z rfl rfl rfl (SL.Z rfl rfl rfl (SL.Y rfl rfl rfl (SU.pickF rfl rfl) (SL.Y rfl rfl rfl (SU.pickF rfl rfl) (SL.U (SU.pickT rfl rfl) (SL.A rfl (SL.A rfl (SL.nil (ST.thenN (SC.ret ?_))))))))))
    first | exact ST.ret2 (.inl rfl) results59 rfl rfl ⟨by rw [hlb, hnot h35], rfl, rfl⟩ | exact ST.ret2 (.inl rfl) results59 rfl rfl ⟨by rw [hlb, ← hfnd h35, decide_eq_true h42], rfl, rfl⟩ | exact ST.ret2 (.inl rfl) results59 rfl rfl ⟨by rw [hlb, ← hfnd h35, decide_eq_false h42], rfl, rfl⟩
  ·intro h35
   refine SL.Z rfl rfl rfl (SL.Z rfl rfl rfl (SL.Z rfl rfl rfl (SL.Z rfl rfl rfl (SL.Z rfl rfl rfl (SL.Z rfl rfl rfl (SL.Z rfl rfl rfl (SL.off (Gd.off rfl rfl rfl dC) dC (SL.off (Gd.off rfl rfl rfl dC) dC (SL.off (Gd.off rfl rfl rfl dC) dC (SL.off (Gd.off rfl rfl rfl dC) dC (SL.off (Gd.off rfl rfl rfl dC) dC (SL.off (Gd.off rfl rfl rfl dC) dC (SL.off (Gd.off rfl rfl rfl dC) dC (SL.off (Gd.off rfl rfl rfl dC) dC (SL.off (Gd.off rfl rfl rfl dC) dC (SL.Z rfl rfl rfl (SL.U (SU.pickF rfl rfl) (SL.A rfl (SL.A rfl (SL.nil (ST.thenN (SC.ret ?_))))))))))))))))))))))
   first | exact ST.ret2 (.inl rfl) results59 rfl rfl ⟨by rw [hlb, hnot h35], rfl, rfl⟩ | exact ST.ret2 (.inl rfl) results59 rfl rfl ⟨by rw [hlb, ← hfnd h35, decide_eq_true h42], rfl, rfl⟩ | exact ST.ret2 (.inl rfl) results59 rfl rfl ⟨by rw [hlb, ← hfnd h35, decide_eq_false h42], rfl, rfl⟩
def signC (n : Int) : Int := 1 - 2 * (n % 2)
theorem and_one (n : Int) : IntKind.i64.wrap ((BitVec.ofInt IntKind.i64.bits n &&& BitVec.ofInt IntKind.i64.bits 1).toNat : Int) = n % 2 := by
 have h1 : (BitVec.ofInt 64 n &&& BitVec.ofInt 64 1).toNat = (n % 2).toNat := by
  rw [BitVec.toNat_and, show (BitVec.ofInt 64 1).toNat = 1 from rfl, Nat.and_one_is_mod, BitVec.toNat_ofInt]
  omega
 show IntKind.i64.wrap ((BitVec.ofInt 64 n &&& BitVec.ofInt 64 1).toNat : Int) = n % 2
 rw [h1, IntWalk.i64_in _ oM]
 omega
theorem sign_spec (E : World) (g : PH) (s : Own) (n : Int) : Ctr Tryz.prog E 49 #[vi n] g s (fun r g' s' => r = vi (signC n) ∧ g = g' ∧ s = s') := by
 refine Ctr.of (args := [vi n]) func49 rfl ntmps49 (Nat.le_of_ble_eq_true rfl) ?_
 refine SC.seq (SC.region (SL.A rfl (SL.nil (ST.thenN (SC.seq (SC.region (SL.M rfl (SL.U (SU.eq (SU.and rfl rfl) (congrArg vi (and_one n))) (SL.U (SU.mul rfl rfl oM) (SL.U (SU.sub rfl rfl oM) (SL.A rfl (SL.nil (ST.thenN (SC.ret ?_))))))))))))))
 exact ST.ret1 (.inl rfl) results49 rfl ⟨rfl, rfl, rfl⟩
theorem foldl_sub (l : List Cl) : ∀ acc : List Cl, ∃ r, l.foldl addC acc = acc ++ r ∧ r.Sublist l := by
 induction l with
 | nil => intro acc; exact ⟨[], by simp, .refl _⟩
 | cons c t ih =>
  intro acc
  simp only [List.foldl_cons]
  obtain ⟨r, h1, h2⟩ := ih (addC acc c)
  unfold addC at h1
  unfold addC
  split at h1
  ·rename_i hc
   rw [if_pos hc]
   exact ⟨r, h1, h2.cons _⟩
  ·rename_i hc
   rw [if_neg hc]
   exact ⟨c :: r, by rw [h1]; simp, h2.cons_cons _⟩
theorem tabC_sub (l : List Cl) : (tabC l).Sublist (canonC l) := by
 obtain ⟨r, h1, h2⟩ := foldl_sub (canonC l) []
 unfold tabC
 rw [h1]
 simpa using h2
theorem canonC_ids (l : List Cl) : (canonC l).map Cl.id = (sortBy Cl.id l).map Cl.id := by
 unfold canonC
 rw [List.map_map]
 rfl
theorem canonC_sorted (l : List Cl) : ((canonC l).map Cl.id).Pairwise (· ≤ ·) := by
 rw [canonC_ids, List.pairwise_map]
 exact sortBy_srt l
theorem tabC_sorted (l : List Cl) : ((tabC l).map Cl.id).Pairwise (· ≤ ·) := (canonC_sorted l).sublist ((tabC_sub l).map _)
def prodId (tl ul : List Cl) (x y : Int) : Int := lbI (tl.map Cl.id) x * ul.length + lbI (ul.map Cl.id) y + 1
theorem lbI_le (l : List Int) (x : Int) : lbI l x ≤ l.length := List.length_filter_le _ _
theorem mul_le_4000 {a b : Nat} (ha : a ≤ 4000) (hb : b ≤ 4000) : (a : Int) * (b : Int) ≤ 16000000 ∧ 0 ≤ (a : Int) * (b : Int) := by
 have : a * b ≤ 4000 * 4000 := Nat.mul_le_mul ha hb
 have e : (a : Int) * (b : Int) = ((a * b : Nat) : Int) := by simp
 omega
theorem prodId_spec (E : World) (g : PH) (s : Own) (bt bu : Nat) (tv uv : Value) (tl ul : List Cl) (x y : Int) (ht : Tab g tv tl) (hu : Tab g uv ul) (h1 : g bt = some (.cells #[tv] 75 (0, 0))) (h2 : g bu = some (.cells #[uv] 75 (0, 0)))
  (hs1 : (tl.map Cl.id).Pairwise (· ≤ ·)) (hs2 : (ul.map Cl.id).Pairwise (· ≤ ·)) (hl1 : tl.length ≤ 4000) (hl2 : ul.length ≤ 4000) :
  CallV Tryz.prog E (.func (.func 58) #[] #[pp bt 0, pp bu 0]) [vi x, vi y] g s (fun r g' s' => r = vi (prodId tl ul x y) ∧ g = g' ∧ s = s') := by
 refine CallV.mk (cap := [pp bt 0, pp bu 0]) call58 ?_
 obtain ⟨b, m, iv, rs, rfl, hb, hm, hI, hall⟩ := ht
 obtain ⟨b', m', iv', rs', rfl, hb', hm', hI', hall'⟩ := hu
 have e2 : (ul.map Cl.id).length = ul.length := by simp
 obtain ⟨q, d, hq⟩ := SlA.form hI'
 rw [e2] at hq
 subst hq
 have hlb1 := lbI_le (tl.map Cl.id) x
 have hlb2 := lbI_le (ul.map Cl.id) y
 simp only [List.length_map] at hlb1 hlb2
 have hmul := mul_le_4000 (show lbI (tl.map Cl.id) x ≤ 4000 by omega) hl2
 refine Ctr.of (args := [vi x, vi y, pp bt 0, pp bu 0]) func58 rfl ntmps58 (Nat.le_of_ble_eq_true rfl) ?_
 refine SC.seq (SC.region (SL.A rfl (SL.nil (ST.thenN (SC.seq (SC.region (SL.K (SQ.load isAgg75 rfl (CellAt.known h1 rfl)) (SL.U (SU.nilCheck rfl) (SL.U (SU.fieldAddr underlying88 rfl sizeOf45 rfl) (SL.K (SQ.load isAgg45 rfl (CellAt.known hb rfl)) (SL.M rfl (SL.W (SO.call call59 rfl (binSearch_spec E g _ iv (tl.map Cl.id) x hI (by simp; omega) hs1)) ?_))))))))))))
 rintro _ _ _ ⟨rfl, rfl, rfl⟩
 refine SL.M rfl (SL.U (SU.extract rfl rfl) (SL.U (SU.extract rfl rfl) (SL.A rfl (SL.A rfl (SL.nil (ST.thenN (SC.seq (SC.region (SL.K (SQ.load isAgg75 rfl (CellAt.known h2 rfl)) (SL.U (SU.nilCheck rfl) (SL.U (SU.fieldAddr underlying88 rfl sizeOf45 rfl) (SL.K (SQ.load isAgg45 rfl (CellAt.known hb' rfl)) (SL.M rfl (SL.W (SO.call call59 rfl (binSearch_spec E g _ _ (ul.map Cl.id) y hI' (by simp; omega) hs2)) ?_))))))))))))))
 rintro _ _ _ ⟨rfl, rfl, rfl⟩
 refine SL.M rfl (SL.U (SU.extract rfl rfl) (SL.U (SU.extract rfl rfl) (SL.A rfl (SL.A rfl (SL.nil (ST.thenN (SC.seq (SC.region (SL.M rfl (SL.K (SQ.load isAgg75 rfl (CellAt.known h2 rfl)) (SL.U (SU.nilCheck rfl) (SL.U (SU.fieldAddr underlying88 rfl sizeOf45 rfl) (SL.K (SQ.load isAgg45 rfl (CellAt.known hb' rfl)) (SL.U (SU.lenN underlying45 rfl) (SL.U (SU.mul rfl rfl oM) (SL.M rfl (SL.U (SU.add rfl rfl oM) (SL.U (SU.add rfl rfl oM) (SL.A rfl (SL.nil (ST.thenN (SC.ret ?_))))))))))))))))))))))
 exact ST.ret1 (.inl rfl) results58 rfl ⟨rfl, rfl, rfl⟩
theorem Tab.ptr {g : PH} {v : Value} {tl : List Cl} (h : Tab g v tl) : ∃ b, v = pp b 0 := by
 obtain ⟨b, _, _, _, h1, _⟩ := h
 exact ⟨b, h1⟩
theorem check_len {l : List Cl} (h : (checkC l).2 = 0) : l.length ≤ 4000 := by
 unfold checkC at h
 split at h
 ·simp at h
 ·omega
theorem Tryz.buildE27 (w : World) : (Instr.build 27 #[]).run Tryz.prog w = .ok (.agg #[.slice none 0 0]) w := by
 simp [Instr.build, Instr.fill]
 rfl
theorem Tryz.buildC51 (x y : Int) (w : World) : (Instr.build 51 #[(0, vi x), (1, vi y)]).run Tryz.prog w = .ok (.agg #[vi x, vi y, .slice none 0 0]) w := by
 have hz : (Value.agg #[vi 0, vi 0, Value.slice none 0 0]).cells = #[vi 0, vi 0, .slice none 0 0] := rfl
 have h1 : ∀ z : Int, (vi z).cells = #[vi z] := fun _ => rfl
 simp [Instr.build, Instr.fill, hz, h1]
theorem Tryz.buildS55 (x y : Int) (w : World) : (Instr.build 55 #[(0, vi x), (1, vi y)]).run Tryz.prog w = .ok (.agg #[vi x, vi y]) w := by
 have hz : (Value.agg #[vi 0, vi 0]).cells = #[vi 0, vi 0] := rfl
 have h1 : ∀ z : Int, (vi z).cells = #[vi z] := fun _ => rfl
 simp [Instr.build, Instr.fill, hz, h1]
theorem flatMap_len {α β γ : Type} (l : List α) (m : List β) (f : α → β → γ) : (l.flatMap fun x => m.map (f x)).length = l.length * m.length := by
 induction l with
 | nil => simp
 | cons x t ih => rw [List.flatMap_cons, List.length_append, ih, List.length_map, List.length_cons, Nat.succ_mul]; omega
theorem signC_cases (n : Int) : signC n = 1 ∨ signC n = -1 := by unfold signC; omega
def prodBad (a b : List Cl) : Bool := !decide ((checkC a).2 = 0) || !decide ((checkC b).2 = 0) || decide ((a.length : Int) * b.length > 4000)
theorem prodBad_a {a b : List Cl} (h : ¬ (checkC a).2 = 0) : prodBad a b = true := by simp [prodBad, h]
theorem prodBad_b {a b : List Cl} (h : (checkC a).2 = 0) (h2 : ¬ (checkC b).2 = 0) : prodBad a b = true := by simp [prodBad, h2]
theorem prodBad_c {a b : List Cl} (h : (checkC a).2 = 0) (h2 : (checkC b).2 = 0) : prodBad a b = decide ((a.length : Int) * b.length > 4000) := by simp [prodBad, h, h2]
theorem prodBad_no {a b : List Cl} (h : prodBad a b = false) : (checkC a).2 = 0 ∧ (checkC b).2 = 0 ∧ (a.length : Int) * b.length ≤ 4000 := by
 simp only [prodBad, Bool.or_eq_false_iff, Bool.not_eq_false', decide_eq_true_eq, decide_eq_false_iff_not] at h
 exact ⟨h.1.1, h.1.2, oM⟩
theorem chk1_ne {tl : List Cl} : ∀ {l : List Cl} {last : Int} {p : Int × Int}, chk1 tl l last = some p → p.2 ≠ 0
 | [], _, _, h => by simp [chk1] at h
 | y :: r, last, p, h => by
  unfold chk1 at h
  split at h
  ·injection h with h; subst h; show (20 : Int) ≠ 0; decide
  ·split at h
   ·rename_i h0; injection h with h; subst h; exact h0
   ·exact chk1_ne h
theorem form_dim {tl : List Cl} {c : Cl} (h : formC tl c = 0) : 0 ≤ c.dim ∧ c.dim ≤ 8 := by
 unfold formC at h
 split at h
 ·simp at h
 ·rename_i hdb
  simp [dimBad] at hdb
  omega
theorem check_form {l : List Cl} (h : (checkC l).2 = 0) : ∀ x ∈ canonC l, formC (tabC l) x = 0 := by
 unfold checkC at h
 split at h
 ·simp at h
 ·cases h1 : chk1 (tabC l) (canonC l) 0 with
  | none => exact chk1_none h1
  | some p => rw [h1] at h; exact absurd h (chk1_ne h1)
theorem canonC_length (l : List Cl) : (canonC l).length = l.length := by simp [canonC, sortBy_length]
theorem tabC_length (l : List Cl) : (tabC l).length ≤ l.length := by
 rw [← canonC_length l]
 exact (tabC_sub l).length_le
def prodCell (tl ul : List Cl) (x y : Cl) : Cl := ⟨prodId tl ul x.id y.id, x.dim + y.dim, x.sides.map (fun q => ⟨prodId tl ul q.cell y.id, q.sign⟩) ++ y.sides.map (fun q => ⟨prodId tl ul x.id q.cell, signC x.dim * q.sign⟩)⟩
def prodAll (a b : List Cl) : List Cl := (canonC a).flatMap fun x => (canonC b).map (prodCell (tabC a) (tabC b) x)
def prodC (a b : List Cl) : List Cl := if prodBad a b then [] else if (checkC (prodAll a b)).2 = 0 then canonC (prodAll a b) else []
theorem product_spec (E : World) (g : PH) (s : Own) (v u : Value) (a b : List Cl) (hv : Cells g v a) (hu : Cells g u b) (ha : Fits a) (hb : Fits b) :
  Ctr Tryz.prog E 17 #[.agg #[v], .agg #[u]] g s (fun r g' s' => s = s' ∧ Le g g' ∧ ∃ x, r = .agg #[x] ∧ Cells g' x (prodC a b)) := by
 obtain ⟨p1, c1, e1⟩ := hv.form
 subst e1
 obtain ⟨p2, c2, e2⟩ := hu.form
 subst e2
 refine Ctr.of (args := [.agg #[.slice p1 a.length c1], .agg #[.slice p2 b.length c2]]) func17 rfl ntmps17 (Nat.le_of_ble_eq_true rfl) ?_
 refine SC.seq (SC.region (SL.W (SO.box rfl) ?_))
 rintro _ _ _ ⟨b2, rfl, rfl, rfl⟩
 refine SL.W (SO.box rfl) ?_
 rintro _ _ _ ⟨b3, rfl, rfl, rfl⟩
 refine SL.W (SO.alloc zeroValue27) ?_
 rintro _ _ _ ⟨b4, rfl, rfl, rfl⟩
 refine SL.nil (ST.thenN (SC.seq ?_))
 refine SC.cutB 35 (prodBad a b) ?_ ?_
 ·refine SC.region (SL.K (SQ.loadVarK 2 isAgg27 sizeOf27 rfl rfl rfl) (SL.W (SO.call call57 rfl (right_spec E g _ _ a hv ha)) ?_))
  rintro _ _ _ ⟨rfl, rfl, rfl⟩
  refine SL.U (SU.notP rfl) (SL.M rfl ?_)
  refine SL.split ?_ ?_
  ·intro h21
   refine SL.Z rfl rfl rfl (SL.Z rfl rfl rfl (SL.Z rfl rfl rfl (SL.U (SU.pickT rfl rfl) (SL.M rfl (SL.Z rfl rfl rfl (SL.Z rfl rfl rfl (SL.Z rfl rfl rfl (SL.Z rfl rfl rfl (SL.Z rfl rfl rfl (SL.Z rfl rfl rfl (SL.Z rfl rfl rfl (SL.Z rfl rfl rfl (SL.U (SU.pickT rfl rfl) (SL.nil ?_))))))))))))))
   exact ST.mid1 (by exact congrArg (fun b => some (Value.bool b)) (prodBad_a h21).symm) mI
  ·intro h21
   refine SL.gq (Gd.onT rfl rfl rfl dC) (SQ.loadVarK 1 isAgg27 sizeOf27 rfl rfl rfl) dC (SL.go (Gd.onT rfl rfl rfl dC) (SO.call call57 rfl (right_spec E g _ _ b hu hb)) dC ?_)
   rintro _ _ _ ⟨rfl, rfl, rfl⟩
   refine SL.Y rfl rfl rfl (SU.notP rfl) (SL.U (SU.pickF rfl rfl) (SL.M rfl ?_))
   refine SL.split ?_ ?_
   ·intro h26
    refine SL.Z rfl rfl rfl (SL.Z rfl rfl rfl (SL.Z rfl rfl rfl (SL.Z rfl rfl rfl (SL.Z rfl rfl rfl (SL.Z rfl rfl rfl (SL.Z rfl rfl rfl (SL.Z rfl rfl rfl (SL.U (SU.pickT rfl rfl) (SL.nil ?_)))))))))
    exact ST.mid1 (by exact congrArg (fun b => some (Value.bool b)) (prodBad_b (Decidable.of_not_not h21) h26).symm) mI
   ·intro h26
    refine SL.Y rfl rfl rfl (SU.fieldAddr underlying27 rfl sizeOf25 rfl) (SL.gq (Gd.onT rfl rfl rfl dC) (SQ.load isAgg25 rfl (CellAt.own 2 rfl rfl)) dC (SL.Y rfl rfl rfl (SU.lenN underlying25 rfl) (SL.Y rfl rfl rfl (SU.fieldAddr underlying27 rfl sizeOf25 rfl) (SL.gq (Gd.onT rfl rfl rfl dC) (SQ.load isAgg25 rfl (CellAt.own 1 rfl rfl)) dC (SL.Y rfl rfl rfl (SU.lenN underlying25 rfl) (SL.Y rfl rfl rfl (SU.mul (m := a.length) (n := b.length) rfl rfl (by have h1 := mul_le_4000 (check_len (Decidable.of_not_not h21)) (check_len (Decidable.of_not_not h26)); omega)) ?_))))))
    refine SL.Y rfl rfl rfl (SU.gtr rfl rfl) (SL.U (SU.pickF rfl rfl) (SL.nil ?_))
    exact ST.mid1 (by exact congrArg (fun b => some (Value.bool b)) (prodBad_c (Decidable.of_not_not h21) (Decidable.of_not_not h26)).symm) mI
 refine SC.ifB rfl (fun hbad => ?_) (fun hbad => ?_)
 ·refine SC.seq (SC.region (SL.U (SU.build rfl (buildE27)) (SL.on (SO.storeAllK 0 sizeOf27 rfl rfl rfl rfl rfl (by exact ⟨rfl, trivial⟩)) ?_)))
  rintro _ _ _ ⟨rfl, rfl⟩
  refine SL.nil (ST.thenN (SC.ret (ST.thenR ?_)))
  exact ST.retCD 0 s (.inl rfl) results17 rfl isAgg27 sizeOf27 rfl rfl (.cons _ (.cons _ (.cons _ (.refl _)))) ⟨rfl, Le.refl g, _, rfl, by unfold prodC; rw [if_pos hbad]; exact ⟨[], Sl.nil g _, trivial⟩⟩
 ·refine SC.skip (ST.thenN ?_)
  refine SC.cut (ι := Nat × Nat × Value × Value × PH) (fun i => [(2, pp b2 0), (3, pp b3 0), (4, pp b4 0), (5, pp i.1 0), (6, pp i.2.1 0)]) (fun i => i.2.2.2.2)
   (fun i => pt i.2.1 (.cells #[i.2.2.2.1] 75 (0, 0)) :: pt i.1 (.cells #[i.2.2.1] 75 (0, 0)) :: pt b4 (.cells #[.slice none 0 0] 27 (0, 0)) :: pt b3 (.cells #[.slice p2 b.length c2] 27 (0, 0)) :: pt b2 (.cells #[.slice p1 a.length c1] 27 (0, 0)) :: s)
   (fun i => Le g i.2.2.2.2 ∧ Tab i.2.2.2.2 i.2.2.1 (tabC a) ∧ Tab i.2.2.2.2 i.2.2.2.1 (tabC b)) ?_ ?_
  ·refine SC.drawX [] Tryz.mixed (by kernel_rfl) ?_
   refine SX.q (i := 0) rfl (by kernel_rfl) (SQ.loadVarK 2 isAgg27 sizeOf27 rfl rfl rfl) dC (SX.q (i := 2) rfl (by kernel_rfl) (SQ.loadVarK 1 isAgg27 sizeOf27 rfl rfl rfl) dC ?_)
   refine SX.br3 1 4 5 (by kernel_rfl) ?_ ?_ ?_
   ·refine SB.o (i := 1) rfl (SO.call call50 rfl (of_spec E g _ _ a hv ha)) dC (.inr (by rintro tv g1 _ ⟨rfl, hle1, ht⟩; exact ⟨by assumption, (by exact .refl _)⟩)) ?_
    rintro tv g1 _ ⟨rfl, hle1, ht⟩
    obtain ⟨bt, rfl⟩ := ht.ptr
    refine SX.br3 3 4 5 (by kernel_rfl) ?_ ?_ ?_
    ·refine SB.o (i := 3) rfl (SO.call call50 rfl (of_spec E g1 _ _ b (hu.mono hle1) hb)) dC (.inr (by rintro uv g2 _ ⟨rfl, hle2, hut⟩; exact ⟨by exact Le.trans (by assumption) (by assumption), (by exact .refl _)⟩)) ?_
     rintro uv g2 _ ⟨rfl, hle2, hut⟩
     obtain ⟨bu, rfl⟩ := hut.ptr
     refine SX.br2 4 5 (by kernel_rfl) ?_ ?_
     ·refine SB.o (i := 4) rfl (SO.alloc zeroValue75) dC (.inr (by rintro _ _ _ ⟨b5, rfl, rfl, rfl⟩; exact ⟨by exact Le.trans (by assumption) (by assumption), (by exact .cons _ (.refl _))⟩)) ?_
      rintro _ _ _ ⟨b5, rfl, rfl, rfl⟩
      refine SX.br1 5 (by kernel_rfl) ?_
      ·refine SB.o (i := 5) rfl (SO.alloc zeroValue75) dC (.inr (by rintro _ _ _ ⟨b6, rfl, rfl, rfl⟩; exact ⟨by exact Le.trans (by assumption) (by assumption), (by exact .cons _ (.cons _ (.refl _)))⟩)) ?_
       rintro _ _ _ ⟨b6, rfl, rfl, rfl⟩
       refine SX.br1 6 (by kernel_rfl) ?_
       ·refine SB.on (i := 6) rfl (SO.storeAllK 1 sizeOf75 rfl rfl rfl rfl rfl (by exact ⟨rfl, trivial⟩)) (.inr (by rintro _ _ _ ⟨rfl, rfl⟩; exact ⟨by exact Le.trans (by assumption) (by assumption), (by exact .cons _ (.cons _ (.refl _)))⟩)) ?_
        rintro _ _ _ ⟨rfl, rfl⟩
        refine SX.br1 7 (by kernel_rfl) ?_
        ·refine SB.on (i := 7) rfl (SO.storeAllK 0 sizeOf75 rfl rfl rfl rfl rfl (by exact ⟨rfl, trivial⟩)) (.inr (by rintro _ _ _ ⟨rfl, rfl⟩; exact ⟨by exact Le.trans (by assumption) (by assumption), (by exact .cons _ (.cons _ (.refl _)))⟩)) ?_
         rintro _ _ _ ⟨rfl, rfl⟩
         refine SX.nil (by kernel_rfl) ?_
         first | exact ST.mid (b5, b6, pp bt 0, pp bu 0, g2) ⟨rfl, rfl, rfl, rfl, rfl, trivial⟩ rfl rfl ⟨hle1.trans hle2, ht.mono hle2, hut⟩ | (refine ST.perm (List.Perm.swap _ _ _) ?_; exact ST.mid (b5, b6, pp bt 0, pp bu 0, g2) ⟨rfl, rfl, rfl, rfl, rfl, trivial⟩ rfl rfl ⟨hle1.trans hle2, ht.mono hle2, hut⟩)
     ·refine SB.o (i := 5) rfl (SO.alloc zeroValue75) dC (.inr (by rintro _ _ _ ⟨b6, rfl, rfl, rfl⟩; exact ⟨by exact Le.trans (by assumption) (by assumption), (by exact .cons _ (.refl _))⟩)) ?_
      rintro _ _ _ ⟨b6, rfl, rfl, rfl⟩
      refine SX.br1 4 (by kernel_rfl) ?_
      ·refine SB.o (i := 4) rfl (SO.alloc zeroValue75) dC (.inr (by rintro _ _ _ ⟨b5, rfl, rfl, rfl⟩; exact ⟨by exact Le.trans (by assumption) (by assumption), (by exact .cons _ (.cons _ (.refl _)))⟩)) ?_
       rintro _ _ _ ⟨b5, rfl, rfl, rfl⟩
       refine SX.br1 6 (by kernel_rfl) ?_
       ·refine SB.on (i := 6) rfl (SO.storeAllK 0 sizeOf75 rfl rfl rfl rfl rfl (by exact ⟨rfl, trivial⟩)) (.inr (by rintro _ _ _ ⟨rfl, rfl⟩; exact ⟨by exact Le.trans (by assumption) (by assumption), (by exact .cons _ (.cons _ (.refl _)))⟩)) ?_
        rintro _ _ _ ⟨rfl, rfl⟩
        refine SX.br1 7 (by kernel_rfl) ?_
        ·refine SB.on (i := 7) rfl (SO.storeAllK 1 sizeOf75 rfl rfl rfl rfl rfl (by exact ⟨rfl, trivial⟩)) (.inr (by rintro _ _ _ ⟨rfl, rfl⟩; exact ⟨by exact Le.trans (by assumption) (by assumption), (by exact .cons _ (.cons _ (.refl _)))⟩)) ?_
         rintro _ _ _ ⟨rfl, rfl⟩
         refine SX.nil (by kernel_rfl) ?_
         first | exact ST.mid (b5, b6, pp bt 0, pp bu 0, g2) ⟨rfl, rfl, rfl, rfl, rfl, trivial⟩ rfl rfl ⟨hle1.trans hle2, ht.mono hle2, hut⟩ | (refine ST.perm (List.Perm.swap _ _ _) ?_; exact ST.mid (b5, b6, pp bt 0, pp bu 0, g2) ⟨rfl, rfl, rfl, rfl, rfl, trivial⟩ rfl rfl ⟨hle1.trans hle2, ht.mono hle2, hut⟩)
    ·refine SB.o (i := 4) rfl (SO.alloc zeroValue75) dC (.inr (by rintro _ _ _ ⟨b5, rfl, rfl, rfl⟩; exact ⟨by assumption, (by exact .cons _ (.refl _))⟩)) ?_
     rintro _ _ _ ⟨b5, rfl, rfl, rfl⟩
     refine SX.br2 3 5 (by kernel_rfl) ?_ ?_
     ·refine SB.o (i := 3) rfl (SO.call call50 rfl (of_spec E g1 _ _ b (hu.mono hle1) hb)) dC (.inr (by rintro uv g2 _ ⟨rfl, hle2, hut⟩; exact ⟨by exact Le.trans (by assumption) (by assumption), (by exact .cons _ (.refl _))⟩)) ?_
      rintro uv g2 _ ⟨rfl, hle2, hut⟩
      obtain ⟨bu, rfl⟩ := hut.ptr
      refine SX.br1 5 (by kernel_rfl) ?_
      ·refine SB.o (i := 5) rfl (SO.alloc zeroValue75) dC (.inr (by rintro _ _ _ ⟨b6, rfl, rfl, rfl⟩; exact ⟨by exact Le.trans (by assumption) (by assumption), (by exact .cons _ (.cons _ (.refl _)))⟩)) ?_
       rintro _ _ _ ⟨b6, rfl, rfl, rfl⟩
       refine SX.br1 6 (by kernel_rfl) ?_
       ·refine SB.on (i := 6) rfl (SO.storeAllK 1 sizeOf75 rfl rfl rfl rfl rfl (by exact ⟨rfl, trivial⟩)) (.inr (by rintro _ _ _ ⟨rfl, rfl⟩; exact ⟨by exact Le.trans (by assumption) (by assumption), (by exact .cons _ (.cons _ (.refl _)))⟩)) ?_
        rintro _ _ _ ⟨rfl, rfl⟩
        refine SX.br1 7 (by kernel_rfl) ?_
        ·refine SB.on (i := 7) rfl (SO.storeAllK 0 sizeOf75 rfl rfl rfl rfl rfl (by exact ⟨rfl, trivial⟩)) (.inr (by rintro _ _ _ ⟨rfl, rfl⟩; exact ⟨by exact Le.trans (by assumption) (by assumption), (by exact .cons _ (.cons _ (.refl _)))⟩)) ?_
         rintro _ _ _ ⟨rfl, rfl⟩
         refine SX.nil (by kernel_rfl) ?_
         first | exact ST.mid (b5, b6, pp bt 0, pp bu 0, g2) ⟨rfl, rfl, rfl, rfl, rfl, trivial⟩ rfl rfl ⟨hle1.trans hle2, ht.mono hle2, hut⟩ | (refine ST.perm (List.Perm.swap _ _ _) ?_; exact ST.mid (b5, b6, pp bt 0, pp bu 0, g2) ⟨rfl, rfl, rfl, rfl, rfl, trivial⟩ rfl rfl ⟨hle1.trans hle2, ht.mono hle2, hut⟩)
     ·refine SB.o (i := 5) rfl (SO.alloc zeroValue75) dC (.inr (by rintro _ _ _ ⟨b6, rfl, rfl, rfl⟩; exact ⟨by assumption, (by exact .cons _ (.cons _ (.refl _)))⟩)) ?_
      rintro _ _ _ ⟨b6, rfl, rfl, rfl⟩
      refine SX.br1 3 (by kernel_rfl) ?_
      ·refine SB.o (i := 3) rfl (SO.call call50 rfl (of_spec E g1 _ _ b (hu.mono hle1) hb)) dC (.inr (by rintro uv g2 _ ⟨rfl, hle2, hut⟩; exact ⟨by exact Le.trans (by assumption) (by assumption), (by exact .cons _ (.cons _ (.refl _)))⟩)) ?_
       rintro uv g2 _ ⟨rfl, hle2, hut⟩
       obtain ⟨bu, rfl⟩ := hut.ptr
       refine SX.br1 6 (by kernel_rfl) ?_
       ·refine SB.on (i := 6) rfl (SO.storeAllK 1 sizeOf75 rfl rfl rfl rfl rfl (by exact ⟨rfl, trivial⟩)) (.inr (by rintro _ _ _ ⟨rfl, rfl⟩; exact ⟨by exact Le.trans (by assumption) (by assumption), (by exact .cons _ (.cons _ (.refl _)))⟩)) ?_
        rintro _ _ _ ⟨rfl, rfl⟩
        refine SX.br1 7 (by kernel_rfl) ?_
        ·refine SB.on (i := 7) rfl (SO.storeAllK 0 sizeOf75 rfl rfl rfl rfl rfl (by exact ⟨rfl, trivial⟩)) (.inr (by rintro _ _ _ ⟨rfl, rfl⟩; exact ⟨by exact Le.trans (by assumption) (by assumption), (by exact .cons _ (.cons _ (.refl _)))⟩)) ?_
         rintro _ _ _ ⟨rfl, rfl⟩
         refine SX.nil (by kernel_rfl) ?_
         first | exact ST.mid (b5, b6, pp bt 0, pp bu 0, g2) ⟨rfl, rfl, rfl, rfl, rfl, trivial⟩ rfl rfl ⟨hle1.trans hle2, ht.mono hle2, hut⟩ | (refine ST.perm (List.Perm.swap _ _ _) ?_; exact ST.mid (b5, b6, pp bt 0, pp bu 0, g2) ⟨rfl, rfl, rfl, rfl, rfl, trivial⟩ rfl rfl ⟨hle1.trans hle2, ht.mono hle2, hut⟩)
    ·refine SB.o (i := 5) rfl (SO.alloc zeroValue75) dC (.inr (by rintro _ _ _ ⟨b6, rfl, rfl, rfl⟩; exact ⟨by assumption, (by exact .cons _ (.refl _))⟩)) ?_
     rintro _ _ _ ⟨b6, rfl, rfl, rfl⟩
     refine SX.br2 3 4 (by kernel_rfl) ?_ ?_
     ·refine SB.o (i := 3) rfl (SO.call call50 rfl (of_spec E g1 _ _ b (hu.mono hle1) hb)) dC (.inr (by rintro uv g2 _ ⟨rfl, hle2, hut⟩; exact ⟨by exact Le.trans (by assumption) (by assumption), (by exact .cons _ (.refl _))⟩)) ?_
      rintro uv g2 _ ⟨rfl, hle2, hut⟩
      obtain ⟨bu, rfl⟩ := hut.ptr
      refine SX.br1 4 (by kernel_rfl) ?_
      ·refine SB.o (i := 4) rfl (SO.alloc zeroValue75) dC (.inr (by rintro _ _ _ ⟨b5, rfl, rfl, rfl⟩; exact ⟨by exact Le.trans (by assumption) (by assumption), (by exact .cons _ (.cons _ (.refl _)))⟩)) ?_
       rintro _ _ _ ⟨b5, rfl, rfl, rfl⟩
       refine SX.br1 6 (by kernel_rfl) ?_
       ·refine SB.on (i := 6) rfl (SO.storeAllK 0 sizeOf75 rfl rfl rfl rfl rfl (by exact ⟨rfl, trivial⟩)) (.inr (by rintro _ _ _ ⟨rfl, rfl⟩; exact ⟨by exact Le.trans (by assumption) (by assumption), (by exact .cons _ (.cons _ (.refl _)))⟩)) ?_
        rintro _ _ _ ⟨rfl, rfl⟩
        refine SX.br1 7 (by kernel_rfl) ?_
        ·refine SB.on (i := 7) rfl (SO.storeAllK 1 sizeOf75 rfl rfl rfl rfl rfl (by exact ⟨rfl, trivial⟩)) (.inr (by rintro _ _ _ ⟨rfl, rfl⟩; exact ⟨by exact Le.trans (by assumption) (by assumption), (by exact .cons _ (.cons _ (.refl _)))⟩)) ?_
         rintro _ _ _ ⟨rfl, rfl⟩
         refine SX.nil (by kernel_rfl) ?_
         first | exact ST.mid (b5, b6, pp bt 0, pp bu 0, g2) ⟨rfl, rfl, rfl, rfl, rfl, trivial⟩ rfl rfl ⟨hle1.trans hle2, ht.mono hle2, hut⟩ | (refine ST.perm (List.Perm.swap _ _ _) ?_; exact ST.mid (b5, b6, pp bt 0, pp bu 0, g2) ⟨rfl, rfl, rfl, rfl, rfl, trivial⟩ rfl rfl ⟨hle1.trans hle2, ht.mono hle2, hut⟩)
     ·refine SB.o (i := 4) rfl (SO.alloc zeroValue75) dC (.inr (by rintro _ _ _ ⟨b5, rfl, rfl, rfl⟩; exact ⟨by assumption, (by exact .cons _ (.cons _ (.refl _)))⟩)) ?_
      rintro _ _ _ ⟨b5, rfl, rfl, rfl⟩
      refine SX.br1 3 (by kernel_rfl) ?_
      ·refine SB.o (i := 3) rfl (SO.call call50 rfl (of_spec E g1 _ _ b (hu.mono hle1) hb)) dC (.inr (by rintro uv g2 _ ⟨rfl, hle2, hut⟩; exact ⟨by exact Le.trans (by assumption) (by assumption), (by exact .cons _ (.cons _ (.refl _)))⟩)) ?_
       rintro uv g2 _ ⟨rfl, hle2, hut⟩
       obtain ⟨bu, rfl⟩ := hut.ptr
       refine SX.br1 6 (by kernel_rfl) ?_
       ·refine SB.on (i := 6) rfl (SO.storeAllK 0 sizeOf75 rfl rfl rfl rfl rfl (by exact ⟨rfl, trivial⟩)) (.inr (by rintro _ _ _ ⟨rfl, rfl⟩; exact ⟨by exact Le.trans (by assumption) (by assumption), (by exact .cons _ (.cons _ (.refl _)))⟩)) ?_
        rintro _ _ _ ⟨rfl, rfl⟩
        refine SX.br1 7 (by kernel_rfl) ?_
        ·refine SB.on (i := 7) rfl (SO.storeAllK 1 sizeOf75 rfl rfl rfl rfl rfl (by exact ⟨rfl, trivial⟩)) (.inr (by rintro _ _ _ ⟨rfl, rfl⟩; exact ⟨by exact Le.trans (by assumption) (by assumption), (by exact .cons _ (.cons _ (.refl _)))⟩)) ?_
         rintro _ _ _ ⟨rfl, rfl⟩
         refine SX.nil (by kernel_rfl) ?_
         first | exact ST.mid (b5, b6, pp bt 0, pp bu 0, g2) ⟨rfl, rfl, rfl, rfl, rfl, trivial⟩ rfl rfl ⟨hle1.trans hle2, ht.mono hle2, hut⟩ | (refine ST.perm (List.Perm.swap _ _ _) ?_; exact ST.mid (b5, b6, pp bt 0, pp bu 0, g2) ⟨rfl, rfl, rfl, rfl, rfl, trivial⟩ rfl rfl ⟨hle1.trans hle2, ht.mono hle2, hut⟩)
   ·refine SB.o (i := 4) rfl (SO.alloc zeroValue75) dC (.inr (by rintro _ _ _ ⟨b5, rfl, rfl, rfl⟩; exact ⟨by exact Le.refl _, (by exact .cons _ (.refl _))⟩)) ?_
    rintro _ _ _ ⟨b5, rfl, rfl, rfl⟩
    refine SX.br2 1 5 (by kernel_rfl) ?_ ?_
    ·refine SB.o (i := 1) rfl (SO.call call50 rfl (of_spec E g _ _ a hv ha)) dC (.inr (by rintro tv g1 _ ⟨rfl, hle1, ht⟩; exact ⟨by assumption, (by exact .cons _ (.refl _))⟩)) ?_
     rintro tv g1 _ ⟨rfl, hle1, ht⟩
     obtain ⟨bt, rfl⟩ := ht.ptr
     refine SX.br2 3 5 (by kernel_rfl) ?_ ?_
     ·refine SB.o (i := 3) rfl (SO.call call50 rfl (of_spec E g1 _ _ b (hu.mono hle1) hb)) dC (.inr (by rintro uv g2 _ ⟨rfl, hle2, hut⟩; exact ⟨by exact Le.trans (by assumption) (by assumption), (by exact .cons _ (.refl _))⟩)) ?_
      rintro uv g2 _ ⟨rfl, hle2, hut⟩
      obtain ⟨bu, rfl⟩ := hut.ptr
      refine SX.br1 5 (by kernel_rfl) ?_
      ·refine SB.o (i := 5) rfl (SO.alloc zeroValue75) dC (.inr (by rintro _ _ _ ⟨b6, rfl, rfl, rfl⟩; exact ⟨by exact Le.trans (by assumption) (by assumption), (by exact .cons _ (.cons _ (.refl _)))⟩)) ?_
       rintro _ _ _ ⟨b6, rfl, rfl, rfl⟩
       refine SX.br1 6 (by kernel_rfl) ?_
       ·refine SB.on (i := 6) rfl (SO.storeAllK 1 sizeOf75 rfl rfl rfl rfl rfl (by exact ⟨rfl, trivial⟩)) (.inr (by rintro _ _ _ ⟨rfl, rfl⟩; exact ⟨by exact Le.trans (by assumption) (by assumption), (by exact .cons _ (.cons _ (.refl _)))⟩)) ?_
        rintro _ _ _ ⟨rfl, rfl⟩
        refine SX.br1 7 (by kernel_rfl) ?_
        ·refine SB.on (i := 7) rfl (SO.storeAllK 0 sizeOf75 rfl rfl rfl rfl rfl (by exact ⟨rfl, trivial⟩)) (.inr (by rintro _ _ _ ⟨rfl, rfl⟩; exact ⟨by exact Le.trans (by assumption) (by assumption), (by exact .cons _ (.cons _ (.refl _)))⟩)) ?_
         rintro _ _ _ ⟨rfl, rfl⟩
         refine SX.nil (by kernel_rfl) ?_
         first | exact ST.mid (b5, b6, pp bt 0, pp bu 0, g2) ⟨rfl, rfl, rfl, rfl, rfl, trivial⟩ rfl rfl ⟨hle1.trans hle2, ht.mono hle2, hut⟩ | (refine ST.perm (List.Perm.swap _ _ _) ?_; exact ST.mid (b5, b6, pp bt 0, pp bu 0, g2) ⟨rfl, rfl, rfl, rfl, rfl, trivial⟩ rfl rfl ⟨hle1.trans hle2, ht.mono hle2, hut⟩)
     ·refine SB.o (i := 5) rfl (SO.alloc zeroValue75) dC (.inr (by rintro _ _ _ ⟨b6, rfl, rfl, rfl⟩; exact ⟨by assumption, (by exact .cons _ (.cons _ (.refl _)))⟩)) ?_
      rintro _ _ _ ⟨b6, rfl, rfl, rfl⟩
      refine SX.br1 3 (by kernel_rfl) ?_
      ·refine SB.o (i := 3) rfl (SO.call call50 rfl (of_spec E g1 _ _ b (hu.mono hle1) hb)) dC (.inr (by rintro uv g2 _ ⟨rfl, hle2, hut⟩; exact ⟨by exact Le.trans (by assumption) (by assumption), (by exact .cons _ (.cons _ (.refl _)))⟩)) ?_
       rintro uv g2 _ ⟨rfl, hle2, hut⟩
       obtain ⟨bu, rfl⟩ := hut.ptr
       refine SX.br1 6 (by kernel_rfl) ?_
       ·refine SB.on (i := 6) rfl (SO.storeAllK 1 sizeOf75 rfl rfl rfl rfl rfl (by exact ⟨rfl, trivial⟩)) (.inr (by rintro _ _ _ ⟨rfl, rfl⟩; exact ⟨by exact Le.trans (by assumption) (by assumption), (by exact .cons _ (.cons _ (.refl _)))⟩)) ?_
        rintro _ _ _ ⟨rfl, rfl⟩
        refine SX.br1 7 (by kernel_rfl) ?_
        ·refine SB.on (i := 7) rfl (SO.storeAllK 0 sizeOf75 rfl rfl rfl rfl rfl (by exact ⟨rfl, trivial⟩)) (.inr (by rintro _ _ _ ⟨rfl, rfl⟩; exact ⟨by exact Le.trans (by assumption) (by assumption), (by exact .cons _ (.cons _ (.refl _)))⟩)) ?_
         rintro _ _ _ ⟨rfl, rfl⟩
         refine SX.nil (by kernel_rfl) ?_
         first | exact ST.mid (b5, b6, pp bt 0, pp bu 0, g2) ⟨rfl, rfl, rfl, rfl, rfl, trivial⟩ rfl rfl ⟨hle1.trans hle2, ht.mono hle2, hut⟩ | (refine ST.perm (List.Perm.swap _ _ _) ?_; exact ST.mid (b5, b6, pp bt 0, pp bu 0, g2) ⟨rfl, rfl, rfl, rfl, rfl, trivial⟩ rfl rfl ⟨hle1.trans hle2, ht.mono hle2, hut⟩)
    ·refine SB.o (i := 5) rfl (SO.alloc zeroValue75) dC (.inr (by rintro _ _ _ ⟨b6, rfl, rfl, rfl⟩; exact ⟨by exact Le.refl _, (by exact .cons _ (.cons _ (.refl _)))⟩)) ?_
     rintro _ _ _ ⟨b6, rfl, rfl, rfl⟩
     refine SX.br1 1 (by kernel_rfl) ?_
     ·refine SB.o (i := 1) rfl (SO.call call50 rfl (of_spec E g _ _ a hv ha)) dC (.inr (by rintro tv g1 _ ⟨rfl, hle1, ht⟩; exact ⟨by assumption, (by exact .cons _ (.cons _ (.refl _)))⟩)) ?_
      rintro tv g1 _ ⟨rfl, hle1, ht⟩
      obtain ⟨bt, rfl⟩ := ht.ptr
      refine SX.br1 3 (by kernel_rfl) ?_
      ·refine SB.o (i := 3) rfl (SO.call call50 rfl (of_spec E g1 _ _ b (hu.mono hle1) hb)) dC (.inr (by rintro uv g2 _ ⟨rfl, hle2, hut⟩; exact ⟨by exact Le.trans (by assumption) (by assumption), (by exact .cons _ (.cons _ (.refl _)))⟩)) ?_
       rintro uv g2 _ ⟨rfl, hle2, hut⟩
       obtain ⟨bu, rfl⟩ := hut.ptr
       refine SX.br1 6 (by kernel_rfl) ?_
       ·refine SB.on (i := 6) rfl (SO.storeAllK 1 sizeOf75 rfl rfl rfl rfl rfl (by exact ⟨rfl, trivial⟩)) (.inr (by rintro _ _ _ ⟨rfl, rfl⟩; exact ⟨by exact Le.trans (by assumption) (by assumption), (by exact .cons _ (.cons _ (.refl _)))⟩)) ?_
        rintro _ _ _ ⟨rfl, rfl⟩
        refine SX.br1 7 (by kernel_rfl) ?_
        ·refine SB.on (i := 7) rfl (SO.storeAllK 0 sizeOf75 rfl rfl rfl rfl rfl (by exact ⟨rfl, trivial⟩)) (.inr (by rintro _ _ _ ⟨rfl, rfl⟩; exact ⟨by exact Le.trans (by assumption) (by assumption), (by exact .cons _ (.cons _ (.refl _)))⟩)) ?_
         rintro _ _ _ ⟨rfl, rfl⟩
         refine SX.nil (by kernel_rfl) ?_
         first | exact ST.mid (b5, b6, pp bt 0, pp bu 0, g2) ⟨rfl, rfl, rfl, rfl, rfl, trivial⟩ rfl rfl ⟨hle1.trans hle2, ht.mono hle2, hut⟩ | (refine ST.perm (List.Perm.swap _ _ _) ?_; exact ST.mid (b5, b6, pp bt 0, pp bu 0, g2) ⟨rfl, rfl, rfl, rfl, rfl, trivial⟩ rfl rfl ⟨hle1.trans hle2, ht.mono hle2, hut⟩)
   ·refine SB.o (i := 5) rfl (SO.alloc zeroValue75) dC (.inr (by rintro _ _ _ ⟨b6, rfl, rfl, rfl⟩; exact ⟨by exact Le.refl _, (by exact .cons _ (.refl _))⟩)) ?_
    rintro _ _ _ ⟨b6, rfl, rfl, rfl⟩
    refine SX.br2 1 4 (by kernel_rfl) ?_ ?_
    ·refine SB.o (i := 1) rfl (SO.call call50 rfl (of_spec E g _ _ a hv ha)) dC (.inr (by rintro tv g1 _ ⟨rfl, hle1, ht⟩; exact ⟨by assumption, (by exact .cons _ (.refl _))⟩)) ?_
     rintro tv g1 _ ⟨rfl, hle1, ht⟩
     obtain ⟨bt, rfl⟩ := ht.ptr
     refine SX.br2 3 4 (by kernel_rfl) ?_ ?_
     ·refine SB.o (i := 3) rfl (SO.call call50 rfl (of_spec E g1 _ _ b (hu.mono hle1) hb)) dC (.inr (by rintro uv g2 _ ⟨rfl, hle2, hut⟩; exact ⟨by exact Le.trans (by assumption) (by assumption), (by exact .cons _ (.refl _))⟩)) ?_
      rintro uv g2 _ ⟨rfl, hle2, hut⟩
      obtain ⟨bu, rfl⟩ := hut.ptr
      refine SX.br1 4 (by kernel_rfl) ?_
      ·refine SB.o (i := 4) rfl (SO.alloc zeroValue75) dC (.inr (by rintro _ _ _ ⟨b5, rfl, rfl, rfl⟩; exact ⟨by exact Le.trans (by assumption) (by assumption), (by exact .cons _ (.cons _ (.refl _)))⟩)) ?_
       rintro _ _ _ ⟨b5, rfl, rfl, rfl⟩
       refine SX.br1 6 (by kernel_rfl) ?_
       ·refine SB.on (i := 6) rfl (SO.storeAllK 0 sizeOf75 rfl rfl rfl rfl rfl (by exact ⟨rfl, trivial⟩)) (.inr (by rintro _ _ _ ⟨rfl, rfl⟩; exact ⟨by exact Le.trans (by assumption) (by assumption), (by exact .cons _ (.cons _ (.refl _)))⟩)) ?_
        rintro _ _ _ ⟨rfl, rfl⟩
        refine SX.br1 7 (by kernel_rfl) ?_
        ·refine SB.on (i := 7) rfl (SO.storeAllK 1 sizeOf75 rfl rfl rfl rfl rfl (by exact ⟨rfl, trivial⟩)) (.inr (by rintro _ _ _ ⟨rfl, rfl⟩; exact ⟨by exact Le.trans (by assumption) (by assumption), (by exact .cons _ (.cons _ (.refl _)))⟩)) ?_
         rintro _ _ _ ⟨rfl, rfl⟩
         refine SX.nil (by kernel_rfl) ?_
         first | exact ST.mid (b5, b6, pp bt 0, pp bu 0, g2) ⟨rfl, rfl, rfl, rfl, rfl, trivial⟩ rfl rfl ⟨hle1.trans hle2, ht.mono hle2, hut⟩ | (refine ST.perm (List.Perm.swap _ _ _) ?_; exact ST.mid (b5, b6, pp bt 0, pp bu 0, g2) ⟨rfl, rfl, rfl, rfl, rfl, trivial⟩ rfl rfl ⟨hle1.trans hle2, ht.mono hle2, hut⟩)
     ·refine SB.o (i := 4) rfl (SO.alloc zeroValue75) dC (.inr (by rintro _ _ _ ⟨b5, rfl, rfl, rfl⟩; exact ⟨by assumption, (by exact .cons _ (.cons _ (.refl _)))⟩)) ?_
      rintro _ _ _ ⟨b5, rfl, rfl, rfl⟩
      refine SX.br1 3 (by kernel_rfl) ?_
      ·refine SB.o (i := 3) rfl (SO.call call50 rfl (of_spec E g1 _ _ b (hu.mono hle1) hb)) dC (.inr (by rintro uv g2 _ ⟨rfl, hle2, hut⟩; exact ⟨by exact Le.trans (by assumption) (by assumption), (by exact .cons _ (.cons _ (.refl _)))⟩)) ?_
       rintro uv g2 _ ⟨rfl, hle2, hut⟩
       obtain ⟨bu, rfl⟩ := hut.ptr
       refine SX.br1 6 (by kernel_rfl) ?_
       ·refine SB.on (i := 6) rfl (SO.storeAllK 0 sizeOf75 rfl rfl rfl rfl rfl (by exact ⟨rfl, trivial⟩)) (.inr (by rintro _ _ _ ⟨rfl, rfl⟩; exact ⟨by exact Le.trans (by assumption) (by assumption), (by exact .cons _ (.cons _ (.refl _)))⟩)) ?_
        rintro _ _ _ ⟨rfl, rfl⟩
        refine SX.br1 7 (by kernel_rfl) ?_
        ·refine SB.on (i := 7) rfl (SO.storeAllK 1 sizeOf75 rfl rfl rfl rfl rfl (by exact ⟨rfl, trivial⟩)) (.inr (by rintro _ _ _ ⟨rfl, rfl⟩; exact ⟨by exact Le.trans (by assumption) (by assumption), (by exact .cons _ (.cons _ (.refl _)))⟩)) ?_
         rintro _ _ _ ⟨rfl, rfl⟩
         refine SX.nil (by kernel_rfl) ?_
         first | exact ST.mid (b5, b6, pp bt 0, pp bu 0, g2) ⟨rfl, rfl, rfl, rfl, rfl, trivial⟩ rfl rfl ⟨hle1.trans hle2, ht.mono hle2, hut⟩ | (refine ST.perm (List.Perm.swap _ _ _) ?_; exact ST.mid (b5, b6, pp bt 0, pp bu 0, g2) ⟨rfl, rfl, rfl, rfl, rfl, trivial⟩ rfl rfl ⟨hle1.trans hle2, ht.mono hle2, hut⟩)
    ·refine SB.o (i := 4) rfl (SO.alloc zeroValue75) dC (.inr (by rintro _ _ _ ⟨b5, rfl, rfl, rfl⟩; exact ⟨by exact Le.refl _, (by exact .cons _ (.cons _ (.refl _)))⟩)) ?_
     rintro _ _ _ ⟨b5, rfl, rfl, rfl⟩
     refine SX.br1 1 (by kernel_rfl) ?_
     ·refine SB.o (i := 1) rfl (SO.call call50 rfl (of_spec E g _ _ a hv ha)) dC (.inr (by rintro tv g1 _ ⟨rfl, hle1, ht⟩; exact ⟨by assumption, (by exact .cons _ (.cons _ (.refl _)))⟩)) ?_
      rintro tv g1 _ ⟨rfl, hle1, ht⟩
      obtain ⟨bt, rfl⟩ := ht.ptr
      refine SX.br1 3 (by kernel_rfl) ?_
      ·refine SB.o (i := 3) rfl (SO.call call50 rfl (of_spec E g1 _ _ b (hu.mono hle1) hb)) dC (.inr (by rintro uv g2 _ ⟨rfl, hle2, hut⟩; exact ⟨by exact Le.trans (by assumption) (by assumption), (by exact .cons _ (.cons _ (.refl _)))⟩)) ?_
       rintro uv g2 _ ⟨rfl, hle2, hut⟩
       obtain ⟨bu, rfl⟩ := hut.ptr
       refine SX.br1 6 (by kernel_rfl) ?_
       ·refine SB.on (i := 6) rfl (SO.storeAllK 0 sizeOf75 rfl rfl rfl rfl rfl (by exact ⟨rfl, trivial⟩)) (.inr (by rintro _ _ _ ⟨rfl, rfl⟩; exact ⟨by exact Le.trans (by assumption) (by assumption), (by exact .cons _ (.cons _ (.refl _)))⟩)) ?_
        rintro _ _ _ ⟨rfl, rfl⟩
        refine SX.br1 7 (by kernel_rfl) ?_
        ·refine SB.on (i := 7) rfl (SO.storeAllK 1 sizeOf75 rfl rfl rfl rfl rfl (by exact ⟨rfl, trivial⟩)) (.inr (by rintro _ _ _ ⟨rfl, rfl⟩; exact ⟨by exact Le.trans (by assumption) (by assumption), (by exact .cons _ (.cons _ (.refl _)))⟩)) ?_
         rintro _ _ _ ⟨rfl, rfl⟩
         refine SX.nil (by kernel_rfl) ?_
         first | exact ST.mid (b5, b6, pp bt 0, pp bu 0, g2) ⟨rfl, rfl, rfl, rfl, rfl, trivial⟩ rfl rfl ⟨hle1.trans hle2, ht.mono hle2, hut⟩ | (refine ST.perm (List.Perm.swap _ _ _) ?_; exact ST.mid (b5, b6, pp bt 0, pp bu 0, g2) ⟨rfl, rfl, rfl, rfl, rfl, trivial⟩ rfl rfl ⟨hle1.trans hle2, ht.mono hle2, hut⟩)
  rintro ⟨b5, b6, tv, uv, g2⟩ ⟨hle, ht, hut⟩
  dsimp only at hle ht hut ⊢
  obtain ⟨hca, hcb, hml⟩ := prodBad_no hbad
  have hla := check_len hca
  have hlb := check_len hcb
  have hfa := check_form hca
  have hfb := check_form hcb
  have hta : (tabC a).length ≤ 4000 := Nat.le_trans (tabC_length a) hla
  have htb : (tabC b).length ≤ 4000 := Nat.le_trans (tabC_length b) hlb
  refine SC.freeze fun g3 hl3 hb6 => ?_
  refine SC.freeze fun g4 hl4 hb5 => ?_
  have hle4 := hle.trans (hl3.trans hl4)
  have ht4 := ht.mono (hl3.trans hl4)
  have hut4 := hut.mono (hl3.trans hl4)
  have hb64 := hl4 _ _ hb6
  have hid : ∀ (g' : PH) (s' : Own) (x y : Int), Le g4 g' → CallV Tryz.prog E (.func (.func 58) #[] #[pp b5 0, pp b6 0]) [vi x, vi y] g' s' (fun r g'' s'' => r = vi (prodId (tabC a) (tabC b) x y) ∧ g' = g'' ∧ s' = s'') := fun g' s' x y h => prodId_spec E g' s' b5 b6 tv uv (tabC a) (tabC b) x y (ht4.mono h) (hut4.mono h) (h _ _ hb5) (h _ _ hb64) (tabC_sorted a) (tabC_sorted b) hta htb
  refine SC.seq (SC.region (SL.U (SU.mkFunc rfl) (SL.A rfl (SL.nil (ST.thenN (SC.seq (SC.region (SL.W (SO.alloc zeroValue27) ?_))))))))
  rintro _ _ _ ⟨b8, rfl, rfl, rfl⟩
  refine SL.nil (ST.thenN (SC.seq (SC.seq (SC.region (SL.K (SQ.loadVarK 3 isAgg27 sizeOf27 rfl rfl rfl) (SL.W (SO.call call30 rfl (canon_spec E g4 _ _ a (hv.mono hle4) ha)) ?_))))))
  rintro _ g5 _ ⟨rfl, hle5, ua, rfl, ra, hra, halla⟩
  obtain ⟨qa, da, rfl⟩ := hra.form
  refine SL.U (SU.field underlying27 rfl isAgg25 rfl rfl) (SL.U (SU.lenN underlying25 rfl) (SL.M rfl (SL.nil (ST.thenN (SC.block ?_)))))
  have hlena := halla.length
  have hral : ra.length ≤ 4000 := by rw [← hlena, canonC_length]; exact hla
  refine SC.nilRow 51 3 ?_
  refine SC.loop (ι := Nat × Value × List Rc × PH) (fun i => [(2, pp b2 0), (3, pp b3 0), (4, pp b4 0), (7, (.func (.func 58) #[] #[pp b5 0, pp b6 0])), (8, pp b8 0), (44, .slice qa ra.length da), (45, vi ra.length), (46, vi i.1)]) (fun i => i.2.2.2)
   (fun i => rowA encCell 51 i.2.1 i.2.2.1 :: pt b8 (.cells #[i.2.1] 27 (0, 0)) :: pt b4 (.cells #[.slice none 0 0] 27 (0, 0)) :: pt b3 (.cells #[.slice p2 b.length c2] 27 (0, 0)) :: pt b2 (.cells #[.slice p1 a.length c1] 27 (0, 0)) :: s)
   (fun i => i.1 ≤ ra.length ∧ Le g5 i.2.2.2 ∧ All2 (CellR i.2.2.2) (((canonC a).take i.1).flatMap fun x => (canonC b).map (prodCell (tabC a) (tabC b) x)) i.2.2.1) (fun i => ra.length - i.1) (0, .slice none 0 0, [], g5)
   ⟨rfl, rfl, rfl, rfl, rfl, rfl, rfl, rfl, trivial⟩ rfl rfl ⟨Nat.zero_le _, Le.refl _, by simp [All2]⟩ ?_
  rintro ⟨k, ov0, acc0, g6⟩ ⟨hk, hle6, hacc0⟩
  dsimp only at hk hle6 hacc0 ⊢
  refine SC.seq (SC.region (SL.U (SU.lss rfl rfl) (SL.nil (ST.thenN (SC.seq ?_)))))
  refine SC.ifP rfl (fun hlt => ?_) (fun hlt => ?_)
  ·have hkr : k < ra.length := oM
   have hkc : k < (canonC a).length := oM
   have hba := hra.based oM
   have hcr := (halla.get (List.getElem?_eq_getElem hkc) (List.getElem?_eq_getElem hkr)).mono hle6
   have hgx : ra[((k : Nat) : Int).toNat]? = some ra[k] := List.getElem?_eq_getElem hkr
   have htk : (canonC a).take (k + 1) = (canonC a).take k ++ [(canonC a)[k]] := List.take_succ_eq_append_getElem hkc
   have hxf := hfa _ (List.getElem_mem hkc)
   generalize ra[k] = x at *
   generalize (canonC a)[k] = cx at *
   obtain ⟨hxl, hxs⟩ := form_ok hxf
   have hxd := form_dim hxf
   obtain ⟨xi, xd, xp, xn, xc⟩ := x
   have hxi : xi = cx.id := hcr.1
   have hxdd : xd = cx.dim := hcr.2.1
   have hxsl : SlA encSide g6 (.slice xp xn xc) cx.sides := hcr.2.2
   have hxn : xn = cx.sides.length := Sl.slen hxsl
   subst hxi hxdd hxn
   refine SC.skip (ST.thenN (SC.seq (SC.block (SC.seq (SC.region (SL.U (SU.indexAddr underlying25 sizeOf51 rfl rfl hba oM sL) (SL.K (SQ.elemA isAgg51 sizeOf51 rfl (hra.mono hle6).rd hgx) (SL.W (SO.alloc zeroValue51) ?_))))))))
   rintro _ _ _ ⟨b10, rfl, rfl, rfl⟩
   refine SL.on (SO.storeAllK 0 sizeOf51 rfl rfl rfl rfl rfl (by exact ⟨rfl, rfl, rfl, trivial⟩)) ?_
   rintro _ _ _ ⟨rfl, rfl⟩
   refine SL.nil (ST.thenN (SC.seq (SC.region (SL.K (SQ.loadVarK 4 isAgg27 sizeOf27 rfl rfl rfl) (SL.W (SO.call call30 rfl (canon_spec E g6 _ _ b (hu.mono (hle4.trans (hle5.trans hle6))) hb)) ?_)))))
   rintro _ g7 _ ⟨rfl, hle7, ub, rfl, rb, hrb, hallb⟩
   obtain ⟨qb, db, rfl⟩ := hrb.form
   refine SL.U (SU.field underlying27 rfl isAgg25 rfl rfl) (SL.U (SU.lenN underlying25 rfl) (SL.M rfl (SL.nil (ST.thenN (SC.block ?_)))))
   have hlenb := hallb.length
   have hrbl : rb.length ≤ 4000 := by rw [← hlenb, canonC_length]; exact hlb
   refine SC.loop (ι := Nat × Value × List Rc × PH) (fun i => [(2, pp b2 0), (3, pp b3 0), (4, pp b4 0), (7, (.func (.func 58) #[] #[pp b5 0, pp b6 0])), (8, pp b8 0), (44, .slice qa ra.length da), (45, vi ra.length), (46, vi k), (10, pp b10 0), (52, .slice qb rb.length db), (53, vi rb.length), (54, vi i.1)]) (fun i => i.2.2.2)
    (fun i => pt b10 (.cells #[vi cx.id, vi cx.dim, .slice xp cx.sides.length xc] 51 (0, 0)) :: rowA encCell 51 i.2.1 i.2.2.1 :: pt b8 (.cells #[i.2.1] 27 (0, 0)) :: pt b4 (.cells #[.slice none 0 0] 27 (0, 0)) :: pt b3 (.cells #[.slice p2 b.length c2] 27 (0, 0)) :: pt b2 (.cells #[.slice p1 a.length c1] 27 (0, 0)) :: s)
    (fun i => i.1 ≤ rb.length ∧ Le g7 i.2.2.2 ∧ All2 (CellR i.2.2.2) ((((canonC a).take k).flatMap fun x => (canonC b).map (prodCell (tabC a) (tabC b) x)) ++ ((canonC b).take i.1).map (prodCell (tabC a) (tabC b) cx)) i.2.2.1) (fun i => rb.length - i.1) (0, ov0, acc0, g7)
    ⟨rfl, rfl, rfl, rfl, rfl, rfl, rfl, rfl, rfl, rfl, rfl, rfl, trivial⟩ rfl rfl ⟨Nat.zero_le _, Le.refl _, by simpa using hacc0.mono fun _ _ => CellR.mono hle7⟩ ?_
   rintro ⟨j, ov1, acc1, g8⟩ ⟨hj, hle8, hacc1⟩
   dsimp only at hj hle8 hacc1 ⊢
   refine SC.seq (SC.region (SL.U (SU.lss rfl rfl) (SL.nil (ST.thenN (SC.seq ?_)))))
   refine SC.ifP rfl (fun hlt2 => ?_) (fun hlt2 => ?_)
   ·have hjr : j < rb.length := oM
    have hjc : j < (canonC b).length := oM
    have hbb := hrb.based oM
    have hcr2 := (hallb.get (List.getElem?_eq_getElem hjc) (List.getElem?_eq_getElem hjr)).mono hle8
    have hgy : rb[((j : Nat) : Int).toNat]? = some rb[j] := List.getElem?_eq_getElem hjr
    have htj : (canonC b).take (j + 1) = (canonC b).take j ++ [(canonC b)[j]] := List.take_succ_eq_append_getElem hjc
    have hyf := hfb _ (List.getElem_mem hjc)
    generalize rb[j] = y at *
    generalize (canonC b)[j] = cy at *
    obtain ⟨hyl, hys⟩ := form_ok hyf
    have hyd := form_dim hyf
    obtain ⟨yi, yd, yp, yn, yc⟩ := y
    have hyi : yi = cy.id := hcr2.1
    have hydd : yd = cy.dim := hcr2.2.1
    have hysl : SlA encSide g8 (.slice yp yn yc) cy.sides := hcr2.2.2
    have hyn : yn = cy.sides.length := Sl.slen hysl
    subst hyi hydd hyn
    have hxsl8 := hxsl.mono (hle7.trans hle8)
    have hle48 : Le g4 g8 := hle5.trans (hle6.trans (hle7.trans hle8))
    refine SC.skip (ST.thenN (SC.seq (SC.block (SC.seq (SC.region (SL.U (SU.indexAddr underlying25 sizeOf51 rfl rfl hbb oM sL) (SL.K (SQ.elemA isAgg51 sizeOf51 rfl (hrb.mono hle8).rd hgy) (SL.W (SO.alloc zeroValue51) ?_))))))))
    rintro _ _ _ ⟨b12, rfl, rfl, rfl⟩
    refine SL.on (SO.storeAllK 0 sizeOf51 rfl rfl rfl rfl rfl (by exact ⟨rfl, rfl, rfl, trivial⟩)) ?_
    rintro _ _ _ ⟨rfl, rfl⟩
    refine SL.nil (ST.thenN ?_)
    refine SC.cut (ι := Nat) (fun b13 => [(2, pp b2 0), (3, pp b3 0), (4, pp b4 0), (7, (.func (.func 58) #[] #[pp b5 0, pp b6 0])), (8, pp b8 0), (44, .slice qa ra.length da), (45, vi ra.length), (46, vi k), (10, pp b10 0), (52, .slice qb rb.length db), (53, vi rb.length), (54, vi j), (12, pp b12 0), (13, pp b13 0)]) (fun _ => g8) (fun b13 => pt b13 (.cells #[vi (prodId (tabC a) (tabC b) cx.id cy.id), vi (cx.dim + cy.dim), .slice none 0 0] 51 (0, 0)) :: pt b12 (.cells #[vi cy.id, vi cy.dim, .slice yp cy.sides.length yc] 51 (0, 0)) :: pt b10 (.cells #[vi cx.id, vi cx.dim, .slice xp cx.sides.length xc] 51 (0, 0)) :: rowA encCell 51 ov1 acc1 :: pt b8 (.cells #[ov1] 27 (0, 0)) :: pt b4 (.cells #[.slice none 0 0] 27 (0, 0)) :: pt b3 (.cells #[.slice p2 b.length c2] 27 (0, 0)) :: pt b2 (.cells #[.slice p1 a.length c1] 27 (0, 0)) :: s) (fun _ => True) ?_ ?_
    ·refine SC.drawX [] Tryz.mixed (by kernel_rfl) ?_
     refine SX.u (i := 0) rfl (by kernel_rfl) (SU.move rfl) dC (SX.u (i := 1) rfl (by kernel_rfl) (SU.fieldAddr underlying51 rfl sizeOf3 rfl) dC (SX.q (i := 2) rfl (by kernel_rfl) (SQ.load isAgg3 rfl (CellAt.own 1 rfl rfl)) dC (SX.u (i := 3) rfl (by kernel_rfl) (SU.fieldAddr underlying51 rfl sizeOf3 rfl) dC (SX.q (i := 4) rfl (by kernel_rfl) (SQ.load isAgg3 rfl (CellAt.own 0 rfl rfl)) dC (SX.u (i := 6) rfl (by kernel_rfl) (SU.fieldAddr underlying51 rfl sizeOf3 rfl) dC (SX.q (i := 7) rfl (by kernel_rfl) (SQ.load isAgg3 rfl (CellAt.own 1 rfl rfl)) dC (SX.u (i := 8) rfl (by kernel_rfl) (SU.fieldAddr underlying51 rfl sizeOf3 rfl) dC (SX.q (i := 9) rfl (by kernel_rfl) (SQ.load isAgg3 rfl (CellAt.own 0 rfl rfl)) dC (SX.u (i := 10) rfl (by kernel_rfl) (SU.add (m := cx.dim) (n := cy.dim) rfl rfl oM) dC ?_)))))))))
     refine SX.br2 5 12 (by kernel_rfl) ?_ ?_
     ·refine SB.o (i := 5) rfl (SO.callV rfl rfl (hid g8 _ cx.id cy.id hle48)) dC (.inr (by rintro _ _ _ ⟨rfl, rfl, rfl⟩; exact ⟨by exact Le.refl _, (by exact .refl _)⟩)) ?_
      rintro _ _ _ ⟨rfl, rfl, rfl⟩
      refine SX.u (i := 11) rfl (by kernel_rfl) (SU.build rfl (buildC51 _ _)) dC ?_
      refine SX.br1 12 (by kernel_rfl) ?_
      ·refine SB.o (i := 12) rfl (SO.alloc zeroValue51) dC (.inr (by rintro _ _ _ ⟨b13, rfl, rfl, rfl⟩; exact ⟨by exact Le.refl _, (by exact .cons _ (.refl _))⟩)) ?_
       rintro _ _ _ ⟨b13, rfl, rfl, rfl⟩
       refine SX.br1 13 (by kernel_rfl) ?_
       ·refine SB.on (i := 13) rfl (SO.storeAllK 0 sizeOf51 rfl rfl rfl rfl rfl (by exact ⟨rfl, rfl, rfl, trivial⟩)) (.inr (by rintro _ _ _ ⟨rfl, rfl⟩; exact ⟨by exact Le.refl _, (by exact .cons _ (.refl _))⟩)) ?_
        rintro _ _ _ ⟨rfl, rfl⟩
        refine SX.nil (by kernel_rfl) ?_
        exact ST.mid b13 ⟨rfl, rfl, rfl, rfl, rfl, rfl, rfl, rfl, rfl, rfl, rfl, rfl, rfl, rfl, trivial⟩ rfl rfl trivial
     ·refine SB.o (i := 12) rfl (SO.alloc zeroValue51) dC (.inr (by rintro _ _ _ ⟨b13, rfl, rfl, rfl⟩; exact ⟨by exact Le.refl _, (by exact .cons _ (.refl _))⟩)) ?_
      rintro _ _ _ ⟨b13, rfl, rfl, rfl⟩
      refine SX.br1 5 (by kernel_rfl) ?_
      ·refine SB.o (i := 5) rfl (SO.callV rfl rfl (hid g8 _ cx.id cy.id hle48)) dC (.inr (by rintro _ _ _ ⟨rfl, rfl, rfl⟩; exact ⟨by exact Le.refl _, (by exact .cons _ (.refl _))⟩)) ?_
       rintro _ _ _ ⟨rfl, rfl, rfl⟩
       refine SX.u (i := 11) rfl (by kernel_rfl) (SU.build rfl (buildC51 _ _)) dC ?_
       refine SX.br1 13 (by kernel_rfl) ?_
       ·refine SB.on (i := 13) rfl (SO.storeAllK 0 sizeOf51 rfl rfl rfl rfl rfl (by exact ⟨rfl, rfl, rfl, trivial⟩)) (.inr (by rintro _ _ _ ⟨rfl, rfl⟩; exact ⟨by exact Le.refl _, (by exact .cons _ (.refl _))⟩)) ?_
        rintro _ _ _ ⟨rfl, rfl⟩
        refine SX.nil (by kernel_rfl) ?_
        exact ST.mid b13 ⟨rfl, rfl, rfl, rfl, rfl, rfl, rfl, rfl, rfl, rfl, rfl, rfl, rfl, rfl, trivial⟩ rfl rfl trivial
    rintro b13 -
    try dsimp only
    refine SC.nilRow 55 2 ?_
    refine SC.cut (ι := Value) (fun _ => [(2, pp b2 0), (3, pp b3 0), (4, pp b4 0), (7, (.func (.func 58) #[] #[pp b5 0, pp b6 0])), (8, pp b8 0), (44, .slice qa ra.length da), (45, vi ra.length), (46, vi k), (10, pp b10 0), (52, .slice qb rb.length db), (53, vi rb.length), (54, vi j), (12, pp b12 0), (13, pp b13 0)]) (fun _ => g8) (fun zv => rowA encSide 55 zv (cx.sides.map (fun q : Side => (⟨prodId (tabC a) (tabC b) q.cell cy.id, q.sign⟩ : Side))) :: pt b13 (.cells #[vi (prodId (tabC a) (tabC b) cx.id cy.id), vi (cx.dim + cy.dim), zv] 51 (0, 0)) :: pt b12 (.cells #[vi cy.id, vi cy.dim, .slice yp cy.sides.length yc] 51 (0, 0)) :: pt b10 (.cells #[vi cx.id, vi cx.dim, .slice xp cx.sides.length xc] 51 (0, 0)) :: rowA encCell 51 ov1 acc1 :: pt b8 (.cells #[ov1] 27 (0, 0)) :: pt b4 (.cells #[.slice none 0 0] 27 (0, 0)) :: pt b3 (.cells #[.slice p2 b.length c2] 27 (0, 0)) :: pt b2 (.cells #[.slice p1 a.length c1] 27 (0, 0)) :: s) (fun _ => True) ?_ ?_
    ·refine SC.seq (SC.region (SL.U (SU.fieldAddr underlying51 rfl sizeOf49 rfl) (SL.K (SQ.load isAgg49 rfl (CellAt.own 3 rfl rfl)) (SL.U (SU.lenN underlying49 rfl) (SL.M rfl (SL.nil (ST.thenN (SC.block ?_))))))))
     refine SC.loop (ι := Nat × Value) (fun i => [(2, pp b2 0), (3, pp b3 0), (4, pp b4 0), (7, (.func (.func 58) #[] #[pp b5 0, pp b6 0])), (8, pp b8 0), (44, .slice qa ra.length da), (45, vi ra.length), (46, vi k), (10, pp b10 0), (52, .slice qb rb.length db), (53, vi rb.length), (54, vi j), (12, pp b12 0), (13, pp b13 0), (71, .slice xp cx.sides.length xc), (72, vi cx.sides.length), (73, vi i.1)]) (fun _ => g8) (fun i => rowA encSide 55 i.2 ((cx.sides.take i.1).map (fun q : Side => (⟨prodId (tabC a) (tabC b) q.cell cy.id, q.sign⟩ : Side))) :: pt b13 (.cells #[vi (prodId (tabC a) (tabC b) cx.id cy.id), vi (cx.dim + cy.dim), i.2] 51 (0, 0)) :: pt b12 (.cells #[vi cy.id, vi cy.dim, .slice yp cy.sides.length yc] 51 (0, 0)) :: pt b10 (.cells #[vi cx.id, vi cx.dim, .slice xp cx.sides.length xc] 51 (0, 0)) :: rowA encCell 51 ov1 acc1 :: pt b8 (.cells #[ov1] 27 (0, 0)) :: pt b4 (.cells #[.slice none 0 0] 27 (0, 0)) :: pt b3 (.cells #[.slice p2 b.length c2] 27 (0, 0)) :: pt b2 (.cells #[.slice p1 a.length c1] 27 (0, 0)) :: s) (fun i => i.1 ≤ cx.sides.length) (fun i => cx.sides.length - i.1) (0, .slice none 0 0)
      ⟨rfl, rfl, rfl, rfl, rfl, rfl, rfl, rfl, rfl, rfl, rfl, rfl, rfl, rfl, rfl, rfl, rfl, trivial⟩ rfl rfl (Nat.zero_le _) ?_
     rintro ⟨m, zv⟩ hm
     dsimp only at hm ⊢
     refine SC.seq (SC.region (SL.U (SU.lss rfl rfl) (SL.nil (ST.thenN (SC.seq ?_)))))
     refine SC.ifP rfl (fun hlt3 => ?_) (fun hlt3 => ?_)
     ·have hml : m < cx.sides.length := oM
      have hbx := hxsl8.based oM
      have hgs : cx.sides[((m : Nat) : Int).toNat]? = some cx.sides[m] := List.getElem?_eq_getElem hml
      have htm : cx.sides.take (m + 1) = cx.sides.take m ++ [cx.sides[m]] := List.take_succ_eq_append_getElem hml
      have hzl : ((cx.sides.take m).map (fun q : Side => (⟨prodId (tabC a) (tabC b) q.cell cy.id, q.sign⟩ : Side))).length = m := by simp; omega
      generalize cx.sides[m] = e at *
      refine SC.skip (ST.thenN (SC.seq (SC.block (SC.seq (SC.region (SL.U (SU.indexAddr underlying49 sizeOf55 rfl rfl hbx oM sL) (SL.K (SQ.elemA isAgg55 sizeOf55 rfl hxsl8.rd hgs) (SL.W (SO.alloc zeroValue55) ?_))))))))
      rintro _ _ _ ⟨b15, rfl, rfl, rfl⟩
      refine SL.on (SO.storeAllK 0 sizeOf55 rfl rfl rfl rfl rfl (by exact ⟨rfl, rfl, trivial⟩)) ?_
      rintro _ _ _ ⟨rfl, rfl⟩
      refine SL.nil (ST.thenN ?_)
      refine SC.draw [12, 13, 14] [(0, 2), (1, 1), (2, 2), (3, 2), (4, 1), (5, 2), (6, 1), (8, 2), (9, 1), (7, 0), (10, 2), (11, 0), (12, 0), (13, 0), (14, 0)] Tryz.mixed (by kernel_rfl) ?_
      refine SP.U (i := 0) rfl (SU.fieldAddr underlying51 rfl sizeOf49 rfl) (SP.K (i := 1) rfl (SQ.load isAgg49 rfl (CellAt.own 2 rfl rfl)) (SP.U (i := 2) rfl (SU.move rfl) (SP.U (i := 3) rfl (SU.fieldAddr underlying55 rfl sizeOf3 rfl) (SP.K (i := 4) rfl (SQ.load isAgg3 rfl (CellAt.own 0 rfl rfl)) (SP.U (i := 5) rfl (SU.fieldAddr underlying51 rfl sizeOf3 rfl) (SP.K (i := 6) rfl (SQ.load isAgg3 rfl (CellAt.own 3 rfl rfl)) (SP.U (i := 8) rfl (SU.fieldAddr underlying55 rfl sizeOf3 rfl) (SP.K (i := 9) rfl (SQ.load isAgg3 rfl (CellAt.own 0 rfl rfl)) (SP.o (i := 7) rfl (SO.callV rfl rfl (hid g8 _ e.cell cy.id hle48)) dC (.inr (by rintro _ _ _ ⟨rfl, rfl, rfl⟩; exact ⟨by exact Le.refl _, (by exact .refl _)⟩)) ?_)))))))))
      rintro _ _ _ ⟨rfl, rfl, rfl⟩
      refine SP.U (i := 10) rfl (SU.build rfl (buildS55 _ _)) (SP.o (i := 11) rfl (SO.buildSlice sty49 rfl rfl rfl (szs_mk (by exact ⟨rfl, trivial⟩)) dC) dC (.inr (by rintro _ _ _ ⟨b88, rfl, rfl, rfl⟩; exact ⟨by exact Le.refl _, (by exact .cons _ (.refl _))⟩)) ?_)
      rintro _ _ _ ⟨b88, rfl, rfl, rfl⟩
      refine SP.o (i := 12) rfl (SO.app1 1 (((cx.sides.take (m + 1)).map (fun q : Side => (⟨prodId (tabC a) (tabC b) q.cell cy.id, q.sign⟩ : Side))).flatMap encSide.enc) ((cx.sides.take (m + 1)).map (fun q : Side => (⟨prodId (tabC a) (tabC b) q.cell cy.id, q.sign⟩ : Side))).length sty49 rfl rfl rfl rfl rfl ⟨rfl, rfl, trivial⟩ (by rw [htm]; simp [encSide]; rfl) (by rw [htm]; simp) lN lN) dC (.inl dC) ?_
      rintro zv' _ _ ⟨rfl, rfl⟩
      refine SP.facts fun ⟨w0, hw0⟩ => ?_
      obtain ⟨q', d', rfl⟩ := rowA_form (e := encSide) (l := (cx.sides.take (m + 1)).map (fun q : Side => (⟨prodId (tabC a) (tabC b) q.cell cy.id, q.sign⟩ : Side))) (i := 1) hw0 rfl
      clear hw0 w0
      refine SP.ou (i := 13) rfl (SU.fieldAddr underlying51 rfl sizeOf49 rfl) dC (.inl dC) (SP.on (i := 14) rfl (SO.store1 2 sizeOf49 rfl rfl rfl rfl (Nat.le_of_ble_eq_true rfl) (by rfl)) (.inl dC) ?_)
      rintro _ _ _ ⟨rfl, rfl⟩
      refine SP.nil (ST.blockN (ST.thenN (SC.region (SL.U (SU.add rfl rfl oM) (SL.M rfl (SL.nil (ST.drop (.cons _ (.refl _)) ?_)))))))
      exact ST.again (m + 1, .slice q' ((cx.sides.take (m + 1)).map (fun q : Side => (⟨prodId (tabC a) (tabC b) q.cell cy.id, q.sign⟩ : Side))).length d') ⟨rfl, rfl, rfl, rfl, rfl, rfl, rfl, rfl, rfl, rfl, rfl, rfl, rfl, rfl, rfl, rfl, rfl, trivial⟩ rfl rfl lN lN
     ·refine SC.exit (ST.thenX (ST.thenX (ST.blockX ?_)))
      have hmm : cx.sides.take m = cx.sides := List.take_of_length_le oM
      rw [hmm]
      exact ST.mid zv ⟨rfl, rfl, rfl, rfl, rfl, rfl, rfl, rfl, rfl, rfl, rfl, rfl, rfl, rfl, trivial⟩ rfl rfl trivial
    rintro zv1 -
    try dsimp only
    refine SC.cut (ι := Value) (fun _ => [(2, pp b2 0), (3, pp b3 0), (4, pp b4 0), (7, (.func (.func 58) #[] #[pp b5 0, pp b6 0])), (8, pp b8 0), (44, .slice qa ra.length da), (45, vi ra.length), (46, vi k), (10, pp b10 0), (52, .slice qb rb.length db), (53, vi rb.length), (54, vi j), (12, pp b12 0), (13, pp b13 0)]) (fun _ => g8) (fun zv => rowA encSide 55 zv (cx.sides.map (fun q : Side => (⟨prodId (tabC a) (tabC b) q.cell cy.id, q.sign⟩ : Side)) ++ cy.sides.map (fun q : Side => (⟨prodId (tabC a) (tabC b) cx.id q.cell, signC cx.dim * q.sign⟩ : Side))) :: pt b13 (.cells #[vi (prodId (tabC a) (tabC b) cx.id cy.id), vi (cx.dim + cy.dim), zv] 51 (0, 0)) :: pt b12 (.cells #[vi cy.id, vi cy.dim, .slice yp cy.sides.length yc] 51 (0, 0)) :: pt b10 (.cells #[vi cx.id, vi cx.dim, .slice xp cx.sides.length xc] 51 (0, 0)) :: rowA encCell 51 ov1 acc1 :: pt b8 (.cells #[ov1] 27 (0, 0)) :: pt b4 (.cells #[.slice none 0 0] 27 (0, 0)) :: pt b3 (.cells #[.slice p2 b.length c2] 27 (0, 0)) :: pt b2 (.cells #[.slice p1 a.length c1] 27 (0, 0)) :: s) (fun _ => True) ?_ ?_
    ·refine SC.seq (SC.region (SL.U (SU.fieldAddr underlying51 rfl sizeOf49 rfl) (SL.K (SQ.load isAgg49 rfl (CellAt.own 2 rfl rfl)) (SL.U (SU.lenN underlying49 rfl) (SL.M rfl (SL.nil (ST.thenN (SC.block ?_))))))))
     refine SC.loop (ι := Nat × Value) (fun i => [(2, pp b2 0), (3, pp b3 0), (4, pp b4 0), (7, (.func (.func 58) #[] #[pp b5 0, pp b6 0])), (8, pp b8 0), (44, .slice qa ra.length da), (45, vi ra.length), (46, vi k), (10, pp b10 0), (52, .slice qb rb.length db), (53, vi rb.length), (54, vi j), (12, pp b12 0), (13, pp b13 0), (93, .slice yp cy.sides.length yc), (94, vi cy.sides.length), (95, vi i.1)]) (fun _ => g8) (fun i => rowA encSide 55 i.2 (cx.sides.map (fun q : Side => (⟨prodId (tabC a) (tabC b) q.cell cy.id, q.sign⟩ : Side)) ++ (cy.sides.take i.1).map (fun q : Side => (⟨prodId (tabC a) (tabC b) cx.id q.cell, signC cx.dim * q.sign⟩ : Side))) :: pt b13 (.cells #[vi (prodId (tabC a) (tabC b) cx.id cy.id), vi (cx.dim + cy.dim), i.2] 51 (0, 0)) :: pt b12 (.cells #[vi cy.id, vi cy.dim, .slice yp cy.sides.length yc] 51 (0, 0)) :: pt b10 (.cells #[vi cx.id, vi cx.dim, .slice xp cx.sides.length xc] 51 (0, 0)) :: rowA encCell 51 ov1 acc1 :: pt b8 (.cells #[ov1] 27 (0, 0)) :: pt b4 (.cells #[.slice none 0 0] 27 (0, 0)) :: pt b3 (.cells #[.slice p2 b.length c2] 27 (0, 0)) :: pt b2 (.cells #[.slice p1 a.length c1] 27 (0, 0)) :: s) (fun i => i.1 ≤ cy.sides.length) (fun i => cy.sides.length - i.1) (0, zv1)
      ⟨rfl, rfl, rfl, rfl, rfl, rfl, rfl, rfl, rfl, rfl, rfl, rfl, rfl, rfl, rfl, rfl, rfl, trivial⟩ rfl (by simp) (Nat.zero_le _) ?_
     rintro ⟨m, zv⟩ hm
     dsimp only at hm ⊢
     refine SC.seq (SC.region (SL.U (SU.lss rfl rfl) (SL.nil (ST.thenN (SC.seq ?_)))))
     refine SC.ifP rfl (fun hlt4 => ?_) (fun hlt4 => ?_)
     ·have hml4 : m < cy.sides.length := oM
      have hby := hysl.based oM
      have hgs : cy.sides[((m : Nat) : Int).toNat]? = some cy.sides[m] := List.getElem?_eq_getElem hml4
      have htm : cy.sides.take (m + 1) = cy.sides.take m ++ [cy.sides[m]] := List.take_succ_eq_append_getElem hml4
      have hesg := sign_mul (signC_cases cx.dim) (hys _ (List.getElem_mem hml4))
      have hzl : (cx.sides.map (fun q : Side => (⟨prodId (tabC a) (tabC b) q.cell cy.id, q.sign⟩ : Side)) ++ (cy.sides.take m).map (fun q : Side => (⟨prodId (tabC a) (tabC b) cx.id q.cell, signC cx.dim * q.sign⟩ : Side))).length = cx.sides.length + m := by simp; omega
      generalize cy.sides[m] = e at *
      refine SC.skip (ST.thenN (SC.seq (SC.block (SC.seq (SC.region (SL.U (SU.indexAddr underlying49 sizeOf55 rfl rfl hby oM sL) ?_))))))
      refine SL.K (SQ.elemA isAgg55 sizeOf55 rfl hysl.rd hgs) (SL.W (SO.alloc zeroValue55) ?_)
      rintro _ _ _ ⟨b17, rfl, rfl, rfl⟩
      refine SL.on (SO.storeAllK 0 sizeOf55 rfl rfl rfl rfl rfl (by exact ⟨rfl, rfl, trivial⟩)) ?_
      rintro _ _ _ ⟨rfl, rfl⟩
      refine SL.nil (ST.thenN ?_)
      refine SC.draw [16, 17, 18] [(0, 2), (1, 1), (2, 2), (3, 2), (4, 1), (5, 2), (6, 1), (8, 2), (9, 1), (11, 2), (12, 1), (7, 0), (10, 0), (13, 2), (14, 2), (15, 0), (16, 0), (17, 0), (18, 0)] Tryz.mixed (by kernel_rfl) ?_
      refine SP.U (i := 0) rfl (SU.fieldAddr underlying51 rfl sizeOf49 rfl) (SP.K (i := 1) rfl (SQ.load isAgg49 rfl (CellAt.own 2 rfl rfl)) (SP.U (i := 2) rfl (SU.move rfl) (SP.U (i := 3) rfl (SU.fieldAddr underlying51 rfl sizeOf3 rfl) (SP.K (i := 4) rfl (SQ.load isAgg3 rfl (CellAt.own 4 rfl rfl)) (SP.U (i := 5) rfl (SU.fieldAddr underlying55 rfl sizeOf3 rfl) (SP.K (i := 6) rfl (SQ.load isAgg3 rfl (CellAt.own 0 rfl rfl)) (SP.U (i := 8) rfl (SU.fieldAddr underlying51 rfl sizeOf3 rfl) (SP.K (i := 9) rfl (SQ.load isAgg3 rfl (CellAt.own 4 rfl rfl)) (SP.U (i := 11) rfl (SU.fieldAddr underlying55 rfl sizeOf3 rfl) (SP.K (i := 12) rfl (SQ.load isAgg3 rfl (CellAt.own 0 rfl rfl)) (SP.o (i := 7) rfl (SO.callV rfl rfl (hid g8 _ cx.id e.cell hle48)) dC (.inr (by rintro _ _ _ ⟨rfl, rfl, rfl⟩; exact ⟨by exact Le.refl _, (by exact .refl _)⟩)) ?_)))))))))))
      rintro _ _ _ ⟨rfl, rfl, rfl⟩
      refine SP.o (i := 10) rfl (SO.call call49 rfl (sign_spec E g8 _ cx.dim)) dC (.inr (by rintro _ _ _ ⟨rfl, rfl, rfl⟩; exact ⟨by exact Le.refl _, (by exact .refl _)⟩)) ?_
      rintro _ _ _ ⟨rfl, rfl, rfl⟩
      refine SP.U (i := 13) rfl (SU.mul (m := signC cx.dim) (n := e.sign) rfl rfl oM) (SP.U (i := 14) rfl (SU.build rfl (buildS55 _ _)) (SP.o (i := 15) rfl (SO.buildSlice sty49 rfl rfl rfl (szs_mk (by exact ⟨rfl, trivial⟩)) dC) dC (.inr (by rintro _ _ _ ⟨b114, rfl, rfl, rfl⟩; exact ⟨by exact Le.refl _, (by exact .cons _ (.refl _))⟩)) ?_))
      rintro _ _ _ ⟨b114, rfl, rfl, rfl⟩
      refine SP.o (i := 16) rfl (SO.app1 1 ((cx.sides.map (fun q : Side => (⟨prodId (tabC a) (tabC b) q.cell cy.id, q.sign⟩ : Side)) ++ (cy.sides.take (m + 1)).map (fun q : Side => (⟨prodId (tabC a) (tabC b) cx.id q.cell, signC cx.dim * q.sign⟩ : Side))).flatMap encSide.enc) (cx.sides.map (fun q : Side => (⟨prodId (tabC a) (tabC b) q.cell cy.id, q.sign⟩ : Side)) ++ (cy.sides.take (m + 1)).map (fun q : Side => (⟨prodId (tabC a) (tabC b) cx.id q.cell, signC cx.dim * q.sign⟩ : Side))).length sty49 rfl rfl rfl rfl rfl ⟨rfl, rfl, trivial⟩ (by rw [htm]; simp [encSide]; rfl) (by rw [htm]; simp; omega) (by rw [hzl]; omega) (by rw [hzl]; omega)) dC (.inl dC) ?_
      rintro zv' _ _ ⟨rfl, rfl⟩
      refine SP.facts fun ⟨w0, hw0⟩ => ?_
      obtain ⟨q', d', rfl⟩ := rowA_form (e := encSide) (l := (cx.sides.map (fun q : Side => (⟨prodId (tabC a) (tabC b) q.cell cy.id, q.sign⟩ : Side)) ++ (cy.sides.take (m + 1)).map (fun q : Side => (⟨prodId (tabC a) (tabC b) cx.id q.cell, signC cx.dim * q.sign⟩ : Side)))) (i := 1) hw0 rfl
      clear hw0 w0
      refine SP.ou (i := 17) rfl (SU.fieldAddr underlying51 rfl sizeOf49 rfl) dC (.inl dC) (SP.on (i := 18) rfl (SO.store1 2 sizeOf49 rfl rfl rfl rfl (Nat.le_of_ble_eq_true rfl) (by rfl)) (.inl dC) ?_)
      rintro _ _ _ ⟨rfl, rfl⟩
      refine SP.nil (ST.blockN (ST.thenN (SC.region (SL.U (SU.add rfl rfl oM) (SL.M rfl (SL.nil (ST.drop (.cons _ (.refl _)) ?_)))))))
      exact ST.again (m + 1, .slice q' (cx.sides.map (fun q : Side => (⟨prodId (tabC a) (tabC b) q.cell cy.id, q.sign⟩ : Side)) ++ (cy.sides.take (m + 1)).map (fun q : Side => (⟨prodId (tabC a) (tabC b) cx.id q.cell, signC cx.dim * q.sign⟩ : Side))).length d') ⟨rfl, rfl, rfl, rfl, rfl, rfl, rfl, rfl, rfl, rfl, rfl, rfl, rfl, rfl, rfl, rfl, rfl, trivial⟩ rfl rfl lN lN
     ·refine SC.exit (ST.thenX (ST.thenX (ST.blockX ?_)))
      have hmm : cy.sides.take m = cy.sides := List.take_of_length_le oM
      rw [hmm]
      exact ST.mid zv ⟨rfl, rfl, rfl, rfl, rfl, rfl, rfl, rfl, rfl, rfl, rfl, rfl, rfl, rfl, trivial⟩ rfl rfl trivial
    rintro zv2 -
    try dsimp only
    have hal : acc1.length ≤ 16004000 := by
     have h1 := hacc1.length
     rw [List.length_append, flatMap_len, List.length_map, List.length_take, List.length_take, canonC_length, canonC_length] at h1
     have h2 : min k a.length * b.length ≤ 4000 * 4000 := Nat.mul_le_mul oM hlb
     omega
    refine SC.freezeRow fun g9 hle9 hrow9 => ?_
    obtain ⟨q9, d9, rfl⟩ := Sl.form hrow9
    refine SC.region (SL.U (SU.fieldAddr underlying27 rfl sizeOf25 rfl) (SL.K (SQ.load isAgg25 rfl (CellAt.own 4 rfl rfl)) (SL.K (SQ.loadVarK 0 isAgg51 sizeOf51 rfl rfl rfl) (SL.W (SO.buildSlice sty25 rfl rfl rfl (szs_mk (by exact ⟨rfl, trivial⟩)) dC) ?_))))
    rintro _ _ _ ⟨b121, rfl, rfl, rfl⟩
    refine SL.W (SO.app1 3 ((acc1 ++ [(⟨prodId (tabC a) (tabC b) cx.id cy.id, cx.dim + cy.dim, q9, (cx.sides.map (fun q : Side => (⟨prodId (tabC a) (tabC b) q.cell cy.id, q.sign⟩ : Side)) ++ cy.sides.map (fun q : Side => (⟨prodId (tabC a) (tabC b) cx.id q.cell, signC cx.dim * q.sign⟩ : Side))).length, d9⟩ : Rc)]).flatMap encCell.enc) (acc1 ++ [(⟨prodId (tabC a) (tabC b) cx.id cy.id, cx.dim + cy.dim, q9, (cx.sides.map (fun q : Side => (⟨prodId (tabC a) (tabC b) q.cell cy.id, q.sign⟩ : Side)) ++ cy.sides.map (fun q : Side => (⟨prodId (tabC a) (tabC b) cx.id q.cell, signC cx.dim * q.sign⟩ : Side))).length, d9⟩ : Rc)]).length sty25 rfl rfl rfl rfl rfl ⟨rfl, rfl, rfl, trivial⟩ (by (simp [encCell]; rfl)) (by simp) lN lN) ?_
    rintro ov' _ _ ⟨rfl, rfl⟩
    refine SL.facts fun ⟨w0, hw0⟩ => ?_
    obtain ⟨q', d', rfl⟩ := rowA_form (e := encCell) (l := acc1 ++ [(⟨prodId (tabC a) (tabC b) cx.id cy.id, cx.dim + cy.dim, q9, (cx.sides.map (fun q : Side => (⟨prodId (tabC a) (tabC b) q.cell cy.id, q.sign⟩ : Side)) ++ cy.sides.map (fun q : Side => (⟨prodId (tabC a) (tabC b) cx.id q.cell, signC cx.dim * q.sign⟩ : Side))).length, d9⟩ : Rc)]) (i := 3) hw0 rfl
    clear hw0 w0
    refine SL.U (SU.fieldAddr underlying27 rfl sizeOf25 rfl) (SL.on (SO.storeAllK 4 sizeOf25 rfl rfl rfl rfl rfl (by exact ⟨rfl, trivial⟩)) ?_)
    rintro _ _ _ ⟨rfl, rfl⟩
    refine SL.nil (ST.blockN (ST.thenN (SC.region (SL.U (SU.add rfl rfl oM) (SL.M rfl (SL.nil (ST.drop (.cons _ (.cons _ (.refl _))) ?_)))))))
    exact ST.again (j + 1, _, acc1 ++ [(⟨prodId (tabC a) (tabC b) cx.id cy.id, cx.dim + cy.dim, q9, (cx.sides.map (fun q : Side => (⟨prodId (tabC a) (tabC b) q.cell cy.id, q.sign⟩ : Side)) ++ cy.sides.map (fun q : Side => (⟨prodId (tabC a) (tabC b) cx.id q.cell, signC cx.dim * q.sign⟩ : Side))).length, d9⟩ : Rc)], g9) ⟨rfl, rfl, rfl, rfl, rfl, rfl, rfl, rfl, rfl, rfl, rfl, rfl, trivial⟩ rfl rfl ⟨lN, hle8.trans hle9, by
     rw [htj, List.map_append, ← List.append_assoc]
     exact (hacc1.mono fun _ _ => CellR.mono hle9).append ⟨⟨rfl, rfl, hrow9⟩, trivial⟩⟩ lN
   ·refine SC.exit (ST.thenX (ST.thenX (ST.blockX (ST.blockN (ST.thenN (SC.region (SL.U (SU.add rfl rfl oM) (SL.M rfl (SL.nil ?_)))))))))
    have hjj : (canonC b).take j = canonC b := List.take_of_length_le oM
    rw [hjj] at hacc1
    refine ST.drop (.cons _ (.refl _)) ?_
    exact ST.again (k + 1, ov1, acc1, g8) ⟨rfl, rfl, rfl, rfl, rfl, rfl, rfl, rfl, trivial⟩ rfl rfl ⟨lN, hle6.trans (hle7.trans hle8), by rw [htk, List.flatMap_append]; simpa using hacc1⟩ lN
  ·have hkk : (canonC a).take k = canonC a := List.take_of_length_le oM
   rw [hkk] at hacc0
   have hfit : Fits (prodAll a b) := by
    refine ⟨?_, fun c hc => ?_⟩
    ·unfold prodAll
     rw [flatMap_len, canonC_length, canonC_length]
     have h2 : a.length * b.length ≤ 4000 * 4000 := Nat.mul_le_mul hla hlb
     omega
    ·unfold prodAll at hc
     obtain ⟨x, hx, hc⟩ := List.mem_flatMap.1 hc
     obtain ⟨y, hy, rfl⟩ := List.mem_map.1 hc
     have h1 := (form_ok (hfa x hx)).1
     have h2 := (form_ok (hfb y hy)).1
     simp only [prodCell, List.length_append, List.length_map]
     omega
   have hlast := hle4.trans (hle5.trans hle6)
   have hres : prodC a b = if (checkC (prodAll a b)).2 = 0 then canonC (prodAll a b) else [] := by unfold prodC; rw [if_neg (by rw [hbad]; exact Bool.false_ne_true)]
   refine SC.exit (ST.thenX (ST.thenX (ST.blockX (ST.thenN (SC.seq (SC.seq (SC.freezeRow fun g9 hle9 hrow9 => ?_)))))))
   obtain ⟨q9, d9, rfl⟩ := Sl.form hrow9
   have hout : Cells g9 (.slice q9 acc0.length d9) (prodAll a b) := ⟨acc0, hrow9, hacc0.mono fun _ _ => CellR.mono hle9⟩
   refine SC.region (SL.K (SQ.loadVarK 0 isAgg27 sizeOf27 rfl rfl rfl) (SL.W (SO.call call57 rfl (right_spec E g9 _ _ (prodAll a b) hout hfit)) ?_))
   rintro _ _ _ ⟨rfl, rfl, rfl⟩
   refine SL.U (SU.notP rfl) (SL.nil (ST.thenN ?_))
   refine SC.ifP rfl (fun hr => ?_) (fun hr => ?_)
   ·refine SC.seq (SC.region (SL.U (SU.build rfl (buildE27)) (SL.on (SO.storeAllK 1 sizeOf27 rfl rfl rfl rfl rfl (by exact ⟨rfl, trivial⟩)) ?_)))
    rintro _ _ _ ⟨rfl, rfl⟩
    refine SL.nil (ST.thenN (SC.ret (ST.thenR ?_)))
    exact ST.retCD 1 s (.inl rfl) results17 rfl isAgg27 sizeOf27 rfl rfl (.cons _ (.cons _ (.cons _ (.cons _ (.refl _))))) ⟨rfl, hlast.trans hle9, _, rfl, by rw [hres, if_neg hr]; exact ⟨[], Sl.nil g9 _, trivial⟩⟩
   ·refine SC.skip (ST.thenN (SC.seq (SC.region (SL.K (SQ.loadVarK 0 isAgg27 sizeOf27 rfl rfl rfl) (SL.W (SO.call call30 rfl (canon_spec E g9 _ _ (prodAll a b) hout hfit)) ?_)))))
    rintro _ g10 _ ⟨rfl, hle10, uo, rfl, ro, hro, hallo⟩
    obtain ⟨qo, do', rfl⟩ := hro.form
    refine SL.on (SO.storeAllK 1 sizeOf27 rfl rfl rfl rfl rfl (by exact ⟨rfl, trivial⟩)) ?_
    rintro _ _ _ ⟨rfl, rfl⟩
    refine SL.nil (ST.thenN (SC.ret ?_))
    exact ST.retCD 1 s (.inl rfl) results17 rfl isAgg27 sizeOf27 rfl rfl (.cons _ (.cons _ (.cons _ (.cons _ (.refl _))))) ⟨rfl, hlast.trans (hle9.trans hle10), _, rfl, by rw [hres, if_pos (Decidable.of_not_not hr)]; exact ⟨ro, hro, hallo⟩⟩
theorem cloneI (E : World) (g : PH) (s : Own) (v : Value) (l : List Int) (hv : Ints g v l) (hn : l.length < 17592186044416) :
  Ctr Tryz.prog E 39 #[v] g s (fun r g' s' => g = g' ∧ s' = rowA encInt 3 r l :: s) := by
 obtain ⟨p, c, rfl⟩ := SlA.form hv
 refine Ctr.of (args := [.slice p l.length c]) func39 rfl ntmps39 (Nat.le_of_ble_eq_true rfl) ?_
 refine SC.seq (SC.region (SL.A rfl (SL.nil (ST.thenN (SC.seq (SC.seq (SC.region (SL.M rfl (SL.U (SU.eqlNil underlying45 rfl rfl) (SL.nil (ST.thenN ?_)))))))))))
 refine SC.ifB rfl (fun hp => ?_) (fun hp => ?_)
 ·refine SC.seq (SC.region (SL.A rfl (SL.nil (ST.thenN (SC.ret (ST.thenR ?_))))))
  have hl : l = [] := by
   cases l with
   | nil => rfl
   | cons x r =>
    have hb := SlA.based hv (by simp)
    cases p with
    | none => simp [based] at hb
    | some q => simp at hp
  subst hl
  refine ST.nilRow 3 1 ?_
  exact ST.ret1 (.inl rfl) results39 rfl ⟨rfl, rfl⟩
 ·refine SC.skip (ST.thenN (SC.seq (SC.region (SL.W (SO.buildSlice sty45 rfl rfl rfl (szs_mk trivial) dC) ?_))))
  rintro _ _ _ ⟨b5, rfl, rfl, rfl⟩
  refine SL.emptyRow 3 1 (some ⟨b5, 0, none⟩) (SL.M rfl (SL.W (SO.appendE (m := l.length) 0 l.length (l.flatMap encInt.enc) sty45 rfl rfl rfl rfl rfl (Sl.rd hv) (encInt.length l) (encInt.ones l) oM (by simp) oM oM) ?_))
  rintro r7 _ _ ⟨rfl, rfl⟩
  refine SL.A rfl (SL.nil (ST.thenN (SC.ret (ST.drop (s' := rowA encInt 3 r7 l :: s) (.cons_cons _ (.cons _ (.refl _))) ?_))))
  exact ST.ret1 (.inl rfl) results39 rfl ⟨rfl, rfl⟩
theorem copy_spec (E : World) (g : PH) (s : Own) (v : Value) (l : List Cl) (hv : Cells g v l) (hf : Fits l) :
  Ctr Tryz.prog E 33 #[.agg #[v]] g s (fun r g' s' => s = s' ∧ Le g g' ∧ ∃ u, r = .agg #[u] ∧ Cells g' u l) := by
 obtain ⟨rs, hrs, hall⟩ := hv
 have hlen := hall.length
 have hfl := hf.1
 obtain ⟨p, c, rfl⟩ := hrs.form
 refine Ctr.of (args := [.agg #[.slice p rs.length c]]) func33 rfl ntmps33 (Nat.le_of_ble_eq_true rfl) ?_
 refine SC.seq (SC.region (SL.W (SO.box rfl) ?_))
 rintro _ _ _ ⟨b1, rfl, rfl, rfl⟩
 refine SL.W (SO.alloc zeroValue27) ?_
 rintro _ _ _ ⟨b2, rfl, rfl, rfl⟩
 refine SL.nil (ST.thenN (SC.seq (SC.region (SL.W (SO.alloc zeroValue27) ?_))))
 rintro _ _ _ ⟨b3, rfl, rfl, rfl⟩
 refine SL.nil (ST.thenN (SC.seq (SC.seq (SC.region (SL.A rfl (SL.nil (ST.thenN (SC.block (SC.nilRow 51 3 ?_)))))))))
 refine SC.loop (ι := Nat × Value × List Rc × PH) (fun i => [(1, pp b1 0), (2, pp b2 0), (3, pp b3 0), (4, vi i.1)]) (fun i => i.2.2.2)
  (fun i => rowA encCell 51 i.2.1 i.2.2.1 :: pt b3 (.cells #[i.2.1] 27 (0, 0)) :: pt b2 (.cells #[.slice none 0 0] 27 (0, 0)) :: pt b1 (.cells #[.slice p rs.length c] 27 (0, 0)) :: s)
  (fun i => i.1 ≤ rs.length ∧ Le g i.2.2.2 ∧ All2 (CellR i.2.2.2) (l.take i.1) i.2.2.1) (fun i => rs.length - i.1) (0, .slice none 0 0, [], g)
  ⟨rfl, rfl, rfl, rfl, trivial⟩ rfl rfl ⟨Nat.zero_le _, Le.refl g, by simp [All2]⟩ ?_
 rintro ⟨k, ov, acc, g1⟩ ⟨hk, hle, hacc⟩
 dsimp only at hk hle hacc ⊢
 refine SC.seq (SC.seq (SC.region (SL.M rfl (SL.U (SU.fieldAddr underlying27 rfl sizeOf25 rfl) (SL.K (SQ.load isAgg25 rfl (CellAt.own 3 rfl rfl)) (SL.U (SU.lenN underlying25 rfl) (SL.U (SU.lss rfl rfl) (SL.nil (ST.thenN ?_)))))))))
 refine SC.ifP rfl (fun hlt => ?_) (fun hlt => ?_)
 ·have hkr : k < rs.length := oM
  have hkl : k < l.length := oM
  have hb1 := hrs.based oM
  have hcr := (hall.get (List.getElem?_eq_getElem hkl) (List.getElem?_eq_getElem hkr)).mono hle
  have hgx : rs[((k : Nat) : Int).toNat]? = some rs[k] := List.getElem?_eq_getElem hkr
  have htk : l.take (k + 1) = l.take k ++ [l[k]] := List.take_succ_eq_append_getElem hkl
  have hxl := hf.2 _ (List.getElem_mem hkl)
  have hal := hacc.length
  have hal2 : (l.take k).length ≤ k := by simp; omega
  generalize rs[k] = x at *
  generalize l[k] = cx at *
  obtain ⟨xi, xd, xp, xn, xc⟩ := x
  have hxsl : SlA encSide g1 (.slice xp xn xc) cx.sides := hcr.2.2
  have hxn : xn = cx.sides.length := Sl.slen hxsl
  subst hxn
  refine SC.skip (ST.thenN (SC.seq (SC.block (SC.seq (SC.region (SL.U (SU.fieldAddr underlying27 rfl sizeOf25 rfl) (SL.K (SQ.load isAgg25 rfl (CellAt.own 3 rfl rfl)) (SL.M rfl (SL.U (SU.indexAddr underlying25 sizeOf51 rfl rfl hb1 oM (show (k : Int) < ((rs.length : Nat) : Int) by omega)) ?_)))))))))
  refine SL.K (SQ.elemA isAgg51 sizeOf51 rfl (hrs.mono hle).rd hgx) (SL.W (SO.alloc zeroValue51) ?_)
  rintro _ _ _ ⟨b5, rfl, rfl, rfl⟩
  refine SL.on (SO.storeAllK 0 sizeOf51 rfl rfl rfl rfl rfl (by exact ⟨rfl, rfl, rfl, trivial⟩)) ?_
  rintro _ _ _ ⟨rfl, rfl⟩
  refine SL.nil (ST.thenN (SC.seq (SC.region (SL.W (SO.buildSlice sty49 rfl rfl rfl (szs_mk trivial) dC) ?_))))
  rintro _ _ _ ⟨b18, rfl, rfl, rfl⟩
  refine SL.emptyRow 55 2 (some ⟨b18, 0, none⟩) (SL.U (SU.fieldAddr underlying51 rfl sizeOf49 rfl) (SL.K (SQ.load isAgg49 rfl (CellAt.own 2 rfl rfl)) (SL.W (SO.appendE (m := cx.sides.length) 0 cx.sides.length (cx.sides.flatMap encSide.enc) sty49 rfl rfl rfl rfl rfl (Sl.rd hxsl) (encSide.length cx.sides) (encSide.ones cx.sides) oM (by simp) oM oM) ?_)))
  rintro r21 _ _ ⟨rfl, rfl⟩
  refine SL.freezeRow fun g2 hle2 hs2 => ?_
  obtain ⟨q2, d2, rfl⟩ := Sl.form hs2
  refine SL.U (SU.fieldAddr underlying51 rfl sizeOf49 rfl) (SL.on (SO.store1 1 sizeOf49 rfl rfl rfl rfl (Nat.le_of_ble_eq_true rfl) (by rfl)) ?_)
  rintro _ _ _ ⟨rfl, rfl⟩
  refine SL.nil (ST.thenN (SC.region (SL.U (SU.fieldAddr underlying27 rfl sizeOf25 rfl) (SL.K (SQ.load isAgg25 rfl (CellAt.own 3 rfl rfl)) (SL.K (SQ.loadVarK 1 isAgg51 sizeOf51 rfl rfl rfl) (SL.W (SO.buildSlice sty25 rfl rfl rfl (szs_mk (by exact ⟨rfl, trivial⟩)) dC) ?_))))))
  rintro _ _ _ ⟨b26, rfl, rfl, rfl⟩
  refine SL.W (SO.app1 2 ((acc ++ [(⟨xi, xd, q2, cx.sides.length, d2⟩ : Rc)]).flatMap encCell.enc) (acc ++ [(⟨xi, xd, q2, cx.sides.length, d2⟩ : Rc)]).length sty25 rfl rfl rfl rfl rfl ⟨rfl, rfl, rfl, trivial⟩ (by (simp [encCell]; rfl)) (by simp) lN lN) ?_
  rintro ov' _ _ ⟨rfl, rfl⟩
  refine SL.facts fun ⟨w0, hw0⟩ => ?_
  obtain ⟨q', d', rfl⟩ := rowA_form (e := encCell) (l := acc ++ [(⟨xi, xd, q2, cx.sides.length, d2⟩ : Rc)]) (i := 2) hw0 rfl
  clear hw0 w0
  refine SL.U (SU.fieldAddr underlying27 rfl sizeOf25 rfl) (SL.on (SO.storeAllK 3 sizeOf25 rfl rfl rfl rfl rfl (by exact ⟨rfl, trivial⟩)) ?_)
  rintro _ _ _ ⟨rfl, rfl⟩
  refine SL.nil (ST.blockN (ST.thenN (SC.region (SL.M rfl (SL.U (SU.add rfl rfl oM) (SL.A rfl (SL.nil (ST.drop (.cons _ (.cons _ (.refl _))) ?_))))))))
  exact ST.again (k + 1, _, acc ++ [(⟨xi, xd, q2, cx.sides.length, d2⟩ : Rc)], g2) ⟨rfl, rfl, rfl, rfl, trivial⟩ rfl rfl ⟨lN, hle.trans hle2, by
   rw [htk]
   exact (hacc.mono fun _ _ => CellR.mono hle2).append ⟨⟨hcr.1, hcr.2.1, hs2⟩, trivial⟩⟩ lN
 ·have hkk : l.take k = l := List.take_of_length_le oM
  rw [hkk] at hacc
  refine SC.exit (ST.thenX (ST.thenX (ST.blockX (ST.thenN (SC.seq (SC.freezeRow fun g2 hle2 hs2 => ?_))))))
  obtain ⟨q2, d2, rfl⟩ := Sl.form hs2
  refine SC.region (SL.K (SQ.loadVarK 0 isAgg27 sizeOf27 rfl rfl rfl) (SL.on (SO.storeAllK 1 sizeOf27 rfl rfl rfl rfl rfl (by exact ⟨rfl, trivial⟩)) ?_))
  rintro _ _ _ ⟨rfl, rfl⟩
  refine SL.nil (ST.thenN (SC.ret ?_))
  exact ST.retCD 1 s (.inl rfl) results33 rfl isAgg27 sizeOf27 rfl rfl (.cons _ (.cons _ (.cons _ (.refl _)))) ⟨rfl, hle.trans hle2, _, rfl, acc, hs2, hacc.mono fun _ _ => CellR.mono hle2⟩
def orI : List Int → Int
 | [] => 0
 | a :: r => if a ≠ 0 then a else orI r
def cmpL : List Int → List Int → Int
 | [], [] => 0
 | [], _ :: _ => -1
 | _ :: _, [] => 1
 | a :: r, b :: t => if cmpI a b ≠ 0 then cmpI a b else cmpL r t
def compareC (a b : List Int) : Int := if cmpI a.length b.length ≠ 0 then cmpI a.length b.length else cmpL a b
theorem or_spec (E : World) (g : PH) (s : Own) (v : Value) (l : List Int) (hv : Rd g s v (l.flatMap encInt.enc)) (hf : ∃ p c, v = .slice p l.length c) (hb : 0 < l.length → based v = true) (hl : l.length < 1099511627776) :
  Ctr Tryz.prog E 88 #[v] g s (fun r g' s' => r = vi (orI l) ∧ g = g' ∧ s = s') := by
 obtain ⟨p, c, rfl⟩ := hf
 refine Ctr.of (args := [.slice p l.length c]) func88 rfl ntmps88 (Nat.le_of_ble_eq_true rfl) ?_
 refine SC.seq (SC.region (SL.A rfl (SL.nil (ST.thenN (SC.seq (SC.region (SL.A rfl (SL.nil (ST.thenN (SC.seq (SC.seq (SC.region (SL.M rfl (SL.U (SU.lenN underlying45 rfl) (SL.M rfl (SL.nil (ST.thenN (SC.block ?_))))))))))))))))))
 refine SC.loop (ι := Nat) (fun k => [(3, vi 0), (6, .slice p l.length c), (7, vi l.length), (8, vi k)]) (fun _ => g) (fun _ => s) (fun k => k ≤ l.length ∧ orI l = orI (l.drop k)) (fun k => l.length - k) 0
  ⟨rfl, rfl, rfl, rfl, trivial⟩ rfl rfl ⟨Nat.zero_le _, by simp⟩ ?_
 rintro k ⟨hk, heq⟩
 refine SC.seq (SC.region (SL.U (SU.lss rfl rfl) (SL.nil (ST.thenN (SC.seq ?_)))))
 refine SC.ifP rfl (fun hlt => ?_) (fun hlt => ?_)
 ·have hkl : k < l.length := oM
  have hb1 := hb oM
  have hgx : l[((k : Nat) : Int).toNat]? = some l[k] := List.getElem?_eq_getElem hkl
  have hdrop : l.drop k = l[k] :: l.drop (k + 1) := List.drop_eq_getElem_cons hkl
  generalize l[k] = x at *
  rw [hdrop] at heq
  refine SC.skip (ST.thenN (SC.seq (SC.block (SC.seq (SC.region (SL.U (SU.indexAddr underlying45 sizeOf3 rfl rfl hb1 oM sL) (SL.K (SQ.elem1 isAgg3 rfl hv hgx rfl) (SL.A rfl (SL.nil (ST.thenN (SC.seq (SC.region (SL.M rfl (SL.M rfl (SL.U (SU.neq rfl rfl) (SL.nil (ST.thenN ?_)))))))))))))))))
  refine SC.ifP rfl (fun hd => ?_) (fun hd => ?_)
  ·refine SC.seq (SC.region (SL.M rfl (SL.A rfl (SL.nil (ST.thenN (SC.ret (ST.blockR (ST.thenR (ST.thenR (ST.blockR (ST.thenR ?_)))))))))))
   exact ST.ret1 (.inl rfl) results88 rfl ⟨by rw [heq, orI, if_pos hd], rfl, rfl⟩
  ·refine SC.skip (ST.blockN (ST.thenN (SC.region (SL.U (SU.add rfl rfl oM) (SL.M rfl (SL.nil ?_))))))
   exact ST.again (k + 1) ⟨rfl, rfl, rfl, rfl, trivial⟩ rfl rfl ⟨oM, by rw [heq, orI, if_neg hd]⟩ oM
 ·refine SC.exit (ST.thenX (ST.thenX (ST.blockX (ST.thenN (SC.seq (SC.region (SL.M rfl (SL.A rfl (SL.nil (ST.thenN (SC.ret ?_)))))))))))
  have hkk : l.drop k = [] := List.drop_of_length_le oM
  rw [hkk] at heq
  exact ST.ret1 (.inl rfl) results88 rfl ⟨by rw [heq]; rfl, rfl, rfl⟩
theorem equalInts (E : World) (g : PH) (s : Own) (v u : Value) (l m : List Int) (hv : Ints g v l) (hu : Ints g u m) (hl : l.length < 1099511627776) :
  Ctr Tryz.prog E 46 #[v, u] g s (fun r g' s' => r = vb (decide (l = m)) ∧ g = g' ∧ s = s') := by
 obtain ⟨p, c, rfl⟩ := SlA.form hv
 obtain ⟨q, d, rfl⟩ := SlA.form hu
 refine Ctr.of (args := [.slice p l.length c, .slice q m.length d]) func46 rfl ntmps46 (Nat.le_of_ble_eq_true rfl) ?_
 refine SC.seq (SC.region (SL.A rfl (SL.nil (ST.thenN (SC.seq (SC.seq (SC.region (SL.M rfl (SL.U (SU.lenN underlying45 rfl) (SL.M rfl (SL.U (SU.lenN underlying45 rfl) (SL.U (SU.neq rfl rfl) (SL.nil (ST.thenN ?_))))))))))))))
 refine SC.ifP rfl (fun hne => ?_) (fun hne => ?_)
 ·refine SC.seq (SC.region (SL.A rfl (SL.nil (ST.thenN (SC.ret (ST.thenR ?_))))))
  exact ST.ret1 (.inl rfl) results46 rfl ⟨by have : l ≠ m := fun e => hne (by rw [e]); simp [this], rfl, rfl⟩
 ·refine SC.skip (ST.thenN (SC.seq (SC.seq (SC.region (SL.M rfl (SL.U (SU.lenN underlying45 rfl) (SL.M rfl (SL.nil (ST.thenN (SC.block ?_))))))))))
  have hlen : l.length = m.length := oM
  refine SC.loop (ι := Nat) (fun k => [(0, .slice p l.length c), (1, .slice q m.length d), (12, vi l.length), (13, vi k)]) (fun _ => g) (fun _ => s) (fun k => k ≤ l.length ∧ l.take k = m.take k) (fun k => l.length - k) 0
   ⟨rfl, rfl, rfl, rfl, trivial⟩ rfl rfl ⟨Nat.zero_le _, by simp⟩ ?_
  rintro k ⟨hk, heq⟩
  refine SC.seq (SC.region (SL.U (SU.lss rfl rfl) (SL.nil (ST.thenN (SC.seq ?_)))))
  refine SC.ifP rfl (fun hlt => ?_) (fun hlt => ?_)
  ·have hkl : k < l.length := oM
   have hkm : k < m.length := oM
   have hb1 := SlA.based hv oM
   have hb2 := SlA.based hu oM
   refine SC.skip (ST.thenN (SC.seq (SC.block (SC.seq (SC.region (SL.M rfl (SL.A rfl (SL.nil (ST.thenN (SC.seq ?_))))))))))
   refine SC.draw [] [(0, 2), (1, 2), (2, 2), (3, 1), (4, 2), (5, 2), (6, 2), (7, 1), (8, 2)] Tryz.mixed (by kernel_rfl) ?_
   refine SP.U (i := 0) rfl (SU.move rfl) (SP.U (i := 1) rfl (SU.move rfl) (SP.U (i := 2) rfl (SU.indexAddr underlying45 sizeOf3 rfl rfl hb1 oM sL) ?_))
   refine SP.q (i := 3) rfl (SQ.elem1 isAgg3 rfl (SlA.rd hv) (List.getElem?_eq_getElem hkl) rfl) dC ?_
   refine SP.U (i := 4) rfl (SU.move rfl) (SP.U (i := 5) rfl (SU.move rfl) (SP.U (i := 6) rfl (SU.indexAddr underlying45 sizeOf3 rfl rfl hb2 oM sL) ?_))
   refine SP.q (i := 7) rfl (SQ.elem1 isAgg3 rfl (SlA.rd hu) (List.getElem?_eq_getElem hkm) rfl) dC ?_
   refine SP.U (i := 8) rfl (SU.neq rfl rfl) (SP.nil (ST.thenN ?_))
   refine SC.ifP rfl (fun hd => ?_) (fun hd => ?_)
   ·refine SC.seq (SC.region (SL.A rfl (SL.nil (ST.thenN (SC.ret (ST.blockR (ST.thenR (ST.thenR (ST.blockR (ST.thenR ?_))))))))))
    exact ST.ret1 (.inl rfl) results46 rfl ⟨by have : l ≠ m := fun e => hd (by simp [e]); simp [this], rfl, rfl⟩
   ·refine SC.skip (ST.blockN (ST.thenN (SC.region (SL.U (SU.add rfl rfl oM) (SL.M rfl (SL.nil ?_))))))
    exact ST.again (k + 1) ⟨rfl, rfl, rfl, rfl, trivial⟩ rfl rfl ⟨oM, take_eq_succ hkl hkm heq (Decidable.of_not_not hd)⟩ oM
  ·refine SC.exit (ST.thenX (ST.thenX (ST.blockX (ST.thenN (SC.seq (SC.region (SL.A rfl (SL.nil (ST.thenN (SC.ret ?_))))))))))
   have hkk : k = l.length := oM
   subst hkk
   have : l = m := take_eq_all hlen heq
   exact ST.ret1 (.inl rfl) results46 rfl ⟨by simp [this], rfl, rfl⟩
theorem compareInts (E : World) (g : PH) (s : Own) (v u : Value) (l m : List Int) (hv : Ints g v l) (hu : Ints g u m) (hl : l.length < 1099511627776) :
  Ctr Tryz.prog E 90 #[v, u] g s (fun r g' s' => r = vi (cmpL l m) ∧ g = g' ∧ s = s') := by
 obtain ⟨p, c, rfl⟩ := SlA.form hv
 obtain ⟨q, d, rfl⟩ := SlA.form hu
 refine Ctr.of (args := [.slice p l.length c, .slice q m.length d]) func90 rfl ntmps90 (Nat.le_of_ble_eq_true rfl) ?_
 refine SC.seq (SC.region (SL.A rfl (SL.nil (ST.thenN (SC.seq (SC.seq (SC.region (SL.M rfl (SL.U (SU.lenN underlying45 rfl) (SL.M rfl (SL.nil (ST.thenN (SC.block ?_)))))))))))))
 refine SC.loop (ι := Nat) (fun k => [(0, .slice p l.length c), (1, .slice q m.length d), (9, .slice p l.length c), (10, vi l.length), (11, vi k)]) (fun _ => g) (fun _ => s) (fun k => k ≤ l.length ∧ k ≤ m.length ∧ cmpL l m = cmpL (l.drop k) (m.drop k)) (fun k => l.length - k) 0
  ⟨rfl, rfl, rfl, rfl, rfl, trivial⟩ rfl rfl ⟨Nat.zero_le _, Nat.zero_le _, by simp⟩ ?_
 rintro k ⟨hk, hkm, heq⟩
 refine SC.seq (SC.region (SL.U (SU.lss rfl rfl) (SL.nil (ST.thenN (SC.seq ?_)))))
 refine SC.ifP rfl (fun hlt => ?_) (fun hlt => ?_)
 ·have hkl : k < l.length := oM
  have hb1 := SlA.based hv oM
  have hgx : l[((k : Nat) : Int).toNat]? = some l[k] := List.getElem?_eq_getElem hkl
  have hdrop : l.drop k = l[k] :: l.drop (k + 1) := List.drop_eq_getElem_cons hkl
  generalize l[k] = x at *
  rw [hdrop] at heq
  refine SC.skip (ST.thenN (SC.seq (SC.block (SC.seq (SC.region (SL.M rfl (SL.U (SU.indexAddr underlying45 sizeOf3 rfl rfl hb1 oM sL) (SL.K (SQ.elem1 isAgg3 rfl (SlA.rd hv) hgx rfl) (SL.A rfl (SL.A rfl (SL.nil (ST.thenN (SC.seq (SC.seq (SC.region (SL.M rfl (SL.M rfl (SL.U (SU.lenN underlying45 rfl) (SL.U (SU.geq rfl rfl) (SL.nil (ST.thenN ?_)))))))))))))))))))))
  refine SC.ifP rfl (fun hge => ?_) (fun hge => ?_)
  ·refine SC.seq (SC.region (SL.A rfl (SL.nil (ST.thenN (SC.ret (ST.thenR (ST.blockR (ST.thenR (ST.thenR (ST.blockR (ST.thenR ?_)))))))))))
   have hmk : m.drop k = [] := List.drop_of_length_le oM
   rw [hmk] at heq
   exact ST.ret1 (.inl rfl) results90 rfl ⟨by rw [heq]; rfl, rfl, rfl⟩
  ·have hkm2 : k < m.length := oM
   have hb2 := SlA.based hu oM
   have hgy : m[((k : Nat) : Int).toNat]? = some m[k] := List.getElem?_eq_getElem hkm2
   have hdrop2 : m.drop k = m[k] :: m.drop (k + 1) := List.drop_eq_getElem_cons hkm2
   generalize m[k] = y at *
   rw [hdrop2] at heq
   refine SC.skip (ST.thenN (SC.seq (SC.region (SL.M rfl (SL.M rfl (SL.U (SU.indexAddr underlying45 sizeOf3 rfl rfl hb2 oM sL) (SL.K (SQ.elem1 isAgg3 rfl (SlA.rd hu) hgy rfl) (SL.A rfl (SL.nil (ST.thenN (SC.seq (SC.region (SL.M rfl (SL.M rfl (SL.W (SO.call call89 rfl (compare_spec E g _ x y)) ?_)))))))))))))))
   rintro _ _ _ ⟨rfl, rfl, rfl⟩
   refine SL.A rfl (SL.nil (ST.thenN (SC.seq (SC.region (SL.M rfl (SL.U (SU.neq rfl rfl) (SL.nil (ST.thenN ?_))))))))
   refine SC.ifP rfl (fun hd => ?_) (fun hd => ?_)
   ·refine SC.seq (SC.region (SL.M rfl (SL.A rfl (SL.nil (ST.thenN (SC.ret (ST.blockR (ST.thenR (ST.thenR (ST.blockR (ST.thenR ?_)))))))))))
    exact ST.ret1 (.inl rfl) results90 rfl ⟨by rw [heq, cmpL, if_pos hd], rfl, rfl⟩
   ·refine SC.skip (ST.blockN (ST.thenN (SC.region (SL.U (SU.add rfl rfl oM) (SL.M rfl (SL.nil ?_))))))
    exact ST.again (k + 1) ⟨rfl, rfl, rfl, rfl, rfl, trivial⟩ rfl rfl ⟨oM, oM, by rw [heq, cmpL, if_neg hd]⟩ oM
 ·refine SC.exit (ST.thenX (ST.thenX (ST.blockX (ST.thenN (SC.seq (SC.seq (SC.region (SL.M rfl (SL.U (SU.lenN underlying45 rfl) (SL.M rfl (SL.U (SU.lenN underlying45 rfl) (SL.U (SU.lss rfl rfl) (SL.nil (ST.thenN ?_))))))))))))))
  have hkk : l.drop k = [] := List.drop_of_length_le oM
  rw [hkk] at heq
  refine SC.ifP rfl (fun hll => ?_) (fun hll => ?_)
  ·refine SC.seq (SC.region (SL.A rfl (SL.nil (ST.thenN (SC.ret (ST.thenR ?_))))))
   have hkm2 : k < m.length := oM
   have hdrop2 : m.drop k = m[k] :: m.drop (k + 1) := List.drop_eq_getElem_cons hkm2
   rw [hdrop2] at heq
   exact ST.ret1 (.inl rfl) results90 rfl ⟨by rw [heq]; rfl, rfl, rfl⟩
  ·refine SC.skip (ST.thenN (SC.seq (SC.region (SL.A rfl (SL.nil (ST.thenN (SC.ret ?_)))))))
   have hmk : m.drop k = [] := List.drop_of_length_le oM
   rw [hmk] at heq
   exact ST.ret1 (.inl rfl) results90 rfl ⟨by rw [heq]; rfl, rfl, rfl⟩
theorem compareSets (E : World) (g : PH) (s : Own) (v u : Value) (l m : List Int) (hv : Ints g v l) (hu : Ints g u m) (hl : l.length < 1099511627776) :
  Ctr Tryz.prog E 44 #[v, u] g s (fun r g' s' => r = vi (compareC l m) ∧ g = g' ∧ s = s') := by
 obtain ⟨p, c, rfl⟩ := SlA.form hv
 obtain ⟨q, d, rfl⟩ := SlA.form hu
 refine Ctr.of (args := [.slice p l.length c, .slice q m.length d]) func44 rfl ntmps44 (Nat.le_of_ble_eq_true rfl) ?_
 refine SC.seq (SC.region (SL.A rfl (SL.nil (ST.thenN (SC.seq (SC.region (SL.M rfl (SL.U (SU.lenN underlying45 rfl) (SL.M rfl (SL.U (SU.lenN underlying45 rfl) (SL.W (SO.call call89 rfl (compare_spec E g _ l.length m.length)) ?_)))))))))))
 rintro _ _ _ ⟨rfl, rfl, rfl⟩
 refine SL.M rfl (SL.M rfl (SL.W (SO.call call90 rfl (compareInts E g _ _ _ l m hv hu hl)) ?_))
 rintro _ _ _ ⟨rfl, rfl, rfl⟩
 refine SL.W (SO.buildSlice sty45 rfl rfl rfl (szs_mk (by exact ⟨rfl, rfl, trivial⟩)) dC) ?_
 rintro _ _ _ ⟨b13, rfl, rfl, rfl⟩
 refine SL.W (SO.call call88 rfl (or_spec E g _ _ [cmpI l.length m.length, cmpL l m] (Rd.pt 0 rfl) ⟨_, _, rfl⟩ (fun _ => rfl) (by simp))) ?_
 rintro _ _ _ ⟨rfl, rfl, rfl⟩
 refine SL.A rfl (SL.nil (ST.thenN (SC.ret (ST.drop (s' := s) (.cons _ (.refl _)) ?_))))
 exact ST.ret1 (.inl rfl) results44 rfl ⟨by unfold compareC; simp only [orI]; split <;> simp_all, rfl, rfl⟩
def ListR (g : PH) (l : List Int) (r : Sv) : Prop := Ints g (.slice r.p r.n r.c) l
theorem ListR.mono {g g' : PH} (hl : Le g g') {l : List Int} {r : Sv} (h : ListR g l r) : ListR g' l r := SlA.mono h hl
theorem ListR.len {g : PH} {l : List Int} {r : Sv} (h : ListR g l r) : r.n = l.length := (SlA.cap h).1
def Lists (g : PH) (v : Value) (l : List (List Int)) : Prop := ∃ rs, SlA encSv g v rs ∧ All2 (ListR g) l rs
theorem Lists.mono {g g' : PH} {v : Value} {l : List (List Int)} (h : Lists g v l) (hl : Le g g') : Lists g' v l := by
 obtain ⟨rs, h1, h2⟩ := h
 exact ⟨rs, h1.mono hl, h2.mono fun _ _ => ListR.mono hl⟩
def pickB (bits : Nat) (l : List Int) : List Int := (l.zipIdx.filter fun p => bits / 2 ^ p.2 % 2 == 1).map (·.1)
def subsetsC (l : List Int) : List (List Int) := (List.range (2 ^ l.length - 1)).map fun i => pickB (i + 1) l
theorem shl_one : ∀ n, n < 10 → IntKind.i64.wrap (1 * 2 ^ min ((n : Nat) : Int).toNat IntKind.i64.bits) = ((2 ^ n : Nat) : Int) := by decide
theorem shr_bit (b k : Nat) (hk : k < 10) : (((b : Nat) : Int).fdiv (2 ^ min ((k : Nat) : Int).toNat IntKind.i64.bits)) % 2 = ((b / 2 ^ k % 2 : Nat) : Int) := by
 have h1 : min ((k : Nat) : Int).toNat IntKind.i64.bits = k := by
  have : IntKind.i64.bits = 64 := rfl
  rw [this]; omega
 rw [h1, Int.fdiv_eq_ediv_of_nonneg _ (Int.le_of_lt (Int.pow_pos dC))]
 simp
theorem pow_le (n : Nat) (h : n ≤ 9) : 2 ^ n ≤ 512 := by
 have : (2 : Nat) ^ n ≤ 2 ^ 9 := Nat.pow_le_pow_right dC h
 simpa using this
theorem pickB_succ {bits k : Nat} {l : List Int} (h : k < l.length) : pickB bits (l.take (k + 1)) = if bits / 2 ^ k % 2 = 1 then pickB bits (l.take k) ++ [l[k]] else pickB bits (l.take k) := by
 unfold pickB
 rw [List.take_succ_eq_append_getElem h, List.zipIdx_append, List.filter_append, List.map_append]
 have : (List.take k l).length = k := by rw [List.length_take]; omega
 rw [this]
 simp only [List.zipIdx_cons, List.zipIdx_nil, Nat.zero_add, List.filter_cons, List.filter_nil]
 by_cases hb : bits / 2 ^ k % 2 = 1
 ·simp [hb]
 ·simp [hb]
theorem pickB_length (bits : Nat) (l : List Int) : (pickB bits l).length ≤ l.length := by
 unfold pickB
 rw [List.length_map]
 have := List.length_filter_le (fun p : Int × Nat => bits / 2 ^ p.2 % 2 == 1) l.zipIdx
 simpa using this
theorem subsets_spec (E : World) (g : PH) (s : Own) (v : Value) (l : List Int) (hv : Ints g v l) (hl : l.length ≤ 9) :
  Ctr Tryz.prog E 42 #[v] g s (fun r g' s' => s = s' ∧ Le g g' ∧ Lists g' r (subsetsC l)) := by
 obtain ⟨p, c, rfl⟩ := SlA.form hv
 have hpow := pow_le l.length hl
 refine Ctr.of (args := [.slice p l.length c]) func42 rfl ntmps42 (Nat.le_of_ble_eq_true rfl) ?_
 refine SC.seq (SC.region (SL.A rfl (SL.nil (ST.thenN (SC.seq (SC.region (SL.A rfl (SL.nil (ST.thenN (SC.seq (SC.seq (SC.region (SL.A rfl (SL.nil (ST.thenN (SC.block (SC.nilRow 45 1 ?_)))))))))))))))))
 refine SC.loop (ι := PH × Value × Nat × List Sv) (fun i => [(0, .slice p l.length c), (3, i.2.1), (4, vi (i.2.2.1 + 1 : Nat))]) (fun i => i.1)
  (fun i => rowA encSv 45 i.2.1 i.2.2.2 :: s) (fun i => Le g i.1 ∧ i.2.2.1 + 1 ≤ 2 ^ l.length ∧ All2 (ListR i.1) ((List.range i.2.2.1).map fun j => pickB (j + 1) l) i.2.2.2) (fun i => 2 ^ l.length - i.2.2.1)
  (g, .slice none 0 0, 0, []) ⟨rfl, rfl, rfl, trivial⟩ rfl rfl ⟨Le.refl g, Nat.one_le_two_pow, trivial⟩ ?_
 rintro ⟨g1, ov, b, rs⟩ ⟨hle, hb, hall⟩
 dsimp only at hle hb hall ⊢
 have hrl := hall.length
 simp only [List.length_map, List.length_range] at hrl
 refine SC.seq (SC.seq (SC.region (SL.M rfl (SL.M rfl (SL.U (SU.lenN underlying45 rfl) (SL.U (SU.eq (v' := vi ((2 ^ l.length : Nat) : Int)) (SU.shl rfl rfl oM) (congrArg vi (shl_one l.length oM))) (SL.U (SU.lss rfl rfl) (SL.nil (ST.thenN ?_)))))))))
 refine SC.ifP rfl (fun hlt => ?_) (fun hlt => ?_)
 ·have hbl : b + 1 < 2 ^ l.length := oM
  refine SC.skip (ST.thenN (SC.seq (SC.block (SC.seq (SC.region (SL.A rfl (SL.nil (ST.thenN (SC.seq (SC.seq (SC.nilRow 3 1 (SC.region (SL.M rfl (SL.U (SU.lenN underlying45 rfl) (SL.M rfl (SL.nil (ST.thenN (SC.block ?_))))))))))))))))))
  refine SC.loop (ι := Value × Nat) (fun i => [(0, .slice p l.length c), (3, ov), (4, vi (b + 1 : Nat)), (5, i.1), (15, .slice p l.length c), (16, vi l.length), (17, vi i.2)]) (fun _ => g1)
   (fun i => rowA encInt 3 i.1 (pickB (b + 1) (l.take i.2)) :: rowA encSv 45 ov rs :: s) (fun i => i.2 ≤ l.length) (fun i => l.length - i.2) (.slice none 0 0, 0)
   ⟨rfl, rfl, rfl, rfl, rfl, rfl, rfl, trivial⟩ rfl rfl (Nat.zero_le _) ?_
  rintro ⟨cv, k⟩ hk
  dsimp only at hk ⊢
  have hpl := pickB_length (b + 1) (l.take k)
  rw [List.length_take] at hpl
  refine SC.seq (SC.region (SL.U (SU.lss rfl rfl) (SL.nil (ST.thenN (SC.seq ?_)))))
  refine SC.ifP rfl (fun hlt2 => ?_) (fun hlt2 => ?_)
  ·have hkl : k < l.length := oM
   have hb1 := SlA.based (hv.mono hle) oM
   have hsucc := pickB_succ (bits := b + 1) hkl
   refine SC.skip (ST.thenN (SC.seq (SC.block (SC.seq (SC.region (SL.M rfl (SL.U (SU.indexAddr underlying45 sizeOf3 rfl rfl hb1 oM sL) ?_)))))))
   refine SL.q (SQ.elem1 isAgg3 rfl (SlA.rd (hv.mono hle)) (List.getElem?_eq_getElem hkl) rfl) dC ?_
   refine SL.A rfl (SL.A rfl (SL.nil (ST.thenN (SC.seq (SC.region (SL.M rfl (SL.M rfl (SL.U (SU.shr rfl rfl oM) (SL.U (SU.eq (v' := vi (((b + 1) / 2 ^ k % 2 : Nat) : Int)) (SU.and rfl rfl) (congrArg vi ((and_one _).trans (shr_bit (b + 1) k oM)))) (SL.U (SU.eql rfl rfl) (SL.nil (ST.thenN ?_))))))))))))
   refine SC.ifP rfl (fun hbit => ?_) (fun hbit => ?_)
   ·refine SC.region (SL.M rfl (SL.M rfl (SL.W (SO.buildSlice sty45 rfl rfl rfl (szs_mk (by exact ⟨rfl, trivial⟩)) dC) ?_)))
    rintro _ _ _ ⟨b29, rfl, rfl, rfl⟩
    refine SL.W (SO.app1A 0 l[k] sty45 rfl rfl rfl rfl rfl oM oM) ?_
    rintro cv' _ _ ⟨rfl, rfl⟩
    refine SL.A rfl (SL.nil (ST.blockN (ST.thenN (SC.region (SL.U (SU.add rfl rfl oM) (SL.M rfl (SL.nil ?_)))))))
    refine ST.to (fun w hw => ?_) (g' := g1) (s' := rowA encInt 3 cv' (pickB (b + 1) (l.take (k + 1))) :: rowA encSv 45 ov rs :: s) ?_
    ·rw [hsucc, if_pos oM]; exact hw
    exact ST.again (cv', k + 1) ⟨rfl, rfl, rfl, rfl, rfl, rfl, rfl, trivial⟩ rfl rfl lN lN
   ·refine SC.skip (ST.blockN (ST.thenN (SC.region (SL.U (SU.add rfl rfl oM) (SL.M rfl (SL.nil ?_))))))
    refine ST.to (fun w hw => ?_) (g' := g1) (s' := rowA encInt 3 cv (pickB (b + 1) (l.take (k + 1))) :: rowA encSv 45 ov rs :: s) ?_
    ·rw [hsucc, if_neg oM]; exact hw
    exact ST.again (cv, k + 1) ⟨rfl, rfl, rfl, rfl, rfl, rfl, rfl, trivial⟩ rfl rfl lN lN
  ·have hkk : l.take k = l := List.take_of_length_le oM
   refine SC.exit (ST.thenX (ST.thenX (ST.blockX (ST.thenN (SC.region (SL.freezeRow fun g2 hle2 hs2 => ?_))))))
   rw [hkk] at hs2
   obtain ⟨q2, d2, rfl⟩ := SlA.form (e := encInt) hs2
   refine SL.M rfl (SL.M rfl (SL.W (SO.buildSlice sty22 rfl rfl rfl (szs_mk (by exact ⟨rfl, trivial⟩)) dC) ?_))
   rintro _ _ _ ⟨b34, rfl, rfl, rfl⟩
   refine SL.W (SO.app1A (e := encSv) 0 ⟨q2, (pickB (b + 1) l).length, d2⟩ sty22 rfl rfl rfl rfl rfl oM oM) ?_
   rintro ov' _ _ ⟨rfl, rfl⟩
   refine SL.A rfl (SL.nil (ST.blockN (ST.thenN (SC.region (SL.M rfl (SL.U (SU.add rfl rfl oM) (SL.A rfl (SL.nil ?_))))))))
   exact ST.again (g2, ov', b + 1, rs ++ [⟨q2, (pickB (b + 1) l).length, d2⟩]) ⟨rfl, rfl, vi_eq (by simp), trivial⟩ rfl rfl ⟨hle.trans hle2, hbl, by
    dsimp only
    rw [List.range_succ, List.map_append]
    exact (hall.mono fun _ _ => ListR.mono hle2).append ⟨hs2, trivial⟩⟩ lN
 ·refine SC.exit (ST.thenX (ST.thenX (ST.blockX (ST.thenN (SC.seq (SC.region (SL.M rfl (SL.A rfl (SL.nil (ST.thenN (SC.ret (ST.freezeRow fun g2 hle2 hs2 => ?_))))))))))))
  have hbb : b = 2 ^ l.length - 1 := oM
  exact ST.ret1 (.inl rfl) results42 rfl ⟨rfl, hle.trans hle2, rs, hs2, by rw [hbb] at hall; exact hall.mono fun _ _ => ListR.mono hle2⟩
end Go.Proofs.YtkdibcicncjpdaaGreat
