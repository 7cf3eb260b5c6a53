/-
  The evaluator's soundness, nineteenth part: append. The evaluator's soundness, twentieth part: append, second half. The evaluator's soundness, twenty-first part: append as an operation. The evaluator's soundness, twenty-second part: every effect that an operation has by itself. The evaluator's soundness, twenty-third part: where the rest is False, the whole is. The evaluator's soundness, twenty-fourth part: where the rest is False, the whole is: effects, regions, control. The evaluator's soundness, twenty-fifth part: memory that a call reaches; names that stand for names. The evaluator's soundness, twenty-sixth part: what a call promises; calls that are run in one order for their result and then in all. No condition.
-/
import Derived.Test.YtbfeggodaaojgaaGreatDoorBa05
import Derived.RangeFuncLeaves
import Derived.RangeFuncRecord
import Derived.Orders
set_option linter.all false
section
set_option linter.all false
set_option linter.unusedVariables false
set_option linter.unusedSimpArgs false
namespace Go.Ev
open Go
section
variable {P : Program} {fr : Fm} {m : Mem} {n : Pos} {d : LD} {c : SV → Mem → Pos → LD → Prop}

/-- A block goes on under the next name, and its old name is dropped. -/
theorem evo_move {ρ : Env} {w : World} (h : Rel P ρ n m w) (hf : ρ n = none) {p : Pos} {ob ob' : SO} {a k : Nat} {real : Obj} (hp : Tr.get p m = some ob) (hr : ρ p = some (a, k)) (ho : OR P (upd ρ n (a, k)) k ob' real) :
    Evo P ρ n m w (upd ρ n (a, k)) n.succ (Tr.put n (Tr.del p m) ob') { w with heap := w.heap.setIfInBounds a real } := by
  have hx := upd_ext (x := (a, k)) hf
  have hsn : n.succ.nat = n.nat + 1 := Pos.nat_succ n
  have hlive : ∀ q, q ≠ n → Tr.get q (Tr.put n (Tr.del p m) ob') ≠ none → q ≠ p ∧ Tr.get q m ≠ none ∧ Tr.get q (Tr.put n (Tr.del p m) ob') = Tr.get q m := fun q e hq => by
    rw [get_put_ne n q _ ob' (Ne.symm e)] at hq ⊢
    by_cases e2 : p = q
    · subst e2; rw [get_del_same] at hq; exact absurd rfl hq
    · rw [get_del_ne p q m e2] at hq ⊢; exact ⟨Ne.symm e2, hq, rfl⟩
  have hpl : Tr.get p m ≠ none := by rw [hp]; simp
  have ha : a < w.heap.size := h.lt hpl hr
  refine ⟨hx, fun q hq => upd_ne fun e => by subst e; omega, ⟨fun q s x j j' hq hs h1 h2 => ?_, fun q o hq => ?_⟩, rfl, rfl, rfl, Nat.le_refl _, by simp, fun x hx hn => ?_, fun q x j hq hj => ?_⟩
  · by_cases e1 : q = n
    · subst e1
      by_cases e2 : s = q
      · exact e2.symm
      · rw [upd_same] at h1; rw [upd_ne e2] at h2
        injection h1 with h1; injection h1 with h1 _; subst h1
        obtain ⟨g1, g2, _⟩ := hlive s e2 hs
        exact absurd (h.inj s p a j' k g2 hpl h2 hr) g1
    · by_cases e2 : s = n
      · subst e2
        rw [upd_same] at h2; rw [upd_ne e1] at h1
        injection h2 with h2; injection h2 with h2 _; subst h2
        obtain ⟨g1, g2, _⟩ := hlive q e1 hq
        exact absurd (h.inj q p a j k g2 hpl h1 hr) g1
      · rw [upd_ne e1] at h1; rw [upd_ne e2] at h2
        exact h.inj q s x j j' (hlive q e1 hq).2.1 (hlive s e2 hs).2.1 h1 h2
  · by_cases e1 : q = n
    · subst e1
      rw [get_put_same] at hq
      injection hq with hq; subst hq
      exact ⟨_, _, real, upd_same, by simp [ha], ho⟩
    · obtain ⟨g1, g2, g3⟩ := hlive q e1 (by rw [hq]; simp)
      rw [g3] at hq
      obtain ⟨x, j, r, f1, f2, f3⟩ := h.mem q o hq
      refine ⟨x, j, r, by rw [upd_ne e1]; exact f1, ?_, f3.mono P hx⟩
      have : a ≠ x := fun e => g1 (h.inj q p x j k g2 hpl f1 (e ▸ hr))
      simp [Array.getElem?_setIfInBounds, this, f2]
  · have : a ≠ x := fun e => hn p k hpl (e ▸ hr)
    simp [Array.getElem?_setIfInBounds, this]
  · by_cases e1 : q = n
    · subst e1; rw [upd_same] at hj; injection hj with hj; injection hj with hj _; subst hj; exact .inr ⟨p, k, hpl, hr⟩
    · rw [upd_ne e1] at hj; exact .inr ⟨q, j, (hlive q e1 hq).2.1, hj⟩

theorem growBy_le (need : Nat) : ∀ (r c : Nat), c < need → Builtin.growBy need r c ≤ 2 * need + 1024
  | 0, c, h => by simp only [Builtin.growBy]; omega
  | r + 1, c, h => by
    simp only [Builtin.growBy]
    rw [if_neg (by omega)]
    by_cases h1 : c + (c + 768) / 4 < need
    · exact growBy_le need r _ h1
    · cases r with
      | zero => simp only [Builtin.growBy]; omega
      | succ r => simp only [Builtin.growBy]; rw [if_pos (by omega)]; omega
theorem nextcap_le {need old : Nat} (h : old < need) : Builtin.nextslicecap need old ≤ 2 * need + 1024 := by
  unfold Builtin.nextslicecap
  split
  · omega
  · split
    · omega
    · exact growBy_le need 4 old h
/-- What an append adds: so many elements, read when they are asked for. -/
structure Adds (P : Program) (ts : Array TypeId) (x : Value) (el : TypeId) (k : Nat) (xs : List Value) (w : World) : Prop where
  fit : ∀ (ty : TypeId) (base : Option Addr) (l q z : Nat) (w' : World), (∀ v, (sizeOf el).run P v = .ok z v) → l + k ≤ q → (match base with | some a => (storeCells (a.add (l * z)) xs).run P w = .ok () w' | none => w' = w) → (Builtin.append_ ts ty #[.slice base l q, x]).run P w = .ok (.slice base (l + k) q) w'
  grow : ∀ (ty : TypeId) (base : Option Addr) (l q z b : Nat) (i : TypeInfo) (old : List Value) (zv : Value), (∀ v, (sizeOf el).run P v = .ok z v) → P.info? el = some i → i.bytes = b → b ≠ 0 → ¬ l + k ≤ q → (2 * (l + k) + 1024) * b ≤ 2 ^ 48 →
    (Builtin.firstCells z l (.slice base l q)).run P { w with drawn := w.drawn + 1 } = .ok old.toArray { w with drawn := w.drawn + 1 } → (∀ v, (zeroValue el).run P v = .ok zv v) →
    (Builtin.append_ ts ty #[.slice base l q, x]).run P w = .ok (.slice (some ⟨w.heap.size, 0, none⟩) (l + k) ((Question.appendCap (l + k) q el).cut (w.tape w.drawn (.appendCap (l + k) q el))))
      { w with heap := w.heap.push (.cells (old.toArray ++ xs.toArray ++ Builtin.zeroCells zv.cells ((Question.appendCap (l + k) q el).cut (w.tape w.drawn (.appendCap (l + k) q el)) - (l + k))) el), drawn := w.drawn + 1 }
theorem adds_src {t u el : TypeId} {x : Value} {k z : Nat} {xs : List Value} {w : World} (ht : P.underlying t = some (.slice el)) (hu : ∃ d, P.underlying u = some d ∧ ∀ j, d ≠ .int j) (hz : szT P el = some z)
    (hl : ∀ w, (Builtin.lenOf x).run P w = .ok k w) (hf : ∀ dr, (Builtin.firstCells z k x).run P { w with drawn := dr } = .ok xs.toArray { w with drawn := dr }) : Adds P #[t, u] x el k xs w := by
  obtain ⟨d, hu, hd⟩ := hu
  have hm : (match d with | .int _ => true | _ => false) = false := by cases d <;> first | rfl | exact absurd rfl (hd _)
  have hf0 := hf w.drawn
  refine ⟨fun ty base l q z' w' hz' h1 h2 => ?_, fun ty base l q z' b i old zv hz' hi hb hb0 h1 h2 h3 h4 => ?_⟩
  · have hzz : z' = z := by have := hz' w; rw [szT_run hz w] at this; injection this with this; exact this.symm
    subst hzz
    have hfit : l + k ≤ q := h1
    cases base with
    | none =>
      simp only at h2
      subst h2
      simp [Builtin.append_, run_underlying ht, run_underlying hu, hm, szT_run hz w', hl, hfit, hf0]
    | some a =>
      simp only at h2
      simp [Builtin.append_, run_underlying ht, run_underlying hu, hm, szT_run hz w, hl, hfit, hf0, h2]
  · have hzz : z' = z := by have := hz' w; rw [szT_run hz w] at this; injection this with this; exact this.symm
    subst hzz
    have hti : ∀ w, (typeInfo el).run P w = .ok i w := fun w => by simp [typeInfo, hi]
    have hcap := nextcap_le (need := l + k) (old := q) (by omega)
    have hmul : Builtin.nextslicecap (l + k) q * b ≤ (2 * (l + k) + 1024) * b := Nat.mul_le_mul_right b hcap
    have h5 : ¬ (Builtin.nextslicecap (l + k) q * i.bytes > 2 ^ 48) := by rw [hb]; omega
    have hbl : l + k ≤ (2 * (l + k) + 1024) * b := by
      have := Nat.le_mul_of_pos_right (2 * (l + k) + 1024) (Nat.pos_of_ne_zero hb0)
      omega
    have h6 : ¬ (((l + k : Nat) : Int) > IntKind.i64.max ∧ (False ∨ i.bytes = 0)) := by rw [hb]; intro h; rcases h.2 with h | h; exact h; exact hb0 h
    have hq : (Question.appendCap (l + k) q el).forced = false := rfl
    have hf1 := hf (w.drawn + 1)
    have h5' : ¬ (Builtin.nextslicecap (l + k) q * b > 2 ^ 48) := hb ▸ h5
    have h3' : (Builtin.firstCells z' l (Value.slice base l q)).run P w.drew = .ok old.toArray w.drew := h3
    have hf1' : (Builtin.firstCells z' k x).run P w.drew = .ok xs.toArray w.drew := hf1
    simp [Builtin.append_, run_underlying ht, run_underlying hu, hm, szT_run hz, hl, h1, hti, h5', hb, hb0, hq, h3', hf1', h4, run_newRow]
    have h7 : ∀ Z : Array Value, old.toArray ++ (xs.toArray ++ Z) = (old ++ xs).toArray ++ Z := fun Z => by apply Array.ext'; simp only [Array.toList_append, List.append_assoc]
    rw [h7]
    rfl
/-- The same for zeros that are appended. -/
theorem adds_zero {t u el : TypeId} {x : Value} {k z b : Nat} {j j' : IntKind} {zv : Value} {i : TypeInfo} {w : World} (ht : P.underlying t = some (.slice el)) (hu : P.underlying u = some (.int j)) (hz : szT P el = some z)
    (hi : P.info? el = some i) (hb : i.bytes = b) (hx : x = .int j' k) (hk : k * b ≤ 2 ^ 48) (hb0 : b ≠ 0) (hz0 : z ≠ 0) (hzv : ∀ w, (zeroValue el).run P w = .ok zv w) : Adds P #[t, u] x el k (List.replicate k zv.cells.toList).flatten w := by
  subst hx
  have hti : ∀ w, (typeInfo el).run P w = .ok i w := fun w => by simp [typeInfo, hi]
  have hkb : k ≤ k * b := Nat.le_mul_of_pos_right k (Nat.pos_of_ne_zero hb0)
  have w1 : IntKind.i64.wrap (k : Int) = k := wrap_hi (by simp only [hiN]; omega)
  have n1 : ¬ ((k : Int) < 0) := by omega
  have n2 : ¬ ((k : Int) * (b : Int) > 2 ^ 48) := by
    have h1 : ((k * b : Nat) : Int) ≤ ((2 ^ 48 : Nat) : Int) := Int.ofNat_le.2 hk
    rw [Int.natCast_mul] at h1
    have : ((2 ^ 48 : Nat) : Int) = (2 : Int) ^ 48 := by decide
    omega
  have n3 : ¬ (281474976710656 < (k : Int) * (b : Int)) := by
    have : (2 : Int) ^ 48 = 281474976710656 := by decide
    omega
  have hai : ∀ (v : Int) w, (asIntOf (.int j' v)).run P w = .ok (j', v) w := fun _ _ => rfl
  have w0 : IntKind.i64.wrap 0 = 0 := by decide
  have hzz : Builtin.zeroCells zv.cells k = (List.replicate k zv.cells.toList).flatten.toArray := zeros_eq zv.cells k
  have hzl : k * zv.cells.size = 0 → (List.replicate k zv.cells.toList).flatten = [] := fun h => by
    have := congrArg Array.size hzz
    simp only [Builtin.zeroCells, Array.size_map, Array.size_range, h] at this
    exact List.eq_nil_of_length_eq_zero (by simpa using this.symm)
  refine ⟨fun ty base l q z' w' hz' h1 h2 => ?_, fun ty base l q z' b' i' old zv' hz' hi' hb' hb0' h1 h2 h3 h4 => ?_⟩
  · have hzz' : z' = z := by have := hz' w; rw [szT_run hz w] at this; injection this with this; exact this.symm
    subst hzz'
    by_cases hk0 : k = 0
    · subst hk0
      have h1' : l ≤ q := by simpa using h1
      cases base with
      | none =>
        simp only at h2
        subst h2
        simp [Builtin.append_, run_underlying ht, run_underlying hu, asInt, hai, w0, w1, n3, szT_run hz w', hti, hb, h1']
      | some a =>
        simp only [List.replicate_zero, List.flatten_nil, storeCells, Sem.run_pure] at h2
        injection h2 with _ h2
        subst h2
        simp [Builtin.append_, run_underlying ht, run_underlying hu, asInt, hai, w0, w1, n3, szT_run hz w, hti, hb, h1', storeCells]
    · have hkz : ¬ (k = 0 ∨ z' = 0) := by omega
      have hkz : ¬ k * z' = 0 := by rw [Nat.mul_eq_zero]; exact hkz
      cases base with
      | none =>
        simp only at h2
        subst h2
        simp [Builtin.append_, run_underlying ht, run_underlying hu, asInt, hai, w0, w1, n3, szT_run hz w', hti, hb, n1, n2, h1, hkz, hzv w', hk0, hz0]
      | some a =>
        simp only at h2
        simp [Builtin.append_, run_underlying ht, run_underlying hu, asInt, hai, w0, w1, n3, szT_run hz w, hti, hb, n1, n2, h1, hkz, hzv w, hk0, hz0, hzz, h2]
  · have hzz' : z' = z := by have := hz' w; rw [szT_run hz w] at this; injection this with this; exact this.symm
    subst hzz'
    rw [hi] at hi'; injection hi' with hi'; subst hi'
    have hbb : b' = b := by rw [← hb', hb]
    subst hbb
    have hzvv : zv' = zv := by have := h4 w; rw [hzv w] at this; injection this with this; exact this.symm
    subst hzvv
    have hcap := nextcap_le (need := l + k) (old := q) (by omega)
    have hmul : Builtin.nextslicecap (l + k) q * b' ≤ (2 * (l + k) + 1024) * b' := Nat.mul_le_mul_right b' hcap
    have h5' : ¬ (Builtin.nextslicecap (l + k) q * b' > 2 ^ 48) := by omega
    have hbl : l + k ≤ (2 * (l + k) + 1024) * b' := by
      have := Nat.le_mul_of_pos_right (2 * (l + k) + 1024) (Nat.pos_of_ne_zero hb0)
      omega
    have hmax : IntKind.i64.max = 9223372036854775807 := by decide
    have n4 : ¬ (9223372036854775807 < (l : Int) + (k : Int)) := by omega
    have hq : (Question.appendCap (l + k) q el).forced = false := rfl
    have h3' : (Builtin.firstCells z' l (Value.slice base l q)).run P w.drew = .ok old.toArray w.drew := h3
    have hk0 : k = 0 ∨ k ≠ 0 := by omega
    rcases hk0 with rfl | hk0
    · have h1' : ¬ l ≤ q := by simpa using h1
      have n4' : ¬ (9223372036854775807 < (l : Int)) := by omega
      have h5'' : ¬ (Builtin.nextslicecap l q * b' > 2 ^ 48) := by simpa using h5'
      have hq' : (Question.appendCap l q el).forced = false := rfl
      simp [Builtin.append_, run_underlying ht, run_underlying hu, asInt, hai, w0, szT_run hz, hti, hb, h1', n4', h5'', hb0, hq', h3', h4, run_newRow]
      rfl
    · have h7 : ∀ X Z : Array Value, old.toArray ++ (X ++ Z) = (old.toArray ++ X) ++ Z := fun X Z => by rw [Array.append_assoc]
      simp [Builtin.append_, run_underlying ht, run_underlying hu, asInt, hai, w1, n1, n3, szT_run hz, hti, hb, h1, n4, h5', hb0, hq, h3', h4, hk0, hz0, hzz, run_newRow]
      have h8 : ∀ (Y : List Value) (Z : Array Value), old.toArray ++ (Y.toArray ++ Z) = (old ++ Y).toArray ++ Z := fun Y Z => by apply Array.ext'; simp only [Array.toList_append, List.append_assoc]
      have hkz : ¬ k * z' = 0 := by rw [Nat.mul_eq_zero]; omega
      rw [h8, if_neg hkz]
      rfl
end
end Go.Ev
end
section
set_option linter.all false
set_option linter.unusedVariables false
set_option linter.unusedSimpArgs false
namespace Go.Ev
open Go
section
variable {P : Program} {fr : Fm} {m : Mem} {n : Pos} {d : LD}

/-- What an append comes to. -/
def ApOk (P : Program) (m : Mem) (n : Pos) (v ly : SV) (k z : Nat) (el : TypeId) (r : SV) (m' : Mem) (n' : Pos) : Prop :=
  n.nat ≤ n'.nat ∧ (Below m n → Below m' n') ∧ ∀ ρ w s x xs ts ty, Rel P ρ n m w → Free ρ n n' → VR ρ v s → LV ρ ly xs → (∀ y ∈ xs, One y) → xs.length = k * z → Adds P ts x el k xs w →
    ∃ ρ' w' y, Evo P ρ n m w ρ' n' m' w' ∧ VR ρ' r y ∧ (Builtin.append_ ts ty #[s, x]).run P w = .ok y w'
theorem zeroCells_size (z : Array Value) (k : Nat) : (Builtin.zeroCells z k).size = k * z.size := by simp [Builtin.zeroCells]
/-- A new row takes the old elements, those that are added, and zeros. -/
theorem row_new {el : TypeId} {z b : Nat} {zc : SV} {ρ : Env} {w : World} (hz : szT P el = some z) (hb : byT P el = some b) (hzc : zcT P el = some zc) (hb0 : b ≠ 0) (hm : Rel P ρ n m w) (hf : ρ n = none) {l q k t : Nat} {base : Option Addr} {old xs : List Value} {r : SV} {ts : Array TypeId} {ty : TypeId} {x : Value}
    (ht : t = l + k) (hr : ∀ ρ', Ext ρ ρ' → LV ρ' r (old ++ xs)) (ho : old.length = l * z) (hxs : xs.length = k * z) (ha : Adds P ts x el k xs w) (hq : ¬ l + k ≤ q) (hroom : (2 * (l + k) + 1024) * b ≤ 2 ^ 48)
    (hold : ∀ dr, (Builtin.firstCells z l (.slice base l q)).run P { w with drawn := dr } = .ok old.toArray { w with drawn := dr }) :
    ∃ ρ' w' y, Evo P ρ n m w ρ' n.succ (Tr.put n m (.grow r z)) w' ∧ VR ρ' (.slice n 0 t (.r 0)) y ∧ (Builtin.append_ ts ty #[.slice base l q, x]).run P w = .ok y w' := by
  obtain ⟨i, zv, g3, g4, g5, g6⟩ := zcT_info hzc
  have hik : i.size = z := by unfold szT at hz; rw [g3] at hz; injection hz
  have hib : i.bytes = b := by unfold byT at hb; rw [g3] at hb; injection hb
  have hzv : ∀ w, (zeroValue el).run P w = .ok zv w := fun w => by simp [zeroValue, typeInfo, g3, g4]
  have h1 := ha.grow ty base l q z b i old zv (szT_run hz) g3 hib hb0 hq hroom (hold _) hzv
  subst ht
  generalize hK : (Question.appendCap (l + k) q el).cut (w.tape w.drawn (.appendCap (l + k) q el)) = K at h1
  have hKn : l + k ≤ K := by rw [← hK]; simp only [Question.cut]; omega
  refine ⟨_, _, _, evo_new (k := K) hm hf (Nat.le_succ _) ?_, ?_, h1⟩
  · refine ⟨old ++ xs, (Builtin.zeroCells zv.cells (K - (l + k))).toList, el, (0, 0), ?_, hr _ (upd_ext hf), thaw0 _, ?_⟩
    · congr 1; apply Array.ext'; simp
    · rw [List.length_append, List.length_append, ho, hxs, Array.length_toList, zeroCells_size, g5, hik, ← Nat.add_mul, ← Nat.add_mul]
      congr 1; omega
  · simp only [VR]; exact ⟨_, _, upd_same, rfl⟩
theorem apNew_ok {z b t : Nat} {old ly : SV} {C : SV → Mem → Pos → Prop} (h : apNew z b t old ly m n C) : ∃ r, C (.slice n 0 t (.r 0)) (Tr.put n m (.grow r z)) n.succ ∧ (2 * t + 1024) * b ≤ 2 ^ 48 ∧ ∀ ρ vs xs, LV ρ old vs → LV ρ ly xs → LV ρ r (vs ++ xs) := by
  obtain ⟨h1, h2⟩ := bK_t h
  obtain ⟨r, h3, h4⟩ := appK_ok _ _ _ h2
  have h5 := succK_ok _ _ (putK_ok _ _ _ _ h3)
  exact ⟨r, h5, Nat.le_of_ble_eq_true h1, h4⟩
theorem ap_fit {el : TypeId} {z b o j t q p0 : Nat} {zc : SV} {p : Pos} {ly : SV} {C : SV → Mem → Pos → Prop} (hz : szT P el = some z) (hb : byT P el = some b) (hzc : zcT P el = some zc) (hb0 : b ≠ 0) {k : Nat} (ht : t = j + k) (h : apFit z b o j t q p ly m n C) :
    ∃ r m' n', C r m' n' ∧ ApOk P m n (.slice p o j (.k q)) ly k z el r m' n' := by
  obtain ⟨ob, h1, h2⟩ := getK_ok _ _ _ h
  have hsucc : n.nat ≤ n.succ.nat := by rw [Pos.nat_succ]; omega
  have hkz : Nat.mul j z = j * z := rfl
  rcases bK_ok h2 with ⟨h3, h4⟩ | ⟨h3, h4⟩
  · have h3 := Nat.le_of_ble_eq_true h3
    obtain ⟨l, mk, h5, h6⟩ := onSet_ok h4
    obtain ⟨r, h7, h8⟩ := setK_ok _ _ _ _ h5
    have h9 := putK_ok _ _ _ _ h7
    refine ⟨_, _, _, h9, Nat.le_refl _, fun hb => below_put hb (by rw [h1]; simp), fun ρ w s x xs ts ty hm hf hs hl h1' hx ha => ?_⟩
    simp only [VR] at hs
    obtain ⟨a, k', e1, rfl⟩ := hs
    obtain ⟨w', e2, e3⟩ := row_store hm h1 h6 e1 h8 hl h1'
    have e4 : (⟨a, o, none⟩ : Addr).add (j * z) = ⟨a, o + Nat.mul j z, none⟩ := add_lit a o (j * z)
    refine ⟨ρ, w', _, e3, ?_, ha.fit ty (some ⟨a, o, none⟩) j q z w' (szT_run hz) (by omega) (by show (storeCells ((⟨a, o, none⟩ : Addr).add (j * z)) xs).run P w = .ok () w'; rw [e4]; exact e2)⟩
    simp only [VR]; exact ⟨a, k', e1, by rw [ht]⟩
  · have h3 := ble_not.1 h3
    obtain ⟨l, h5, h6⟩ := onRow_ok h4
    obtain ⟨old, h7, h8⟩ := rangeK_ok h5
    obtain ⟨r, h9, h10, h11⟩ := apNew_ok h7
    refine ⟨_, _, _, h9, hsucc, below_new, fun ρ w s x xs ts ty hm hf hs hl h1' hx ha => ?_⟩
    simp only [VR] at hs
    obtain ⟨a, k', e1, rfl⟩ := hs
    obtain ⟨l', hl', vs, zs, T, f, g1, g2, _⟩ := hm.row (c := fun r => r = l) h1 e1 (by rcases h6 with rfl | ⟨z, rfl⟩ <;> rfl)
    subst hl'
    obtain ⟨g3, g4⟩ := h8 ρ vs g2
    rw [hkz] at g3 g4
    refine row_new hz hb hzc hb0 hm (hf n (Nat.le_refl _) (by rw [Pos.nat_succ]; omega)) (old := (vs.drop o).take (j * z)) ht (fun ρ' hx' => h11 ρ' _ _ (LV.mono hx' _ _ g3) (LV.mono hx' _ _ hl)) (by simp; omega) hx ha (by omega) (ht ▸ h10) (fun dr => ?_)
    have g5 := run_loadRow (P := P) (w := { w with drawn := dr }) (o := o) (k := j * z) g1 (by rw [List.length_append]; omega)
    simp only [Builtin.firstCells, g5]
    rw [List.drop_append_of_le_length (by omega), List.take_append_of_le_length (by rw [List.length_drop]; omega)]
theorem Evo.ofSub {ρ ρ' : Env} {n n' : Pos} {m0 m m' : Mem} {w w' : World} (h : Evo P ρ n m0 w ρ' n' m' w') (hs : Sub m0 m) : Evo P ρ n m w ρ' n' m' w' :=
  { h with
    frame := fun a ha hn => h.frame a ha fun p k hp => hn p k (hs.live hp)
    news := fun p a k hp hr => (h.news p a k hp hr).imp id fun ⟨q, k', h1, h2⟩ => ⟨q, k', hs.live h1, h2⟩ }
theorem sub_del (p : Pos) (m : Mem) : Sub (Tr.del p m) m := fun q o h => by
  by_cases e : p = q
  · subst e; rw [get_del_same] at h; cases h
  · rwa [get_del_ne p q m e] at h
theorem ap_rest {el : TypeId} {z b o j t i : Nat} {zc : SV} {p : Pos} {ly : SV} {C : SV → Mem → Pos → Prop} (hz : szT P el = some z) (hb : byT P el = some b) (hzc : zcT P el = some zc) (hb0 : b ≠ 0) (hz0 : z ≠ 0) {k : Nat} (ht : t = j + k) (h : apRest z b o j t i p ly m n C) :
    ∃ r m' n', C r m' n' ∧ ApOk P m n (.slice p o j (.r i)) ly k z el r m' n' := by
  obtain ⟨h1, h2⟩ := bK_t h
  obtain ⟨h3, h4⟩ := bK_t h2
  have h1 := Nat.eq_of_beq_eq_true h1
  have h3 := Nat.eq_of_beq_eq_true h3
  subst h1 h3
  obtain ⟨ob, h5, h6⟩ := getK_ok _ _ _ h4
  obtain ⟨l, z', rfl, h7⟩ := onGrow_ok h6
  obtain ⟨h8, h9⟩ := bK_t h7
  have h8 := Nat.eq_of_beq_eq_true h8
  subst h8
  obtain ⟨old, h10, h11⟩ := rangeK_ok h9
  obtain ⟨r, h12, h13, h14⟩ := apNew_ok (delK_ok _ _ _ h10)
  have hkz : Nat.mul j z = j * z := rfl
  refine ⟨_, _, _, h12, by rw [Pos.nat_succ]; omega, fun hb => below_new (below_del hb), fun ρ w s x xs ts ty hm hf hs hl h1' hx ha => ?_⟩
  have hfn : ρ n = none := hf n (Nat.le_refl _) (by rw [Pos.nat_succ]; omega)
  simp only [VR] at hs
  obtain ⟨a, K, e1, rfl⟩ := hs
  obtain ⟨ob, e2, vs, zs, T, f, rfl, e3, e4, e5⟩ := hm.at h5 e1
  obtain ⟨g3, g4⟩ := h11 ρ vs e3
  rw [hkz] at g3 g4
  simp only [List.drop_zero] at g3
  simp only [Nat.zero_add] at g4
  by_cases hfit : j + k ≤ K
  · have hle : (j + k) * z ≤ K * z := Nat.mul_le_mul_right z hfit
    rw [Nat.add_mul] at hle
    have f1 := run_storeRow (P := P) (o := j * z) xs 0 (vs ++ zs) w e2 (by rw [hx]; omega) e4 h1'
    have f2 : (vs ++ zs).take (j * z + 0) ++ xs ++ (vs ++ zs).drop (j * z + 0 + xs.length) = (vs.take (j * z) ++ xs) ++ (vs ++ zs).drop (j * z + xs.length) := by
      rw [Nat.add_zero, List.take_append_of_le_length (by omega)]
    rw [f2] at f1
    have f3 : (vs.take (j * z) ++ xs ++ (vs ++ zs).drop (j * z + xs.length)).length = (vs ++ zs).length := by
      simp only [List.length_append, List.length_take, List.length_drop] at e5 ⊢; omega
    have e6 : (⟨a, 0, none⟩ : Addr).add (j * z) = ⟨a, j * z, none⟩ := by rw [add_lit, Nat.zero_add]
    refine ⟨_, _, _, evo_move (k := K) hm hfn h5 e1 ⟨vs.take (j * z) ++ xs, (vs ++ zs).drop (j * z + xs.length), T, f, rfl, h14 _ _ _ (LV.mono (upd_ext hfn) _ _ g3) (LV.mono (upd_ext hfn) _ _ hl), by rw [f3]; exact e4, by rw [f3]; exact e5⟩, ?_,
      ha.fit ty (some ⟨a, 0, none⟩) j (K - 0) z _ (szT_run hz) (by omega) (by show (storeCells ((⟨a, 0, none⟩ : Addr).add (j * z)) xs).run P w = _; rw [e6]; exact f1)⟩
    simp only [VR]; exact ⟨a, K, upd_same, by rw [ht]⟩
  · obtain ⟨ρ', w', y, q1, q2, q3⟩ := row_new hz hb hzc hb0 (hm.del p) hfn (base := some ⟨a, 0, none⟩) (l := j) (q := K - 0) (old := vs.take (j * z)) ht (fun ρ' hx' => h14 ρ' _ _ (LV.mono hx' _ _ g3) (LV.mono hx' _ _ hl)) (by simp; omega) hx ha (by omega) (ht ▸ h13) (ty := ty) (fun dr => by
      have g5 := run_loadRow (P := P) (w := { w with drawn := dr }) (o := 0) (k := j * z) e2 (by rw [List.length_append]; omega)
      simp only [Builtin.firstCells, g5]
      rw [List.drop_zero, List.take_append_of_le_length (by omega)])
    exact ⟨ρ', w', y, q1.ofSub (sub_del p m), q2, q3⟩
theorem apV_ok {el : TypeId} {z b k : Nat} {zc v ly : SV} {C : SV → Mem → Pos → Prop} (hz : szT P el = some z) (hb : byT P el = some b) (hzc : zcT P el = some zc) (hb0 : b ≠ 0) (hz0 : z ≠ 0) (h : apV v z b ly k m n C) :
    ∃ r m' n', C r m' n' ∧ ApOk P m n v ly k z el r m' n' := by
  cases v <;> first | exact h.elim | skip
  · rename_i p o j q
    cases q with
    | k q => exact ap_fit (p0 := 0) hz hb hzc hb0 rfl (natK_ok (c := fun t => apFit z b o j t q p ly m n C) h)
    | r i =>
      have h := natK_ok (c := fun t => @Nat.rec (fun _ => Prop) (heldK p o j z i m (C (.slice p o j (.r i)) m n)) (fun _ _ => apRest z b o j t i p ly m n C) k) h
      cases k with
      | zero =>
        obtain ⟨h1, rfl, h3, l, r, h4, h5⟩ := heldK_ok h
        refine ⟨_, _, _, h1, Nat.le_refl _, id, fun ρ w s x xs ts ty hm hf hs hl h1' hx ha => ?_⟩
        have hs' := hs
        simp only [VR] at hs
        obtain ⟨a, K, e1, rfl⟩ := hs
        obtain ⟨ob, e2, vs, zs, T, f, rfl, e3, e4, e5⟩ := hm.at h4 e1
        obtain ⟨_, g1⟩ := h5 ρ vs e3
        rw [List.length_append] at e5
        have g2 : (i + j) * z ≤ K * z := by rw [Nat.add_mul]; omega
        have g3 : i + j ≤ K := Nat.le_of_mul_le_mul_right g2 (by omega)
        have hx0 : xs = [] := List.eq_nil_of_length_eq_zero (by simpa using hx)
        subst hx0
        refine ⟨ρ, w, _, .refl hm, hs', ha.fit ty (some ⟨a, i * z, none⟩) j (K - i) z w (szT_run hz) (by omega) rfl⟩
      | succ k => exact ap_rest hz hb hzc hb0 hz0 rfl h
  · cases k with
    | succ k => exact h.elim
    | zero =>
      refine ⟨_, _, _, h, Nat.le_refl _, id, fun ρ w s x xs ts ty hm hf hs hl h1' hx ha => ?_⟩
      have hs' := hs
      simp only [VR] at hs
      obtain ⟨a, K, o, e1, rfl⟩ := hs
      have hx0 : xs = [] := List.eq_nil_of_length_eq_zero (by simpa using hx)
      subst hx0
      exact ⟨ρ, w, _, .refl hm, hs', ha.fit ty (some ⟨a, o, none⟩) 0 _ z w (szT_run hz) (by omega) rfl⟩
  · have h := natK_ok (c := fun k => @Nat.rec (fun _ => Prop) (C .nils m n) (fun _ _ => apNew z b k .nil ly m n C) k) h
    cases k with
    | zero =>
      refine ⟨_, _, _, h, Nat.le_refl _, id, fun ρ w s x xs ts ty hm hf hs hl h1' hx ha => ?_⟩
      have hs' := hs
      simp only [VR] at hs
      subst hs
      exact ⟨ρ, w, _, .refl hm, hs', ha.fit ty none 0 0 z w (szT_run hz) (by omega) rfl⟩
    | succ k =>
      obtain ⟨r, h12, h13, h14⟩ := apNew_ok h
      refine ⟨_, _, _, h12, by rw [Pos.nat_succ]; omega, below_new, fun ρ w s x xs ts ty hm hf hs hl h1' hx ha => ?_⟩
      have hfn : ρ n = none := hf n (Nat.le_refl _) (by rw [Pos.nat_succ]; omega)
      simp only [VR] at hs
      subst hs
      exact row_new hz hb hzc hb0 hm hfn (base := none) (l := 0) (q := 0) (old := []) (by omega) (fun ρ' hx' => h14 ρ' [] _ (LV_nil.2 rfl) (LV.mono hx' _ _ hl)) (by simp) hx ha (by omega) (by simpa using h13) (fun dr => by simp [Builtin.firstCells])
end
end Go.Ev
end
section
set_option linter.all false
set_option linter.unusedVariables false
set_option linter.unusedSimpArgs false
namespace Go.Ev
open Go
section
variable {P : Program} {fr : Fm} {m : Mem} {n : Pos} {d : LD} {c : SV → Mem → Pos → LD → Prop}

theorem Rel.drew {ρ : Env} {w : World} (h : Rel P ρ n m w) (dr : Nat) : Rel P ρ n m { w with drawn := dr } := ⟨h.inj, h.mem⟩
theorem s_app {t u el : TypeId} {z b : Nat} {zc : SV} {X Y : Operand} {x y : LX} (ht : P.underlying t = some (.slice el)) (hu : ∃ d, P.underlying u = some d ∧ ∀ j, d ≠ .int j) (hz : szT P el = some z) (hb : byT P el = some b) (hzc : zcT P el = some zc)
    (hb0 : b ≠ 0) (hz0 : z ≠ 0) (hx : lowX X = some x) (hy : lowX Y = some y) (h : sApp z b x y fr m n d c) : ∃ v m' n', c v m' n' d ∧ SOk P fr (.call ⟨.builtin .append, #[X, Y], #[t, u]⟩) m n v m' n' := by
  obtain ⟨v, h1, h2⟩ := evK_ok hx h
  obtain ⟨u', h3, h4⟩ := evK_ok hy h1
  obtain ⟨ly, k, h5, h6⟩ := srcK_ok h3
  obtain ⟨r, m', n', h7, h8, h9, h10⟩ := apV_ok hz hb hzc hb0 hz0 h5
  refine ⟨r, m', n', h7, h8, h9, fun ρ w e d' ty pos af gd hm hf he => ?_⟩
  have e2 := h4 ρ e he
  obtain ⟨xs, g1, g2, g3, g4, g5⟩ := h6 ρ n w _ hm e2
  have hadds : Adds P #[t, u] (e Y) el k xs w := adds_src ht hu hz g4 (fun dr => by
      have q6 := g5 k (Nat.le_refl _) { w with drawn := dr } rfl
      rwa [List.take_of_length_le (by omega)] at q6)
  obtain ⟨ρ', w', y', q1, q2, q3⟩ := h10 ρ w _ _ xs #[t, u] ty hm hf (h2 ρ e he) g1 g2 g3 hadds
  exact ⟨ρ', w', y', _, q1, q2, run_append q3, .inl rfl⟩
theorem s_appz {t u el : TypeId} {j : IntKind} {z b : Nat} {zc : SV} {X Y : Operand} {x y : LX} (ht : P.underlying t = some (.slice el)) (hu : P.underlying u = some (.int j)) (hz : szT P el = some z) (hb : byT P el = some b) (hzc : zcT P el = some zc)
    (hb0 : b ≠ 0) (hz0 : z ≠ 0) (hx : lowX X = some x) (hy : lowX Y = some y) (h : sAppz z b zc x y fr m n d c) : ∃ v m' n', c v m' n' d ∧ SOk P fr (.call ⟨.builtin .append, #[X, Y], #[t, u]⟩) m n v m' n' := by
  obtain ⟨v, h1, h2⟩ := evK_ok hx h
  obtain ⟨u', h3, h4⟩ := evK_ok hy h1
  obtain ⟨q, k, rfl, h5⟩ := idxK_ok h3
  obtain ⟨h6, h7⟩ := bK_t h5
  obtain ⟨ly, h8, h9⟩ := repK_ok _ _ _ h7
  obtain ⟨h10, h11⟩ := onesK_ok _ _ h8
  obtain ⟨r, m', n', g1, g2, g3, g4⟩ := apV_ok hz hb hzc hb0 hz0 h10
  refine ⟨r, m', n', g1, g2, g3, fun ρ w e d' ty pos af gd hm hf he => ?_⟩
  have e2 := h4 ρ e he
  simp only [VR] at e2
  obtain ⟨i, zv, f3, f4, f5, f6⟩ := zcT_info hzc
  have hib : i.bytes = b := by unfold byT at hb; rw [f3] at hb; injection hb
  have hik : i.size = z := by unfold szT at hz; rw [f3] at hz; injection hz
  have hzv : ∀ w, (zeroValue el).run P w = .ok zv w := fun w => by simp [zeroValue, typeInfo, f3, f4]
  have hl := h9 ρ _ (f6 ρ)
  have hlen : (List.replicate k zv.cells.toList).flatten.length = k * z := by
    have := congrArg Array.size (zeros_eq zv.cells k)
    simpa [f5, hik] using this.symm
  have hadds : Adds P #[t, u] (e Y) el k (List.replicate k zv.cells.toList).flatten w := adds_zero ht hu hz f3 hib e2 (Nat.le_of_ble_eq_true h6) hb0 hz0 hzv
  obtain ⟨ρ', w', y', q1, q2, q3⟩ := g4 ρ w _ _ _ #[t, u] ty hm hf (h2 ρ e he) hl (h11 ρ _ hl) hlen hadds
  exact ⟨ρ', w', y', _, q1, q2, run_append q3, .inl rfl⟩
end
end Go.Ev
end
section
set_option linter.all false
set_option linter.unusedVariables false
set_option linter.unusedSimpArgs false
namespace Go.Ev
open Go
section
variable {P : Program} {fr : Fm} {m : Mem} {n : Pos} {d : LD} {c : SV → Mem → Pos → LD → Prop → Prop} {k : Prop} {fst : Bool} {cl : Cl} {rl : Rl} {cx : Cx}

/-- It has its effect by itself: no call, no walk over a map. -/
def selfS : LO → Bool
  | .store .. | .mput .. | .app .. | .appz .. | .cpy .. | .clr .. | .rng .. | .ment .. | .mset .. | .mdel .. => true
  | _ => false
theorem intT {t : TypeId} {d : TypeDesc} (h : P.underlying t = some d) (hd : ∀ j, d = .int j → False) : ∃ d, P.underlying t = some d ∧ ∀ j, d ≠ .int j := ⟨d, h, fun j e => hd j e⟩
theorem s_call {c0 : Call} {lo : LO} (hl : lowCall P c0 = some lo) (hk : selfS lo = true) (h : sK fst cl rl cx lo fr m n d c k) : ∃ v m' n', c v m' n' d k ∧ SOk P fr (.call c0) m n v m' n' := by
  obtain ⟨callee, args, argTypes⟩ := c0
  unfold lowCall at hl
  dsimp only at hl
  split at hl
  · split at hl
    · injection hl with hl; subst hl; cases hk
    · cases hl
  · cases hl
  · rename_i b
    obtain ⟨args⟩ := args
    obtain ⟨tys⟩ := argTypes
    dsimp only at hl
    split at hl
    · exfalso; (try simp only [lowO, lowBin, lowCall, lowApp, lowLen, lowConv] at hl); (repeat' (first | (cases hl; done) | (injection hl with e; subst e; cases hk; done) | (obtain ⟨_, _, e⟩ := map_some hl; subst e; cases hk; done) | (obtain ⟨_, _, e⟩ := Option.bind_eq_some_iff.1 hl; clear hl; have hl := e; clear e; try simp only [lowLen, lowConv] at hl) | split at hl))
    · exfalso; (try simp only [lowO, lowBin, lowCall, lowApp, lowLen, lowConv] at hl); (repeat' (first | (cases hl; done) | (injection hl with e; subst e; cases hk; done) | (obtain ⟨_, _, e⟩ := map_some hl; subst e; cases hk; done) | (obtain ⟨_, _, e⟩ := Option.bind_eq_some_iff.1 hl; clear hl; have hl := e; clear e; try simp only [lowLen, lowConv] at hl) | split at hl))
    · exfalso; (try simp only [lowO, lowBin, lowCall, lowApp, lowLen, lowConv] at hl); (repeat' (first | (cases hl; done) | (injection hl with e; subst e; cases hk; done) | (obtain ⟨_, _, e⟩ := map_some hl; subst e; cases hk; done) | (obtain ⟨_, _, e⟩ := Option.bind_eq_some_iff.1 hl; clear hl; have hl := e; clear e; try simp only [lowLen, lowConv] at hl) | split at hl))
    · exfalso; (try simp only [lowO, lowBin, lowCall, lowApp, lowLen, lowConv] at hl); (repeat' (first | (cases hl; done) | (injection hl with e; subst e; cases hk; done) | (obtain ⟨_, _, e⟩ := map_some hl; subst e; cases hk; done) | (obtain ⟨_, _, e⟩ := Option.bind_eq_some_iff.1 hl; clear hl; have hl := e; clear e; try simp only [lowLen, lowConv] at hl) | split at hl))
    · rename_i x y t u
      split at hl
      · rename_i a b' ha hb
        unfold lowApp at hl
        split at hl
        · rename_i el he
          split at hl
          · rename_i z kk j hz hkk hu
            split at hl
            · cases hl
            · rename_i hne
              obtain ⟨zc, hzc, rfl⟩ := map_some hl
              simp only [Bool.or_eq_true, beq_iff_eq, not_or, decide_eq_true_eq] at hne
              exact s_appz (c := fun v m n d => c v m n d k) (elT_u he) hu hz hkk hzc hne.1 hne.2 ha hb h
          · rename_i z kk dd hnot hz hkk hu
            split at hl
            · cases hl
            · rename_i hne
              injection hl with hl; subst hl
              simp only [Bool.or_eq_true, beq_iff_eq, not_or, decide_eq_true_eq] at hne
              cases hzc : zcT P el with
              | none => rw [hzc] at hne; simp at hne
              | some zc => exact s_app (c := fun v m n d => c v m n d k) (elT_u he) ⟨_, hu, fun j e => hnot j e⟩ hz hkk hzc hne.1.1 hne.1.2 ha hb h
          · cases hl
        · cases hl
      · cases hl
    · split at hl
      · rename_i x y t ts a b' z ha hb hz
        injection hl with hl; subst hl
        exact s_cpy (c := fun v m n d => c v m n d k) hz ha hb h
      · cases hl
    · split at hl
      · rename_i x t ts a e z zc ha he hz hzc
        injection hl with hl; subst hl
        exact s_clr (c := fun v m n d => c v m n d k) hz hzc ha h
      · cases hl
    · split at hl
      · rename_i x y t ts a b' ha hb
        obtain ⟨q, hq, rfl⟩ := map_some hl
        exact s_mdel (c := fun v m n d => c v m n d k) hq ha hb h
      · cases hl
    · exfalso; (try simp only [lowO, lowBin, lowCall, lowApp, lowLen, lowConv] at hl); (repeat' (first | (cases hl; done) | (injection hl with e; subst e; cases hk; done) | (obtain ⟨_, _, e⟩ := map_some hl; subst e; cases hk; done) | (obtain ⟨_, _, e⟩ := Option.bind_eq_some_iff.1 hl; clear hl; have hl := e; clear e; try simp only [lowLen, lowConv] at hl) | split at hl))
    · cases hl
theorem s_self {op : Op} {lo : LO} (hl : lowO P op = some lo) (hk : selfS lo = true) (h : sK fst cl rl cx lo fr m n d c k) : ∃ v m' n', c v m' n' d k ∧ SOk P fr op m n v m' n' := by
  cases op
  case store t x y =>
    simp only [lowO] at hl
    split at hl
    · rename_i kk a b hkk ha hb; injection hl with hl; subst hl; exact s_store (c := fun v m n d => c v m n d k) hkk ha hb h
    · cases hl
  case mapUpdate t x kx y =>
    simp only [lowO] at hl
    split at hl
    · rename_i a b e ha hb he
      obtain ⟨q, hq, rfl⟩ := map_some hl
      obtain ⟨v, m', n', h1, h2, h3⟩ := s_mput (c := fun v m n d => c v m n d k) hq ha hb he h
      exact ⟨v, m', n', h1, h2⟩
    · cases hl
  case insert t x kx y =>
    simp only [lowO] at hl
    split at hl
    · rename_i a b e ha hb he
      obtain ⟨q, hq, rfl⟩ := map_some hl
      obtain ⟨v, m', n', h1, h2, h3⟩ := s_mput (c := fun v m n d => c v m n d k) hq ha hb he h
      exact ⟨v, m', n', h1, h3⟩
    · cases hl
  case mapEntry t x kx =>
    simp only [lowO] at hl
    split at hl
    · rename_i z a b hz ha hb
      obtain ⟨q, hq, rfl⟩ := map_some hl
      exact s_ment (c := fun v m n d => c v m n d k) hq hz ha hb h
    · cases hl
  case entryStore t x s y =>
    simp only [lowO] at hl
    split at hl
    · rename_i a b e ha hb he; injection hl with hl; subst hl; exact s_mset (c := fun v m n d => c v m n d k) ha hb he h
    · cases hl
  case range t x =>
    simp only [lowO] at hl
    split at hl
    · rename_i hu; obtain ⟨a, ha, rfl⟩ := map_some hl; exact s_rng (st := true) (c := fun v m n d => c v m n d k) hu ha h
    · rename_i k' e hu; obtain ⟨a, ha, rfl⟩ := map_some hl; exact s_rng (st := false) (c := fun v m n d => c v m n d k) ⟨_, _, hu⟩ ha h
    · cases hl
  case call c0 => exact s_call hl hk h
  case binOp f t x y u =>
    exfalso
    simp only [lowO] at hl
    split at hl
    · unfold lowBin at hl
      (try simp only [lowO, lowBin, lowCall, lowApp, lowLen, lowConv] at hl); (repeat' (first | (cases hl; done) | (injection hl with e; subst e; cases hk; done) | (obtain ⟨_, _, e⟩ := map_some hl; subst e; cases hk; done) | (obtain ⟨_, _, e⟩ := Option.bind_eq_some_iff.1 hl; clear hl; have hl := e; clear e; try simp only [lowLen, lowConv] at hl) | split at hl))
    · cases hl
  case makeFunc f l q => exfalso; cases f <;> (try simp only [lowO, lowBin, lowCall, lowApp, lowLen, lowConv] at hl); (repeat' (first | (cases hl; done) | (injection hl with e; subst e; cases hk; done) | (obtain ⟨_, _, e⟩ := map_some hl; subst e; cases hk; done) | (obtain ⟨_, _, e⟩ := Option.bind_eq_some_iff.1 hl; clear hl; have hl := e; clear e; try simp only [lowLen, lowConv] at hl) | split at hl))
  case makeMap t r => exfalso; cases r <;> (try simp only [lowO, lowBin, lowCall, lowApp, lowLen, lowConv] at hl); (repeat' (first | (cases hl; done) | (injection hl with e; subst e; cases hk; done) | (obtain ⟨_, _, e⟩ := map_some hl; subst e; cases hk; done) | (obtain ⟨_, _, e⟩ := Option.bind_eq_some_iff.1 hl; clear hl; have hl := e; clear e; try simp only [lowLen, lowConv] at hl) | split at hl))
  all_goals (exfalso; (try simp only [lowO, lowBin, lowCall, lowApp, lowLen, lowConv] at hl); (repeat' (first | (cases hl; done) | (injection hl with e; subst e; cases hk; done) | (obtain ⟨_, _, e⟩ := map_some hl; subst e; cases hk; done) | (obtain ⟨_, _, e⟩ := Option.bind_eq_some_iff.1 hl; clear hl; have hl := e; clear e; try simp only [lowLen, lowConv] at hl) | split at hl)))
end
end Go.Ev
end
section
set_option linter.all false
set_option linter.unusedVariables false
set_option linter.unusedSimpArgs false
namespace Go.Ev
open Go

theorem f_bK {b : Bool} : bK b False False = False := by cases b <;> rfl
theorem f_natK {n : Nat} : natK n (fun _ => False) = False := by cases n <;> rfl
theorem f_intF {i : Int} : intF i (fun _ => False) = False := eq_false fun h => intF_ok h
theorem f_intN {i : Int} : intN i (fun _ => False) = False := eq_false fun h => by obtain ⟨_, _, h⟩ := intN_ok h; exact h
section
variable {α : Type}
theorem f_getK {p : Pos} {t : Tr α} : Tr.getK p t (fun _ => False) = False := eq_false fun h => by obtain ⟨_, _, h⟩ := getK_ok p t _ h; exact h
theorem f_putK {p : Pos} {t : Tr α} {x : α} : Tr.putK p t x (fun _ => False) = False := eq_false fun h => putK_ok p t x _ h
theorem f_delK {p : Pos} {t : Tr α} : Tr.delK p t (fun _ => False) = False := eq_false fun h => delK_ok p t _ h
theorem f_ifK : ∀ (p : Pos) (t : Tr α), Tr.ifK p t (fun _ => False) False = False
  | .e, .leaf => rfl
  | .e, .nodeN _ _ => rfl
  | .e, .nodeS _ _ _ => rfl
  | .l _, .leaf => rfl
  | .l p, .nodeN l _ => f_ifK p l
  | .l p, .nodeS l _ _ => f_ifK p l
  | .r _, .leaf => rfl
  | .r p, .nodeN _ r => f_ifK p r
  | .r p, .nodeS _ _ r => f_ifK p r
end
theorem f_succK {p : Pos} : Pos.succK p (fun _ => False) = False := eq_false fun h => succK_ok p _ h
theorem f_onBool {v : SV} : SV.onBool (fun _ => False) v = False := by cases v <;> rfl
theorem f_onInt {v : SV} : SV.onInt (fun _ _ => False) v = False := by cases v <;> rfl
theorem f_onStr {v : SV} : SV.onStr (fun _ => False) v = False := by cases v <;> rfl
theorem f_onPtr {v : SV} : SV.onPtr (fun _ _ => False) v = False := by cases v <;> rfl
theorem f_onSlice {v : SV} : SV.onSlice (fun _ _ _ _ => False) v = False := by cases v <;> rfl
theorem f_onMap {v : SV} : SV.onMap (fun _ => False) v = False := by cases v <;> rfl
theorem f_onFunc {v : SV} : SV.onFunc (fun _ _ _ => False) v = False := by cases v <;> rfl
theorem f_onYld {v : SV} : SV.onYld (fun _ => False) v = False := by cases v <;> rfl
theorem f_onAgg {v : SV} : SV.onAgg (fun _ => False) v = False := by cases v <;> rfl
theorem f_onTup {v : SV} : SV.onTup (fun _ => False) v = False := by cases v <;> rfl
theorem f_onCons {v : SV} : SV.onCons (fun _ _ => False) v = False := by cases v <;> rfl
theorem f_onIface {v : SV} : SV.onIface (fun _ _ => False) v = False := by cases v <;> rfl
theorem f_onNil {v : SV} : SV.onNil False v = False := by cases v <;> rfl
theorem f_nthK {l : SV} {o : Nat} : nthK l o (fun _ => False) = False := eq_false fun h => by obtain ⟨_, h, _⟩ := nthK_ok l o _ h; exact h
theorem f_dropK {l : SV} {o : Nat} : dropK o l (fun _ => False) = False := eq_false fun h => by obtain ⟨_, h, _⟩ := dropK_ok o l _ h; exact h
theorem f_takeK {l : SV} {o : Nat} : takeK o l (fun _ => False) = False := eq_false fun h => by obtain ⟨_, h, _⟩ := takeK_ok o l _ h; exact h
theorem f_rangeK {l : SV} {o k : Nat} : rangeK l o k (fun _ => False) = False := eq_false fun h => by obtain ⟨_, h, _⟩ := rangeK_ok h; exact h
theorem f_overK {x l : SV} : overK x l (fun _ => False) = False := eq_false fun h => by obtain ⟨_, h, _⟩ := overK_ok x l _ h; exact h
theorem f_setK {o : Nat} {x l : SV} : setK o x l (fun _ => False) = False := eq_false fun h => by obtain ⟨_, h, _⟩ := setK_ok o x l _ h; exact h
theorem f_appK {x l : SV} : appK l x (fun _ => False) = False := eq_false fun h => by obtain ⟨_, h, _⟩ := appK_ok l x _ h; exact h
theorem f_lenIs {l : SV} {k : Nat} : lenIs l k False = False := eq_false fun h => (lenIs_ok l k _ h).1
theorem f_lenK {l : SV} {k : Nat} : lenK l k (fun _ => False) = False := eq_false fun h => by obtain ⟨_, h, _⟩ := lenK_ok l k _ h; exact h
theorem f_oneK {v : SV} : oneK v False = False := by cases v <;> rfl
theorem f_onesK {l : SV} : onesK l False = False := eq_false fun h => (onesK_ok l _ h).1
theorem f_cellsK {v : SV} : cellsK v (fun _ => False) = False := by cases v <;> rfl
theorem f_repK {z : SV} {n : Nat} : repK z n (fun _ => False) = False := eq_false fun h => by obtain ⟨_, h, _⟩ := repK_ok z n _ h; exact h
theorem f_partK {rd : Rd} {l : SV} {o : Nat} : partK rd l o (fun _ => False) = False := by
  cases rd with
  | one => exact f_nthK
  | many k => exact f_rangeK
theorem f_evK {x : LX} {fr : Fm} : evK x fr (fun _ => False) = False := by
  cases x with
  | tmp p => exact f_getK
  | const v => rfl
theorem f_evsK : ∀ (l : LXs) (fr : Fm), evsK l fr (fun _ => False) = False
  | .nil, _ => rfl
  | .cons x r, fr => by
    show evK x fr (fun v => evsK r fr fun _ => False) = False
    simp only [f_evsK r fr, f_evK]
theorem f_fillK : ∀ (l : LPs) (z : SV) (fr : Fm), fillK l z fr (fun _ => False) = False
  | .nil, _, _ => rfl
  | .cons o k x r, z, fr => by
    show evK x fr (fun v => cellsK v fun cs => lenIs cs k (setK o cs z fun z => fillK r z fr fun _ => False)) = False
    simp only [f_fillK r, f_setK, f_lenIs, f_cellsK, f_evK]
theorem f_kK {j k : IntKind} : kK j k False = False := eq_false fun h => (kK_ok h).2
theorem f_wrapK {k : IntKind} {i : Int} : wrapK k i (fun _ => False) = False := eq_false fun h => wrapK_ok h
theorem f_ltK {a b : Int} : ltK a b (fun _ => False) = False := eq_false fun h => ltK_ok h
theorem f_eqK {a b : Int} : eqK a b (fun _ => False) = False := eq_false fun h => eqK_ok h
theorem f_notK {b : Bool} : notK (fun _ => False) b = False := eq_false fun h => notK_ok h
theorem f_natA {i : Int} : natA i (fun _ => False) False = False := eq_false fun h => by rcases natA_ok h with ⟨_, _, h⟩ | h <;> exact h
theorem f_inHi {k : IntKind} {a b : Nat} : inHi k a b False False = False := by simp only [inHi, f_bK]
theorem f_bitK {f : BinOp} {g : Nat → Nat → Nat} {k : IntKind} {a b : Int} : bitK f g k a b (fun _ => False) = False := by
  simp only [bitK, f_natK, f_intF, f_inHi, f_natA]
theorem f_binI {f : BinOp} {k j : IntKind} {a b : Int} : binI f k a j b (fun _ => False) = False := eq_false fun h => by obtain ⟨_, _, h, _⟩ := binI_ok h; exact h
theorem f_tappK {l m : List Nat} : tappK l m (fun _ => False) = False := eq_false fun h => tappK_ok l m _ h
theorem f_teqK {l m : List Nat} : teqK l m (fun _ => False) = False := eq_false fun h => teqK_ok l m _ h
theorem f_tlenK {l : List Nat} {n : Nat} : tlenK l n (fun _ => False) = False := eq_false fun h => tlenK_ok l n _ h
theorem f_tnthK {l : List Nat} {n : Nat} : tnthK l n (fun _ => False) = False := eq_false fun h => by obtain ⟨_, _, h⟩ := tnthK_ok l n _ h; exact h
theorem f_tdropK {l : List Nat} {n : Nat} : tdropK n l (fun _ => False) = False := eq_false fun h => (tdropK_ok n l _ h).1
theorem f_ttakeK {l : List Nat} {n : Nat} : ttakeK n l (fun _ => False) = False := eq_false fun h => (ttakeK_ok n l _ h).1
theorem f_binT {f : BinOp} {a b : List Nat} : binT f a b (fun _ => False) = False := eq_false fun h => by obtain ⟨_, _, h, _⟩ := binT_ok h; exact h
theorem f_posK : ∀ (p q : Pos), posK p q False = False
  | .e, .e => rfl
  | .e, .l _ => rfl
  | .e, .r _ => rfl
  | .l _, .e => rfl
  | .l p, .l q => f_posK p q
  | .l _, .r _ => rfl
  | .r _, .e => rfl
  | .r _, .l _ => rfl
  | .r p, .r q => f_posK p q
theorem f_capK {a b : Cap} : capK a b False = False := by
  cases a <;> cases b <;> first | rfl | exact f_bK
theorem f_sameK : ∀ (a b : SV), sameK a b False = False
  | .bool a, b => by cases b <;> first | rfl | (cases a <;> rename_i b <;> cases b <;> rfl)
  | .int k a, b => by cases b <;> first | rfl | (show kK _ _ (eqK _ _ fun r => bK r False False) = False; simp only [f_bK, f_eqK, f_kK])
  | .str a, b => by cases b <;> first | rfl | (show teqK _ _ (fun r => bK r False False) = False; simp only [f_bK, f_teqK])
  | .ptr p o, b => by cases b <;> first | rfl | (show posK _ _ (bK _ False False) = False; simp only [f_bK, f_posK])
  | .nilp, b => by cases b <;> rfl
  | .slice p o n a, b => by cases b <;> first | rfl | (show posK _ _ (bK _ (bK _ (capK _ _ False) False) False) = False; simp only [f_capK, f_bK, f_posK])
  | .emp _ _, _ => rfl
  | .nils, b => by cases b <;> rfl
  | .map p, b => by cases b <;> first | rfl | exact f_posK _ _
  | .nilm, b => by cases b <;> rfl
  | .func n g q, b => by cases b <;> first | rfl | (show bK _ (sameK g _ (sameK q _ False)) False = False; simp only [f_sameK q, f_sameK g, f_bK])
  | .yld p, b => by cases b <;> first | rfl | exact f_posK _ _
  | .nilf, b => by cases b <;> rfl
  | .iface n v, b => by cases b <;> first | rfl | (show bK _ (sameK v _ False) False = False; simp only [f_sameK v, f_bK])
  | .nili, b => by cases b <;> rfl
  | .agg l, b => by cases b <;> first | rfl | exact f_sameK l _
  | .tup l, b => by cases b <;> first | rfl | exact f_sameK l _
  | .nil, b => by cases b <;> rfl
  | .cons h t, b => by cases b <;> first | rfl | (show sameK h _ (sameK t _ False) = False; simp only [f_sameK t, f_sameK h])
theorem f_bitsK {a b : SV} : bitsK a b False = False := eq_false fun h => (bits_ok h).1
theorem f_onRow {o : SO} : SO.onRow (fun _ => False) o = False := by cases o <;> rfl
theorem f_onGrow {o : SO} : SO.onGrow (fun _ _ => False) o = False := by cases o <;> rfl
theorem f_onSet {o : SO} : SO.onSet (fun _ _ => False) o = False := by cases o <;> rfl
theorem f_onMp {o : SO} : SO.onMp (fun _ _ => False) o = False := by cases o <;> rfl
theorem f_onMit {o : SO} : SO.onMit (fun _ _ _ _ => False) o = False := by cases o <;> rfl
theorem f_onIt {o : SO} : SO.onIt (fun _ _ _ _ => False) (fun _ _ => False) False o = False := by cases o <;> rfl
theorem f_onLoop {o : SO} : SO.onLoop (fun _ _ _ _ _ _ => False) o = False := by cases o <;> rfl
theorem f_onDefd {o : SO} : SO.onDefd (fun _ => False) o = False := by cases o <;> rfl
theorem f_isNP {v : SV} : isNP v (fun _ => False) = False := by cases v <;> rfl
theorem f_isNS {v : SV} : isNS v (fun _ => False) = False := by cases v <;> rfl
theorem f_isNM {v : SV} : isNM v (fun _ => False) = False := by cases v <;> rfl
theorem f_isNF {v : SV} : isNF v (fun _ => False) = False := by cases v <;> rfl
theorem f_isNI {v : SV} : isNI v (fun _ => False) = False := by cases v <;> rfl
theorem f_eqN {f : SV → (Bool → Prop) → Prop} (hf : ∀ v, f v (fun _ => False) = False) (a b : SV) : eqN f a b (fun _ => False) = False := by simp only [eqN, f_bK, hf]
theorem f_eqB {a b : SV} : eqB a b (fun _ => False) = False := by simp only [eqB, f_bK, f_onBool]
theorem f_eqI {a b : SV} : eqI a b (fun _ => False) = False := by simp only [eqI, f_eqK, f_kK, f_onInt]
theorem f_eqS {a b : SV} : eqS a b (fun _ => False) = False := by simp only [eqS, f_teqK, f_onStr]
theorem f_eqA {z : Nat} {rd : Rd} {e : EqK} (he : ∀ a b, e a b (fun _ => False) = False) (la lb : SV) : ∀ (n o : Nat),
    @Nat.rec (fun _ => Nat → Prop) (fun _ => False) (fun _ ih o => partK rd la o fun x => partK rd lb o fun y => e x y fun t => bK t (natK (Nat.add o z) ih) False) n o = False
  | 0, _ => rfl
  | n + 1, o => by
    show (partK rd la o fun x => partK rd lb o fun y => e x y fun t => bK t (natK (Nat.add o z) (fun o => @Nat.rec (fun _ => Nat → Prop) (fun _ => False) (fun _ ih o => partK rd la o fun x => partK rd lb o fun y => e x y fun t => bK t (natK (Nat.add o z) ih) False) n o)) False) = False
    simp only [f_eqA he la lb n, f_natK, f_bK, he, f_partK]
theorem f_eqT : ∀ (t : QT) (a b : SV), eqT t a b (fun _ => False) = False
  | .scb, a, b => f_eqB
  | .sci, a, b => f_eqI
  | .sct, a, b => f_eqS
  | .nlp, a, b => f_eqN (f := isNP) (fun _ => f_isNP) a b
  | .nls, a, b => f_eqN (f := isNS) (fun _ => f_isNS) a b
  | .nlm, a, b => f_eqN (f := isNM) (fun _ => f_isNM) a b
  | .nlf, a, b => f_eqN (f := isNF) (fun _ => f_isNF) a b
  | .nli, a, b => f_eqN (f := isNI) (fun _ => f_isNI) a b
  | .nil, a, b => by show SV.onAgg (fun _ => SV.onAgg (fun _ => False) b) a = False; simp only [f_onAgg]
  | .fld o rd e r, a, b => by
    show eqFld o rd (eqT e) (eqT r) a b (fun _ => False) = False
    simp only [eqFld, f_eqT r, f_bK, f_eqT e, f_partK, f_onAgg]
  | .ar n z rd e, a, b => by
    show eqAr n z rd (eqT e) a b (fun _ => False) = False
    simp only [eqAr, f_eqA (f_eqT e), f_onAgg]
theorem f_keyA {z : Nat} {rd : Rd} {e : KyK} (he : ∀ a, e a False = False) (la : SV) : ∀ (n o : Nat),
    @Nat.rec (fun _ => Nat → Prop) (fun _ => False) (fun _ ih o => partK rd la o fun x => e x (natK (Nat.add o z) ih)) n o = False
  | 0, _ => rfl
  | n + 1, o => by
    show (partK rd la o fun x => e x (natK (Nat.add o z) (fun o => @Nat.rec (fun _ => Nat → Prop) (fun _ => False) (fun _ ih o => partK rd la o fun x => e x (natK (Nat.add o z) ih)) n o))) = False
    simp only [f_keyA he la n, f_natK, he, f_partK]
theorem f_keyK : ∀ (t : QT) (a : SV), keyK t a False = False
  | .scb, a => f_onBool
  | .sci, a => f_onInt
  | .sct, a => f_onStr
  | .nlp, a => rfl
  | .nls, a => rfl
  | .nlm, a => rfl
  | .nlf, a => rfl
  | .nli, a => rfl
  | .nil, a => f_onAgg
  | .fld o rd e r, a => by
    show kyFld o rd (keyK e) (keyK r) a False = False
    simp only [kyFld, f_keyK r, f_keyK e, f_partK, f_onAgg]
  | .ar n z rd e, a => by
    show kyAr n z rd (keyK e) a False = False
    simp only [kyAr, f_keyA (f_keyK e), f_onAgg]
theorem f_findK : ∀ (es : ES) (t : QT) (x : SV), ES.findK es t x (fun _ => False) False = False
  | .nil, _, _ => rfl
  | .cons k v b r, t, x => by
    show eqT t x k (fun q => bK q False (ES.findK r t x (fun _ => False) False)) = False
    simp only [f_findK r, f_bK, f_eqT]
theorem f_putE : ∀ (es : ES) (t : QT) (x y : SV), ES.putK es t x y (fun _ _ _ => False) False = False
  | .nil, _, _, _ => rfl
  | .cons k v b r, t, x, y => by
    show eqT t x k (fun q => bK q (bitsK x k False) (ES.putK r t x y (fun _ _ _ => False) False)) = False
    simp only [f_putE r, f_bitsK, f_bK, f_eqT]
theorem f_endK : ∀ (es : ES) (k v : SV) (b : Nat), ES.endK es k v b (fun _ => False) = False
  | .nil, _, _, _ => rfl
  | .cons _ _ _ r, k, v, b => f_endK r k v b
theorem f_stampK : ∀ (es : ES) (s : Nat) (y : SV), ES.stampK es s y (fun _ => False) = False
  | .nil, _, _ => rfl
  | .cons k v b r, s, y => by
    show bK _ False (ES.stampK r s y fun _ => False) = False
    simp only [f_stampK r, f_bK]
theorem f_delE : ∀ (es : ES) (t : QT) (x : SV), ES.delK es t x (fun _ => False) = False
  | .nil, _, _ => rfl
  | .cons k v b r, t, x => by
    show eqT t x k (fun q => bK q False (ES.delK r t x fun _ => False)) = False
    simp only [f_delE r, f_bK, f_eqT]
theorem f_lenE : ∀ (es : ES) (n : Nat), ES.lenK es n (fun _ => False) = False
  | .nil, _ => rfl
  | .cons _ _ _ r, n => by
    show natK (Nat.succ n) (fun n => ES.lenK r n fun _ => False) = False
    simp only [f_lenE r, f_natK]
theorem f_atE : ∀ (es : ES) (s : Nat), ES.atK es s (fun _ _ => False) = False
  | .nil, _ => rfl
  | .cons k v b r, s => by
    show bK _ False (ES.atK r s fun _ _ => False) = False
    simp only [f_atE r, f_bK]
theorem f_memK : ∀ (l : List Nat) (n : Nat), memK l n False False = False
  | [], _ => rfl
  | a :: l, n => by
    show bK _ False (memK l n False False) = False
    simp only [f_memK l, f_bK]

theorem f_chkK {v : SV} : chkK v (fun _ => False) = False := by cases v <;> rfl
theorem f_binV {f : BinOp} {v u : SV} : binV f v u (fun _ => False) = False := by
  cases v <;> first
    | rfl
    | (show SV.onInt _ u = False; simp only [f_binI, f_onInt])
    | (show SV.onStr _ u = False; simp only [f_binT, f_onStr])
theorem f_unV {f : UnOp} {v : SV} : unV v f (fun _ => False) = False := by
  cases v <;> first
    | rfl
    | (cases f <;> first
        | rfl
        | (show notK (fun _ => False) _ = False; simp only [f_notK])
        | (show wrapK _ _ (fun _ => False) = False; simp only [f_wrapK])
        | (show intF _ (fun _ => False) = False; simp only [f_intF]))
theorem f_lenV {v : SV} : lenV v (fun _ => False) = False := by cases v <;> rfl
theorem f_capV {v : SV} : capV v (fun _ => False) = False := by cases v <;> first | rfl | (rename_i q; cases q <;> rfl)
theorem f_idxK {v : SV} : idxK v (fun _ => False) = False := by simp only [idxK, f_intN, f_onInt]
theorem f_iaK {t : AdT} {v : SV} {i : Nat} : iaK t v i (fun _ => False) = False := by
  cases t with
  | sl z => show iaSl z v i (fun _ => False) = False; simp only [iaSl, f_natK, f_bK, f_onSlice]
  | arr n z => show iaArr n z v i (fun _ => False) = False; simp only [iaArr, f_natK, f_bK, f_onPtr]
theorem f_oxK {x : OX} {d : Nat} {fr : Fm} : oxK x d fr (fun _ => False) = False := by
  cases x with
  | no => rfl
  | yes x => show evK x fr (fun v => idxK v fun _ => False) = False; simp only [f_idxK, f_evK]
theorem f_oxIs {x : OX} : oxIs x False False = False := by cases x <;> rfl
theorem f_cutK {z : Nat} {b : Pos} {o l h m : Nat} : cutK z b o l h m (fun _ => False) = False := by simp only [cutK, begK, f_natK, f_bK]
theorem f_known {z n q : Nat} {b : Pos} {o : Nat} {lo hi mx : OX} {fr : Fm} : slKnown z n q b o lo hi mx fr (fun _ => False) = False := by simp only [slKnown, f_cutK, f_bK, f_oxK]
theorem f_held {b : Pos} {o n z i : Nat} {m : Mem} : heldK b o n z i m False = False := by simp only [heldK, f_rangeK, f_bK, f_onGrow, f_getK]
theorem f_natR {n : Nat} : @Nat.rec (fun _ => Prop) False (fun _ _ => False) n = False := by cases n <;> rfl
theorem f_rest {z n i : Nat} {b : Pos} {o : Nat} {lo hi mx : OX} {fr : Fm} : slRest z n i b o lo hi mx fr (fun _ => False) = False := by
  simp only [slRest, f_natR, f_natK, f_bK, f_oxK, f_cutK, f_oxIs]
theorem f_slNo {lo hi mx : OX} {fr : Fm} : slNo lo hi mx fr False = False := by simp only [slNo, f_bK, f_oxK]
theorem f_slK {t : SlT} {v : SV} {lo hi mx : OX} {fr : Fm} {m : Mem} : slK t v lo hi mx fr m (fun _ => False) = False := by
  cases t with
  | str => show slStr v lo hi mx fr m (fun _ => False) = False; simp only [slStr, f_ttakeK, f_natK, f_tdropK, f_bK, f_oxK, f_tlenK, f_oxIs, f_onStr]
  | arr n z => show slArr n z v lo hi mx fr m (fun _ => False) = False; simp only [slArr, f_known, f_onPtr]
  | sl z =>
    cases v with
    | slice b o n q =>
      cases q with
      | k q => exact f_known
      | r i => show heldK b o n z i m (slRest z n i b o lo hi mx fr fun _ => False) = False; simp only [f_rest, f_held]
    | emp b i => show oxIs mx (slNo lo hi mx fr False) False = False; simp only [f_slNo, f_oxIs]
    | nils => show slNo lo hi mx fr False = False; simp only [f_slNo]
    | _ => rfl
theorem f_okK {ok b : Bool} {v : SV} : okK ok b v (fun _ => False) = False := by simp only [okK, f_bK]
theorem f_lkpV {v : SV} {t : QT} {k z : SV} {ok : Bool} {m : Mem} : lkpV v t k z ok m (fun _ => False) = False := by
  cases v with
  | map b => show Tr.getK b m (fun ob => SO.onMp (fun es _ => keyK t k (ES.findK es t k (fun v => okK ok true v fun _ => False) (okK ok false z fun _ => False))) ob) = False; simp only [f_okK, f_findK, f_keyK, f_onMp, f_getK]
  | nilm => show keyK t k (okK ok false z fun _ => False) = False; simp only [f_okK, f_keyK]
  | _ => rfl
theorem f_lenM {v : SV} {m : Mem} : lenM v m (fun _ => False) = False := by
  cases v with
  | map b => show Tr.getK b m (fun ob => SO.onMp (fun es _ => ES.lenK es 0 fun _ => False) ob) = False; simp only [f_lenE, f_onMp, f_getK]
  | _ => rfl
theorem f_bytK {v : SV} : bytK v (fun _ => False) = False := eq_false fun h => by obtain ⟨_, h, _⟩ := bytK_ok v _ h; exact h
theorem f_txtV {v : SV} {m : Mem} : txtV v m (fun _ => False) = False := by
  cases v with
  | slice b o n q => show Tr.getK b m (fun ob => SO.onRow (fun l => rangeK l o n fun r => bytK r fun _ => False) ob) = False; simp only [f_bytK, f_rangeK, f_onRow, f_getK]
  | _ => rfl
theorem f_lastK {l : List Nat} : lastK l (fun _ => False) = False := eq_false fun h => by obtain ⟨_, h, _⟩ := lastK_ok l _ h; exact h
theorem f_load {rd : Rd} {x : LX} {fr : Fm} {m : Mem} : qLoad rd x fr m (fun _ => False) = False := by simp only [qLoad, f_partK, f_onRow, f_getK, f_onPtr, f_evK]
theorem f_qK {o : LO} {fr : Fm} {m : Mem} : qK o fr m (fun _ => False) = False := by
  cases o <;> first
    | rfl
    | (show qMv _ fr m (fun _ => False) = False; simp only [qMv, f_evK]; done)
    | (show qPick _ _ _ fr m (fun _ => False) = False; simp only [qPick, f_evK, f_bK, f_onBool]; done)
    | (show qChk _ fr m (fun _ => False) = False; simp only [qChk, f_chkK, f_evK]; done)
    | (show qBin _ _ _ fr m (fun _ => False) = False; simp only [qBin, f_binV, f_evK]; done)
    | (show qEq _ _ _ _ fr m (fun _ => False) = False; simp only [qEq, f_notK, f_bK, f_eqT, f_evK]; done)
    | (show qUn _ _ fr m (fun _ => False) = False; simp only [qUn, f_unV, f_evK]; done)
    | (show qConv _ _ fr m (fun _ => False) = False; simp only [qConv, f_wrapK, f_onInt, f_evK]; done)
    | (show qSid _ fr m (fun _ => False) = False; simp only [qSid, f_onStr, f_evK]; done)
    | (show qIfc _ _ fr m (fun _ => False) = False; simp only [qIfc, f_evK]; done)
    | (rename_i a b c; show qFun a b c fr m (fun _ => False) = False; simp only [qFun, f_evsK]; done)
    | (show qExt _ _ fr m (fun _ => False) = False; simp only [qExt, f_nthK, f_onTup, f_evK]; done)
    | (show qBuild _ _ fr m (fun _ => False) = False; simp only [qBuild, f_fillK]; done)
    | (show qFa _ _ fr m (fun _ => False) = False; simp only [qFa, f_natK, f_onPtr, f_evK]; done)
    | (show qFld _ _ _ fr m (fun _ => False) = False; simp only [qFld, f_partK, f_onAgg, f_evK]; done)
    | (show qIa _ _ _ fr m (fun _ => False) = False; simp only [qIa, f_iaK, f_idxK, f_evK]; done)
    | (show qIx _ _ _ _ _ fr m (fun _ => False) = False; simp only [qIx, f_partK, f_natK, f_onAgg, f_bK, f_idxK, f_evK]; done)
    | (show qIxs _ _ fr m (fun _ => False) = False; simp only [qIxs, f_natK, f_tnthK, f_onStr, f_idxK, f_evK]; done)
    | (show qLens _ fr m (fun _ => False) = False; simp only [qLens, f_lenV, f_evK]; done)
    | (show qLent _ fr m (fun _ => False) = False; simp only [qLent, f_tlenK, f_onStr, f_evK]; done)
    | (show qCapv _ fr m (fun _ => False) = False; simp only [qCapv, f_capV, f_evK]; done)
    | (show qMm _ _ _ fr m (fun _ => False) = False; simp only [qMm, mmK, f_bK, f_ltK, f_kK, f_onInt, f_evK]; done)
    | (show qArr _ _ fr m (fun _ => False) = False; simp only [qArr, f_bK, f_onSlice, f_evK]; done)
    | exact f_load
    | (show qSlc _ _ _ _ _ fr m (fun _ => False) = False; simp only [qSlc, f_slK, f_evK]; done)
    | (show qLkp _ _ _ _ _ fr m (fun _ => False) = False; simp only [qLkp, f_lkpV, f_evK]; done)
    | (show qLenm _ fr m (fun _ => False) = False; simp only [qLenm, f_lenM, f_evK]; done)
    | (show qTxt _ fr m (fun _ => False) = False; simp only [qTxt, f_txtV, f_evK]; done)
    | (show qEnt _ fr m (fun _ => False) = False; simp only [qEnt, f_atE, f_bK, f_onMp, f_getK, f_lastK, f_onMit, f_onPtr, f_evK]; done)
theorem f_intsK : ∀ (l : List Nat), intsK l (fun _ => False) = False
  | [] => rfl
  | a :: l => by
    show natK _ (fun a => intsK l fun _ => False) = False
    simp only [f_intsK l, f_natK]
theorem f_aK {o : LO} {fr : Fm} {n : Pos} : aK o fr n (fun _ _ => False) = False := by
  cases o <;> first
    | rfl
    | (show aBox _ fr n (fun _ _ => False) = False; simp only [aBox, f_cellsK, f_evK]; done)
    | (rename_i a b c; show aBsl a b c fr n (fun _ _ => False) = False; simp only [aBsl, f_fillK]; done)
    | (rename_i a b c d e; show aMks a b c d e fr n (fun _ _ => False) = False; simp only [aMks, f_repK, f_bK, f_idxK, f_evK]; done)
    | (show aByts _ fr n (fun _ _ => False) = False; simp only [aByts, f_tlenK, f_intsK, f_onStr, f_evK]; done)
end Go.Ev
end
section
set_option linter.all false
set_option linter.unusedVariables false
set_option linter.unusedSimpArgs false
namespace Go.Ev
open Go

theorem f_srcK {v : SV} {m : Mem} {z : Nat} : srcK v m z (fun _ _ => False) = False := by
  cases v with
  | slice b o n q => show Tr.getK b m (fun ob => SO.onRow (fun l => rangeK l o (Nat.mul n z) fun r => onesK r False) ob) = False; simp only [f_onesK, f_rangeK, f_onRow, f_getK]
  | str t => show bK (Nat.beq z 1) (intsK t fun r => tlenK t 0 fun n => False) False = False; simp only [f_tlenK, f_intsK, f_bK]
  | _ => rfl
theorem f_apNew {z b t : Nat} {old ly : SV} {m : Mem} {n : Pos} : apNew z b t old ly m n (fun _ _ _ => False) = False := by
  simp only [apNew, roomK, f_succK, f_putK, f_appK, f_bK]
theorem f_apFit {z b o k t q : Nat} {p : Pos} {ly : SV} {m : Mem} {n : Pos} : apFit z b o k t q p ly m n (fun _ _ _ => False) = False := by
  simp only [apFit, f_putK, f_setK, f_onSet, f_apNew, f_rangeK, f_onRow, f_bK, f_getK]
theorem f_apRest {z b o k t i : Nat} {p : Pos} {ly : SV} {m : Mem} {n : Pos} : apRest z b o k t i p ly m n (fun _ _ _ => False) = False := by
  simp only [apRest, f_apNew, f_delK, f_rangeK, f_onGrow, f_bK, f_getK]
theorem f_apV {v : SV} {z b : Nat} {ly : SV} {k : Nat} {m : Mem} {n : Pos} : apV v z b ly k m n (fun _ _ _ => False) = False := by
  cases v with
  | nils =>
    show natK k (fun k => @Nat.rec (fun _ => Prop) False (fun _ _ => apNew z b k .nil ly m n fun _ _ _ => False) k) = False
    simp only [f_apNew, f_natR, f_natK]
  | emp p j =>
    show @Nat.rec (fun _ => Prop) False (fun _ _ => False) k = False
    exact f_natR
  | slice p o j q =>
    show natK (Nat.add j k) (fun t => @Cap.rec (fun _ => Prop) (fun q => apFit z b o j t q p ly m n fun _ _ _ => False) (fun i => @Nat.rec (fun _ => Prop) (heldK p o j z i m False) (fun _ _ => apRest z b o j t i p ly m n fun _ _ _ => False) k) q) = False
    cases q with
    | k q => show natK _ (fun t => apFit z b o j t q p ly m n fun _ _ _ => False) = False; simp only [f_apFit, f_natK]
    | r i => show natK _ (fun t => @Nat.rec (fun _ => Prop) (heldK p o j z i m False) (fun _ _ => apRest z b o j t i p ly m n fun _ _ _ => False) k) = False; simp only [f_apRest, f_held, f_natR, f_natK]
  | _ => rfl
theorem f_cpV {v : SV} {z : Nat} {ly : SV} {k : Nat} {m : Mem} : cpV v z ly k m (fun _ _ => False) = False := by
  cases v with
  | slice b o n q => show natK _ (fun k => Tr.getK b m fun ob => SO.onSet (fun l mk => takeK (Nat.mul k z) ly fun r => setK o r l fun l => Tr.putK b m (mk l) fun m => False) ob) = False; simp only [f_putK, f_setK, f_takeK, f_onSet, f_getK, f_natK]
  | _ => rfl
theorem f_clV {v : SV} {z : Nat} {zc : SV} {m : Mem} : clV v z zc m (fun _ => False) = False := by
  cases v with
  | slice b o n q => show Tr.getK b m (fun ob => SO.onSet (fun l mk => repK zc n fun r => onesK r (setK o r l fun l => Tr.putK b m (mk l) fun _ => False)) ob) = False; simp only [f_putK, f_setK, f_onesK, f_repK, f_onSet, f_getK]
  | _ => rfl
theorem f_rgV {v : SV} {st : Bool} {m : Mem} : rgV v st m (fun _ => False) = False := by
  cases v with
  | map b => show bK st False (Tr.getK b m fun ob => SO.onMp (fun _ t => False) ob) = False; simp only [f_onMp, f_getK, f_bK]
  | str t => exact f_bK
  | nilm => exact f_bK
  | _ => rfl
theorem f_snocK : ∀ (l : List Nat) (n : Nat), snocK l n (fun _ => False) = False
  | [], _ => rfl
  | _ :: l, n => f_snocK l n
theorem f_anyLeft : ∀ (es : ES) (seen : List Nat), anyLeft es seen False False = False
  | .nil, _ => rfl
  | .cons _ _ b r, seen => by
    show memK seen b (anyLeft r seen False False) False = False
    simp only [f_anyLeft r, f_memK]
theorem f_oldK : ∀ (es : ES) (l : Nat), oldK es l False = False
  | .nil, _ => rfl
  | .cons _ _ b r, l => by
    show bK _ (oldK r l False) False = False
    simp only [f_oldK r, f_bK]
theorem f_leftK {fst : Bool} {c : SV → SV → Nat → Prop → Prop} (hc : ∀ k v b, c k v b False = False) : ∀ (es : ES) (seen : List Nat) (since : Nat), ES.leftK fst es seen since c False = False
  | .nil, _, _ => rfl
  | .cons k v b r, seen, since => by
    show memK seen b (ES.leftK fst r seen since c False) (bK _ (c k v b (bK fst False (ES.leftK fst r seen since c False))) False) = False
    simp only [f_leftK hc r, f_bK, hc, f_memK]
theorem f_nxMap {fst : Bool} {b p : Pos} {since : Nat} {seen : List Nat} {last : Nat} {m : Mem} {c : SV → Mem → Prop → Prop} (hc : ∀ v m, c v m False = False) : nxMap fst b p since seen last m c False = False := by
  simp only [nxMap, hc]
  have h1 : ∀ (es : ES) (t : Nat), ES.leftK fst es seen since (fun k v s d => snocK seen s fun seen => Tr.putK b m (.mit p since seen t) fun m => c (.tup (.cons (.bool true) (.cons k (.cons v .nil)))) m d) False = False :=
    fun es t => f_leftK (fun k v s => by simp only [hc, f_putK, f_snocK]) es seen since
  simp only [h1, f_anyLeft, f_oldK, f_onMp, f_getK]
theorem f_nxStr {b : Pos} {s : List Nat} {p : Nat} {m : Mem} : nxStr b s p m (fun _ _ => False) = False := by
  simp only [nxStr, f_putK, f_natK, f_bK, f_tnthK, f_tlenK]
theorem f_mdV {v : SV} {t : QT} {k : SV} {m : Mem} : mdV v t k m (fun _ => False) = False := by
  cases v with
  | map b => show Tr.getK b m (fun ob => SO.onMp (fun es s => keyK t k (ES.delK es t k fun es => Tr.putK b m (.mp es s) fun _ => False)) ob) = False; simp only [f_putK, f_delE, f_keyK, f_onMp, f_getK]
  | nilm => exact f_keyK _ _
  | _ => rfl
def FCl (cl : Cl) : Prop := ∀ fn l m n (c : Co), (∀ v m n, c v m n False = False) → cl fn l m n c False = False
def FRl (rl : Rl) : Prop := ∀ b l m n (c : Co), (∀ v m n, c v m n False = False) → rl b l m n c False = False
def FEv (ev : ET) : Prop := ∀ cx t fr m n ld (lv : Lv), (∀ j fr m n ld, lv j fr m n ld False = False) → ev cx t fr m n ld lv False = False
theorem f_callV {cl : Cl} {rl : Rl} (h1 : FCl cl) (h2 : FRl rl) {v l : SV} {m : Mem} {n : Pos} {c : Co} (hc : ∀ v m n, c v m n False = False) : callV v cl rl l m n c False = False := by
  cases v with
  | func fn g q => show appK l q (fun l => appK g l fun l => cl fn l m n c False) = False; simp only [h1 _ _ _ _ c hc, f_appK]
  | yld b => exact h2 _ _ _ _ c hc
  | _ => rfl
section
variable {fst : Bool} {cl : Cl} {rl : Rl} {cx : Cx}
theorem f_sK (h1 : FCl cl) (h2 : FRl rl) {o : LO} {fr : Fm} {m : Mem} {n : Pos} {ld : LD} {c : SV → Mem → Pos → LD → Prop → Prop} (hc : ∀ v m n ld, c v m n ld False = False) : sK fst cl rl cx o fr m n ld c False = False := by
  cases o with
  | store a b d => show up (sStore a b d) fr m n ld c False = False; simp only [up, sStore, hc, f_putK, f_setK, f_onSet, f_getK, f_onPtr, f_onesK, f_lenIs, f_cellsK, f_evK]
  | mput a b d e => show up (sMput a b d e) fr m n ld c False = False; simp only [up, sMput, hc, f_putK, f_natK, f_endK, f_putE, f_keyK, f_onMp, f_getK, f_onMap, f_evK]
  | app a b d e => show up (sApp a b d e) fr m n ld c False = False; simp only [up, sApp, hc, f_apV, f_srcK, f_evK]
  | appz a b d e f => show up (sAppz a b d e f) fr m n ld c False = False; simp only [up, sAppz, hc, f_apV, f_onesK, f_repK, f_bK, f_idxK, f_evK]
  | cpy a b d => show up (sCpy a b d) fr m n ld c False = False; simp only [up, sCpy, hc, f_cpV, f_srcK, f_evK]
  | clr a b d => show up (sClr a b d) fr m n ld c False = False; simp only [up, sClr, hc, f_clV, f_evK]
  | call f l =>
    show sCall cl rl f l fr m n ld c False = False
    have h3 : ∀ v l, callV v cl rl l m n (fun r m n k => c r m n ld k) False = False := fun v l => f_callV h1 h2 (fun v m n => hc v m n ld)
    simp only [sCall, h3, f_evsK, f_evK]
  | rng a b => show up (sRng a b) fr m n ld c False = False; simp only [up, sRng, hc, f_succK, f_putK, f_rgV, f_evK]
  | nxt st x =>
    show sNxt fst st x fr m n ld c False = False
    have h3 : ∀ b p a s l, nxMap fst b p a s l m (fun r m k => c r m n ld k) False = False := fun b p a s l => f_nxMap (fun v m => hc v m n ld)
    simp only [sNxt, h3, hc, f_nxStr, f_bK, f_onIt, f_getK, f_onPtr, f_evK]
  | ment a b d e => show up (sMent a b d e) fr m n ld c False = False; simp only [up, sMent, hc, f_putK, f_natK, f_endK, f_putE, f_findK, f_keyK, f_onMp, f_getK, f_onMap, f_evK]
  | mset a b d => show up (sMset a b d) fr m n ld c False = False; simp only [up, sMset, hc, f_putK, f_stampK, f_onMp, f_getK, f_idxK, f_onMap, f_evK]
  | mdel a b d => show up (sMdel a b d) fr m n ld c False = False; simp only [up, sMdel, hc, f_mdV, f_evK]
  | rec_ =>
    show up (sRec cx) fr m n ld c False = False
    cases cx with
    | plain => exact hc _ _ _ _
    | dfr => exact hc _ _ _ _
    | round b => rfl
  | dfr f l =>
    show up (sDfr cx f l) fr m n ld c False = False
    have h3 : ∀ fn l, @Cx.rec (fun _ => Prop) (c undef_ m n (.call fn l ld) False) (c undef_ m n (.call fn l ld) False) (fun _ => False) cx = False := fun fn l => by
      cases cx with
      | plain => exact hc _ _ _ _
      | dfr => exact hc _ _ _ _
      | round b => rfl
    simp only [up, sDfr, h3, f_appK, f_onFunc, f_evsK, f_evK]
  | _ => rfl
theorem f_gdV {v : SV} {t : Bool} : gdV v t False False = False := by
  cases v with
  | bool b => show bK b (bK t False False) (bK t False False) = False; simp only [f_bK]
  | _ => rfl
theorem f_gdK {g : Gd} {fr : Fm} : gdK g fr False False = False := by
  cases g with
  | no => rfl
  | on p t => show Tr.getK p fr (fun v => gdV v t False False) = False; simp only [f_gdV, f_getK]
theorem f_dsK {d : Ds} {fr : Fm} {v : SV} : dsK d fr v (fun _ => False) = False := by
  cases d with
  | no => rfl
  | to p => exact f_putK
theorem f_reK : ∀ (r : Re) (fr : Fm) (m : Mem), reK r fr m False = False
  | .nil, _, _ => rfl
  | .cons g d o r, fr, m => by
    show gdK g fr (qK o fr m fun v => Tr.getK d fr fun u => sameK v u (reK r fr m False)) (reK r fr m False) = False
    simp only [f_reK r, f_sameK, f_getK, f_qK, f_gdK]
theorem f_nameK {v : SV} : nameK v (fun _ => False) False = False := by cases v <;> rfl
theorem f_hideK : ∀ (hd : Ps) (fr : Fm) (m : Mem) (c : Mem → Bk → Prop), (∀ m (bk : Bk), (∀ m, bk m (fun _ => False) = False) → c m bk = False) → hideK hd fr m c = False
  | .nil, fr, m, c, hc => hc m _ fun _ => rfl
  | .cons p r, fr, m, c, hc => by
    show Tr.getK p fr (fun v => nameK v (fun q => Tr.getK q m fun ob => Tr.delK q m fun m => hideK r fr m fun m bk => c m fun m c => bk m fun m => Tr.putK q m ob c) (hideK r fr m c)) = False
    have h1 : ∀ q ob m, hideK r fr m (fun m bk => c m fun m c => bk m fun m => Tr.putK q m ob c) = False := fun q ob m => f_hideK r fr m _ fun m bk hb => hc m _ fun m => by simp only [f_putK, hb]
    simp only [h1, f_hideK r fr m c hc, f_delK, f_getK, f_nameK]
theorem f_regK (h1 : FCl cl) (h2 : FRl rl) : ∀ (r : LR) (fr : Fm) (m : Mem) (n : Pos) (ld : LD) (c : Fm → Mem → Pos → LD → Prop → Prop), (∀ fr m n ld, c fr m n ld False = False) → regK fst cl rl cx r fr m n ld c False = False
  | .nil, fr, m, n, ld, c, hc => hc _ _ _ _
  | .q g d o r, fr, m, n, ld, c, hc => by
    show rkQ g d o (regK fst cl rl cx r) fr m n ld c False = False
    simp only [rkQ, f_regK h1 h2 r _ _ _ _ c hc, f_dsK, f_qK, f_gdK]
  | .a g d o r, fr, m, n, ld, c, hc => by
    show rkA g d o (regK fst cl rl cx r) fr m n ld c False = False
    simp only [rkA, f_regK h1 h2 r _ _ _ _ c hc, f_dsK, f_succK, f_putK, f_aK, f_gdK]
  | .s g d o re hd r, fr, m, n, ld, c, hc => by
    show rkS fst cl rl cx g d o re hd (regK fst cl rl cx r) fr m n ld c False = False
    have h3 : hideK hd fr m (fun m bk => sK fst cl rl cx o fr m n ld (fun v m n ld k => reK re fr m (bk m fun m => dsK d fr v fun fr => regK fst cl rl cx r fr m n ld c k)) False) = False :=
      f_hideK hd fr m _ fun m bk hb => f_sK h1 h2 fun v m n ld => by simp only [f_regK h1 h2 r _ _ _ _ c hc, f_dsK, hb, f_reK]
    simp only [rkS, h3, f_regK h1 h2 r _ _ _ _ c hc, f_dsK, f_gdK]
end
theorem f_exitK {id : Nat} : ∀ (t : LT), exitK id t (fun _ => False) False = False
  | .nil => rfl
  | .code _ t => f_exitK t
  | .blk j t => by show bK _ False (exitK id t (fun _ => False) False) = False; simp only [f_exitK t, f_bK]
  | .lp _ t => f_exitK t
  | .scp _ t => f_exitK t
  | .erf _ t => f_exitK t
  | .beg t => f_exitK t
theorem f_labK {l : Nat} : ∀ (x : LC), labK l x (fun _ => False) False = False
  | .skip => rfl
  | .reg _ => rfl
  | .seq a b => by
    show labK l a (fun r => False) (labK l b (fun _ => False) False) = False
    simp only [f_labK b, f_labK a]
  | .cond _ _ _ => rfl
  | .block _ _ => rfl
  | .loop _ => rfl
  | .rf _ _ _ _ => rfl
  | .exit _ => rfl
  | .scope _ => rfl
  | .label _ => f_bK
  | .goto _ => rfl
  | .ret => rfl
  | .bad => rfl
theorem f_gotoK {l : Nat} : ∀ (t : LT), gotoK l t (fun _ => False) False = False
  | .nil => rfl
  | .code _ t => f_gotoK t
  | .blk _ t => f_gotoK t
  | .lp _ t => f_gotoK t
  | .scp b t => by
    show labK l b (fun _ => False) (gotoK l t (fun _ => False) False) = False
    simp only [f_gotoK t, f_labK]
  | .erf _ t => f_gotoK t
  | .beg t => f_gotoK t
theorem f_psK : ∀ (ps : Ps) (l : SV) (fr : Fm), psK ps l fr (fun _ => False) = False
  | .nil, l, fr => f_onNil
  | .cons p r, l, fr => by
    show SV.onCons (fun h t => Tr.putK p fr h fun fr => psK r t fr fun _ => False) l = False
    simp only [f_psK r, f_putK, f_onCons]
theorem f_entK : ∀ (ps : Ps) (l : SV) (fr : Fm), entK ps l fr (fun _ => False) = False
  | .nil, l, fr => f_onNil
  | .cons p r, l, fr => by
    cases l with
    | cons h t => show Tr.putK p fr h (fun fr => entK r t fr fun _ => False) = False; simp only [f_entK r, f_putK]
    | _ => rfl
theorem f_retK {j : LJ} : retK j False = False := by cases j <;> rfl
theorem f_oneRes {l : SV} : oneRes l (fun _ => False) = False := by
  cases l with
  | cons h t => cases t <;> rfl
  | _ => rfl
theorem f_resK : ∀ (r : RS) (fr : Fm) (m : Mem), resK r fr m (fun _ => False) = False
  | .nil, _, _ => rfl
  | .tmp p r, fr, m => by
    show Tr.getK p fr (fun v => resK r fr m fun l => False) = False
    simp only [f_resK r, f_getK]
  | .cell p rd r, fr, m => by
    show qLoad rd (.tmp p) fr m (fun v => resK r fr m fun l => False) = False
    simp only [f_resK r, f_load]
theorem f_body {ev : ET} (he : FEv ev) {cx : Cx} {f : LF} {l : SV} {m : Mem} {n : Pos} {c : Fm → Mem → Pos → LD → Prop → Prop} (hc : ∀ fr m n ld, c fr m n ld False = False) : body ev cx f l m n c False = False := by
  obtain ⟨ps, rs, code⟩ := f
  show entK ps l .leaf (fun fr => ev cx (.code code .nil) fr m n .nil (fun j fr m n ld k => retK j (c fr m n ld k)) False) = False
  have h1 : ∀ fr, ev cx (.code code .nil) fr m n .nil (fun j fr m n ld k => retK j (c fr m n ld k)) False = False := fun fr => he _ _ _ _ _ _ _ fun j fr m n ld => by simp only [hc, f_retK]
  simp only [h1, f_entK]
theorem f_noLD {ld : LD} : noLD ld False = False := by cases ld <;> rfl
theorem f_unwK {P : Program} {low : Program → Nat → Option LF} {ev : ET} (he : FEv ev) : ∀ (ld : LD) (m : Mem) (n : Pos) (c : Mem → Pos → Prop → Prop), (∀ m n, c m n False = False) → unwK P low ev ld m n c False = False
  | .nil, m, n, c, hc => hc _ _
  | .coll b r, m, n, c, hc => by
    show Tr.getK b m (fun ob => SO.onDefd (fun l => noLD l (Tr.putK b m .gone fun m => unwK P low ev r m n c False)) ob) = False
    simp only [f_unwK he r _ _ c hc, f_putK, f_noLD, f_onDefd, f_getK]
  | .call fn l r, m, n, c, hc => by
    show @Option.rec LF (fun _ => Prop) False (fun f => body ev .dfr f l m n (fun fr m n ld k => noLD ld (@LF.rec (fun _ => Prop) (fun _ rs _ => resK rs fr m fun _ => unwK P low ev r m n c k) f)) False) (low P fn) = False
    cases low P fn with
    | none => rfl
    | some f =>
      obtain ⟨ps, rs, code⟩ := f
      exact f_body he fun fr m n ld => by simp only [f_unwK he r _ _ c hc, f_resK, f_noLD]
theorem f_callF {P : Program} {low : Program → Nat → Option LF} {ev : ET} (he : FEv ev) : FCl (callF P low ev) := by
  intro fn l m n c hc
  show @Option.rec LF (fun _ => Prop) False (fun f => body ev .plain f l m n (fun fr m n ld k => unwK P low ev ld m n (fun m n k => @LF.rec (fun _ => Prop) (fun _ rs _ => resK rs fr m fun l => oneRes l fun v => c v m n k) f) k) False) (low P fn) = False
  cases low P fn with
  | none => rfl
  | some f =>
    obtain ⟨ps, rs, code⟩ := f
    exact f_body he fun fr m n ld => f_unwK he ld m n _ fun m n => by simp only [hc, f_oneRes, f_resK]
theorem f_doneK {j : LJ} : doneK j (fun _ _ => False) = False := by cases j <;> rfl
theorem f_roundF {ev : ET} (he : FEv ev) : FRl (roundF ev) := by
  intro b l m n c hc
  have h1 : ∀ fr (x y : LC), ev (.round b) (.code x (.beg (.code y .nil))) fr m n .nil (fun j _ m n ld k => noLD ld (Tr.getK b m fun ob => SO.onLoop (fun _ _ fr ps x y => doneK j fun t st => Tr.putK b m (.loop st j fr ps x y) fun m => c (.bool t) m n k) ob)) False = False :=
    fun fr x y => he _ _ _ _ _ _ _ fun j fr m n ld => by simp only [hc, f_putK, f_doneK, f_onLoop, f_getK, f_noLD]
  simp only [roundF, h1, f_psK, f_onLoop, f_getK]
section
variable {fst : Bool} {cl : Cl} {rl : Rl} {ev : ET} {cx : Cx}
theorem f_cRf (h1 : FCl cl) (he : FEv ev) {t : LT} {f : LX} {ps : Ps} {a b : LC} {fr : Fm} {m : Mem} {n : Pos} {ld : LD} {lv : Lv} (hl : ∀ j fr m n ld, lv j fr m n ld False = False) : cRf cl rl ev cx t f ps a b fr m n ld lv False = False := by
  cases cx with
  | plain =>
    have h3 : ∀ v l m n1 n2, callV v cl (fun _ _ _ _ _ _ => False) l m n2 (fun _ m n3 k => ev .plain (.erf n1 t) fr m n3 (.coll n ld) lv k) False = False := fun v l m n1 n2 => f_callV h1 (fun _ _ _ _ _ _ => rfl) fun v m n => he _ _ _ _ _ _ _ hl
    show evK f fr (fun v => Tr.putK n m (.defd .nil) fun m => Pos.succK n fun n1 => Tr.putK n1 m (.loop .ready .no fr ps a b) fun m => Pos.succK n1 fun n2 => callV v cl (fun _ _ _ _ _ _ => False) (.cons (.yld n1) .nil) m n2 (fun _ m n3 k => ev .plain (.erf n1 t) fr m n3 (.coll n ld) lv k) False) = False
    simp only [h3, f_succK, f_putK, f_evK]
  | dfr => rfl
  | round b => rfl
theorem f_stepT (h1 : FCl cl) (h2 : FRl rl) (he : FEv ev) : FEv (stepT fst cl rl ev) := by
  intro cx t fr m n ld lv hl
  have e : ∀ cx t fr m n ld, ev cx t fr m n ld lv False = False := fun cx t fr m n ld => he _ _ _ _ _ _ _ hl
  cases t with
  | nil => exact hl _ _ _ _ _
  | code x t =>
    show itCode fst cl rl ev cx t x fr m n ld lv False = False
    cases x with
    | reg r => exact f_regK h1 h2 r _ _ _ _ _ fun fr m n ld => e _ _ _ _ _ _
    | cond x a b => show cCond ev cx t x a b fr m n ld lv False = False; simp only [cCond, e, f_bK, f_onBool, f_evK]
    | rf f ps a b => exact f_cRf (rl := rl) h1 he hl
    | exit id => show cExit ev cx t id fr m n ld lv False = False; simp only [cExit, e, hl, f_exitK]
    | goto l => show cGoto ev cx t l fr m n ld lv False = False; simp only [cGoto, e, hl, f_gotoK]
    | ret => exact hl _ _ _ _ _
    | bad => rfl
    | _ => exact e _ _ _ _ _ _
  | blk id t => exact e _ _ _ _ _ _
  | lp b t => exact e _ _ _ _ _ _
  | scp b t => exact e _ _ _ _ _ _
  | erf b t =>
    have h3 : ∀ j m, pendK ev cx t j fr m n ld lv False = False := fun j m => by cases j <;> exact e _ _ _ _ _ _
    have h4 : ∀ s, notBusy s False = False := fun s => by cases s <;> rfl
    show itErf ev cx b t fr m n ld lv False = False
    simp only [itErf, h3, f_putK, h4, f_onLoop, f_getK]
  | beg t =>
    show itBeg ev cx t fr m n ld lv False = False
    cases cx with
    | round b =>
      have h4 : ∀ s, isReady s False = False := fun s => by cases s <;> rfl
      show Tr.getK b m (fun ob => SO.onLoop (fun s j f ps x y => isReady s (Tr.putK b m (.loop .busy j f ps x y) fun m => ev (.round b) t fr m n ld lv False)) ob) = False
      simp only [e, f_putK, h4, f_onLoop, f_getK]
    | _ => rfl
end
end Go.Ev
end
section
set_option linter.all false
set_option linter.unusedVariables false
set_option linter.unusedSimpArgs false
namespace Go.Ev
open Go

section
variable {α : Type}
theorem ifK_ok : ∀ (p : Pos) (t : Tr α) (c : α → Prop) (d : Prop), Tr.ifK p t c d → (∃ v, Tr.get p t = some v ∧ c v) ∨ (Tr.get p t = none ∧ d)
  | .e, .leaf, _, _, h => .inr ⟨rfl, h⟩
  | .e, .nodeN _ _, _, _, h => .inr ⟨rfl, h⟩
  | .e, .nodeS _ v _, _, _, h => .inl ⟨v, rfl, h⟩
  | .l _, .leaf, _, _, h => .inr ⟨rfl, h⟩
  | .l p, .nodeN l _, c, d, h => ifK_ok p l c d h
  | .l p, .nodeS l _ _, c, d, h => ifK_ok p l c d h
  | .r _, .leaf, _, _, h => .inr ⟨rfl, h⟩
  | .r p, .nodeN _ r, c, d, h => ifK_ok p r c d h
  | .r p, .nodeS _ _ r, c, d, h => ifK_ok p r c d h
end

/-! What is reached is part of the memory. -/
def VisOk (m : Mem) (vis : Vis) : Prop := ∀ b r c, Sub r m → vis b r c → ∃ r', Sub r' m ∧ c r'
section
variable {m : Mem} {vis : Vis}
theorem reachV_ok (hv : VisOk m vis) : ∀ (v : SV) (r : Mem) (c : Mem → Prop), Sub r m → reachV v vis r c → ∃ r', Sub r' m ∧ c r'
  | .bool _, r, c, hs, h => ⟨r, hs, h⟩
  | .int _ _, r, c, hs, h => ⟨r, hs, h⟩
  | .str _, r, c, hs, h => ⟨r, hs, h⟩
  | .ptr b _, r, c, hs, h => hv b r c hs h
  | .nilp, r, c, hs, h => ⟨r, hs, h⟩
  | .slice b _ _ _, r, c, hs, h => hv b r c hs h
  | .emp b _, r, c, hs, h => hv b r c hs h
  | .nils, r, c, hs, h => ⟨r, hs, h⟩
  | .map b, r, c, hs, h => hv b r c hs h
  | .nilm, r, c, hs, h => ⟨r, hs, h⟩
  | .func _ g q, r, c, hs, h => by
    obtain ⟨r1, h1, h2⟩ := reachV_ok hv g r (fun r => reachV q vis r c) hs h
    exact reachV_ok hv q r1 c h1 h2
  | .yld b, r, c, hs, h => hv b r c hs h
  | .nilf, r, c, hs, h => ⟨r, hs, h⟩
  | .iface _ v, r, c, hs, h => reachV_ok hv v r c hs h
  | .nili, r, c, hs, h => ⟨r, hs, h⟩
  | .agg l, r, c, hs, h => reachV_ok hv l r c hs h
  | .tup l, r, c, hs, h => reachV_ok hv l r c hs h
  | .nil, r, c, hs, h => ⟨r, hs, h⟩
  | .cons a t, r, c, hs, h => by
    obtain ⟨r1, h1, h2⟩ := reachV_ok hv a r (fun r => reachV t vis r c) hs h
    exact reachV_ok hv t r1 c h1 h2
theorem reachE_ok (hv : VisOk m vis) : ∀ (es : ES) (r : Mem) (c : Mem → Prop), Sub r m → reachE es vis r c → ∃ r', Sub r' m ∧ c r'
  | .nil, r, c, hs, h => ⟨r, hs, h⟩
  | .cons k v b es, r, c, hs, h => by
    obtain ⟨r1, h1, h2⟩ := reachV_ok hv k r (fun r => reachV v vis r fun r => reachE es vis r c) hs h
    obtain ⟨r2, h3, h4⟩ := reachV_ok hv v r1 (fun r => reachE es vis r c) h1 h2
    exact reachE_ok hv es r2 c h3 h4
theorem reachO_ok (hv : VisOk m vis) (o : SO) (r : Mem) (c : Mem → Prop) (hs : Sub r m) (h : reachO o vis r c) : ∃ r', Sub r' m ∧ c r' := by
  cases o with
  | cells l => exact reachV_ok hv l r c hs h
  | grow l z => exact reachV_ok hv l r c hs h
  | mp es t => exact reachE_ok hv es r c hs h
  | mit p a s l => exact hv p r c hs h
  | _ => exact ⟨r, hs, h⟩
theorem visK_ok : ∀ (fuel : Nat), VisOk m (visK m fuel)
  | 0, _, _, _, _, h => h.elim
  | fuel + 1, b, r, c, hs, h => by
    rcases ifK_ok b r _ _ h with ⟨_, _, h1⟩ | ⟨h0, h1⟩
    · exact ⟨r, hs, h1⟩
    · rcases ifK_ok b m _ _ h1 with ⟨ob, h2, h3⟩ | ⟨_, h2⟩
      · have h4 := putK_ok b r ob _ h3
        refine reachO_ok (visK_ok fuel) ob _ c (fun p o hp => ?_) h4
        by_cases e : b = p
        · subst e; rw [get_put_same] at hp; injection hp with hp; subst hp; exact h2
        · rw [get_put_ne b p r ob e] at hp; exact hs p o hp
      · exact ⟨r, hs, h2⟩
theorem sub_leaf (m : Mem) : Sub .leaf m := fun p o h => by rw [get_leaf] at h; cases h
end
theorem minusK_ok : ∀ (r m : Mem) (c : Mem → Prop), minusK r m c → ∃ m', c m' ∧ ∀ p, Tr.get p m' = if Tr.get p r = none then Tr.get p m else none
  | .leaf, m, c, h => ⟨m, h, fun p => by rw [get_leaf]; rfl⟩
  | .nodeN l r, .leaf, c, h => ⟨.leaf, h, fun p => by rw [get_leaf]; split <;> rfl⟩
  | .nodeN l r, .nodeN l' r', c, h => by
    obtain ⟨a, h1, h2⟩ := minusK_ok l l' (fun l => minusK r r' fun r => c (.nodeN l r)) h
    obtain ⟨b, h3, h4⟩ := minusK_ok r r' (fun r => c (.nodeN a r)) h1
    exact ⟨_, h3, fun p => by cases p with | e => rfl | l p => exact h2 p | r p => exact h4 p⟩
  | .nodeN l r, .nodeS l' v r', c, h => by
    obtain ⟨a, h1, h2⟩ := minusK_ok l l' (fun l => minusK r r' fun r => c (.nodeS l v r)) h
    obtain ⟨b, h3, h4⟩ := minusK_ok r r' (fun r => c (.nodeS a v r)) h1
    exact ⟨_, h3, fun p => by cases p with | e => rfl | l p => exact h2 p | r p => exact h4 p⟩
  | .nodeS l _ r, .leaf, c, h => ⟨.leaf, h, fun p => by rw [get_leaf]; split <;> rfl⟩
  | .nodeS l _ r, .nodeN l' r', c, h => by
    obtain ⟨a, h1, h2⟩ := minusK_ok l l' (fun l => minusK r r' fun r => c (.nodeN l r)) h
    obtain ⟨b, h3, h4⟩ := minusK_ok r r' (fun r => c (.nodeN a r)) h1
    exact ⟨_, h3, fun p => by cases p with | e => rfl | l p => exact h2 p | r p => exact h4 p⟩
  | .nodeS l _ r, .nodeS l' v r', c, h => by
    obtain ⟨a, h1, h2⟩ := minusK_ok l l' (fun l => minusK r r' fun r => c (.nodeN l r)) h
    obtain ⟨b, h3, h4⟩ := minusK_ok r r' (fun r => c (.nodeN a r)) h1
    exact ⟨_, h3, fun p => by cases p with | e => rfl | l p => exact h2 p | r p => exact h4 p⟩
theorem plusK_ok : ∀ (r m : Mem) (c : Mem → Prop), plusK r m c → ∃ m', c m' ∧ ∀ p, Tr.get p m' = (Tr.get p r).or (Tr.get p m)
  | .leaf, m, c, h => ⟨m, h, fun p => by rw [get_leaf]; rfl⟩
  | .nodeN l r, .leaf, c, h => by
    obtain ⟨a, h1, h2⟩ := plusK_ok l .leaf (fun l => plusK r .leaf fun r => c (.nodeN l r)) h
    obtain ⟨b, h3, h4⟩ := plusK_ok r .leaf (fun r => c (.nodeN a r)) h1
    exact ⟨_, h3, fun p => by cases p with | e => rfl | l p => have := h2 p; rw [get_leaf] at this; rw [get_leaf]; exact this | r p => have := h4 p; rw [get_leaf] at this; rw [get_leaf]; exact this⟩
  | .nodeN l r, .nodeN l' r', c, h => by
    obtain ⟨a, h1, h2⟩ := plusK_ok l l' (fun l => plusK r r' fun r => c (.nodeN l r)) h
    obtain ⟨b, h3, h4⟩ := plusK_ok r r' (fun r => c (.nodeN a r)) h1
    exact ⟨_, h3, fun p => by cases p with | e => rfl | l p => exact h2 p | r p => exact h4 p⟩
  | .nodeN l r, .nodeS l' v r', c, h => by
    obtain ⟨a, h1, h2⟩ := plusK_ok l l' (fun l => plusK r r' fun r => c (.nodeS l v r)) h
    obtain ⟨b, h3, h4⟩ := plusK_ok r r' (fun r => c (.nodeS a v r)) h1
    exact ⟨_, h3, fun p => by cases p with | e => rfl | l p => exact h2 p | r p => exact h4 p⟩
  | .nodeS l x r, .leaf, c, h => by
    obtain ⟨a, h1, h2⟩ := plusK_ok l .leaf (fun l => plusK r .leaf fun r => c (.nodeS l x r)) h
    obtain ⟨b, h3, h4⟩ := plusK_ok r .leaf (fun r => c (.nodeS a x r)) h1
    exact ⟨_, h3, fun p => by cases p with | e => rfl | l p => have := h2 p; rw [get_leaf] at this; rw [get_leaf]; exact this | r p => have := h4 p; rw [get_leaf] at this; rw [get_leaf]; exact this⟩
  | .nodeS l x r, .nodeN l' r', c, h => by
    obtain ⟨a, h1, h2⟩ := plusK_ok l l' (fun l => plusK r r' fun r => c (.nodeS l x r)) h
    obtain ⟨b, h3, h4⟩ := plusK_ok r r' (fun r => c (.nodeS a x r)) h1
    exact ⟨_, h3, fun p => by cases p with | e => rfl | l p => exact h2 p | r p => exact h4 p⟩
  | .nodeS l x r, .nodeS l' v r', c, h => by
    obtain ⟨a, h1, h2⟩ := plusK_ok l l' (fun l => plusK r r' fun r => c (.nodeS l x r)) h
    obtain ⟨b, h3, h4⟩ := plusK_ok r r' (fun r => c (.nodeS a x r)) h1
    exact ⟨_, h3, fun p => by cases p with | e => rfl | l p => exact h2 p | r p => exact h4 p⟩

/-! Guesses. -/
def GuOk (g : Gu) : Prop := ∀ p q t c, g p q t c → ∃ t', c t'
section
variable {g : Gu}
theorem gueV_ok (hg : GuOk g) : ∀ (a b : SV) (t : Tr Pos) (c : Tr Pos → Prop), gueV a b g t c → ∃ t', c t'
  | .bool _, b, t, c, h => ⟨t, h⟩
  | .int _ _, b, t, c, h => ⟨t, h⟩
  | .str _, b, t, c, h => ⟨t, h⟩
  | .ptr p o, b, t, c, h => by obtain ⟨q, _, _, h1⟩ := onPtr_ok h; exact hg _ _ _ _ h1
  | .nilp, b, t, c, h => ⟨t, h⟩
  | .slice p _ _ _, b, t, c, h => by obtain ⟨q, _, _, _, _, h1⟩ := onSlice_ok h; exact hg _ _ _ _ h1
  | .emp p i, b, t, c, h => by cases b <;> first | exact h.elim | exact hg _ _ _ _ h
  | .nils, b, t, c, h => ⟨t, h⟩
  | .map p, b, t, c, h => by obtain ⟨q, _, h1⟩ := onMap_ok h; exact hg _ _ _ _ h1
  | .nilm, b, t, c, h => ⟨t, h⟩
  | .func _ f d, b, t, c, h => by
    obtain ⟨_, f', d', _, h1⟩ := onFunc_ok h
    obtain ⟨t1, h2⟩ := gueV_ok hg f f' t (fun t => gueV d d' g t c) h1
    exact gueV_ok hg d d' t1 c h2
  | .yld p, b, t, c, h => by obtain ⟨q, _, h1⟩ := onYld_ok h; exact hg _ _ _ _ h1
  | .nilf, b, t, c, h => ⟨t, h⟩
  | .iface _ v, b, t, c, h => by obtain ⟨_, v', _, h1⟩ := onIface_ok h; exact gueV_ok hg v v' t c h1
  | .nili, b, t, c, h => ⟨t, h⟩
  | .agg l, b, t, c, h => by obtain ⟨v', _, h1⟩ := onAgg_ok h; exact gueV_ok hg l v' t c h1
  | .tup l, b, t, c, h => by obtain ⟨v', _, h1⟩ := onTup_ok h; exact gueV_ok hg l v' t c h1
  | .nil, b, t, c, h => ⟨t, h⟩
  | .cons a r, b, t, c, h => by
    obtain ⟨a', r', _, h1⟩ := onCons_ok h
    obtain ⟨t1, h2⟩ := gueV_ok hg a a' t (fun t => gueV r r' g t c) h1
    exact gueV_ok hg r r' t1 c h2
theorem gueE_ok (hg : GuOk g) : ∀ (a b : ES) (t : Tr Pos) (c : Tr Pos → Prop), gueE a b g t c → ∃ t', c t'
  | .nil, b, t, c, h => ⟨t, h⟩
  | .cons k v _ r, .nil, t, c, h => h.elim
  | .cons k v _ r, .cons k' v' _ r', t, c, h => by
    obtain ⟨t1, h2⟩ := gueV_ok hg k k' t (fun t => gueV v v' g t fun t => gueE r r' g t c) h
    obtain ⟨t2, h3⟩ := gueV_ok hg v v' t1 (fun t => gueE r r' g t c) h2
    exact gueE_ok hg r r' t2 c h3
theorem gueO_ok (hg : GuOk g) (a b : SO) (t : Tr Pos) (c : Tr Pos → Prop) (h : gueO a b g t c) : ∃ t', c t' := by
  cases a with
  | cells l => have h' : SO.onSet (fun l' _ => gueV l l' g t c) b := h; obtain ⟨l', _, h1, _⟩ := onSet_ok h'; exact gueV_ok hg l l' t c h1
  | grow l z => have h' : SO.onSet (fun l' _ => gueV l l' g t c) b := h; obtain ⟨l', _, h1, _⟩ := onSet_ok h'; exact gueV_ok hg l l' t c h1
  | mp es s => have h' : SO.onMp (fun es' _ => gueE es es' g t c) b := h; obtain ⟨es', _, _, h1⟩ := onMp_ok h'; exact gueE_ok hg es es' t c h1
  | _ => exact ⟨t, h⟩
theorem gueN_ok (r0 r1 : Mem) : ∀ (fuel : Nat), GuOk (gueN r0 r1 fuel)
  | 0, _, _, _, _, h => h.elim
  | fuel + 1, p, q, t, c, h => by
    rcases ifK_ok p t _ _ h with ⟨_, _, h1⟩ | ⟨_, h1⟩
    · exact ⟨t, h1⟩
    · have h2 := putK_ok p t q _ h1
      rcases ifK_ok p r0 _ _ h2 with ⟨o, _, h3⟩ | ⟨_, h3⟩
      · rcases ifK_ok q r1 _ _ h3 with ⟨o', _, h4⟩ | ⟨_, h4⟩
        · exact gueO_ok (gueN_ok r0 r1 fuel) o o' _ c h4
        · exact ⟨_, h4⟩
      · exact ⟨_, h3⟩
end
theorem posN_ok : ∀ (p : Pos) (c : Nat → Prop), posN p c → c p.nat
  | .e, _, h => h
  | .l p, c, h => by
    have h1 := posN_ok p _ h
    have h2 := natK_ok h1
    simpa [Pos.nat, Nat.mul_comm] using h2
  | .r p, c, h => by
    have h1 := posN_ok p _ h
    have h2 := natK_ok h1
    simpa [Pos.nat, Nat.mul_comm] using h2
theorem jumpK_ok : ∀ (p : Pos) (j : Nat) (c : Pos → Prop), jumpK p j c → ∃ q, c q
  | .e, 0, c, h => ⟨_, h⟩
  | .e, j + 1, c, h => by obtain ⟨q, hq⟩ := jumpE j (fun p => c (.l p)) h; exact ⟨_, hq⟩
  | .l p, 0, c, h => ⟨_, succK_ok (.l p) c h⟩
  | .l p, j + 1, c, h => by obtain ⟨q, hq⟩ := jumpK_ok p j (fun p => c (.l p)) h; exact ⟨_, hq⟩
  | .r p, 0, c, h => ⟨_, succK_ok (.r p) c h⟩
  | .r p, j + 1, c, h => by obtain ⟨q, hq⟩ := jumpK_ok p j (fun p => c (.r p)) h; exact ⟨_, hq⟩
where jumpE : ∀ (j : Nat) (c : Pos → Prop), @Nat.rec (fun _ => (Pos → Prop) → Prop) (fun c => c (.l .e)) (fun _ ih c => ih fun p => c (.l p)) j c → ∃ q, c q
  | 0, c, h => ⟨_, h⟩
  | j + 1, c, h => by obtain ⟨q, hq⟩ := jumpE j (fun p => c (.l p)) h; exact ⟨_, hq⟩

/-! Checks. -/
theorem posK_ok : ∀ (p q : Pos) (c : Prop), posK p q c → p = q ∧ c
  | .e, .e, c, h => ⟨rfl, h⟩
  | .e, .l _, _, h => h.elim
  | .e, .r _, _, h => h.elim
  | .l _, .e, _, h => h.elim
  | .l p, .l q, c, h => by obtain ⟨e, h⟩ := posK_ok p q c h; exact ⟨by rw [e], h⟩
  | .l _, .r _, _, h => h.elim
  | .r _, .e, _, h => h.elim
  | .r _, .l _, _, h => h.elim
  | .r p, .r q, c, h => by obtain ⟨e, h⟩ := posK_ok p q c h; exact ⟨by rw [e], h⟩
theorem capK_ok {a b : Cap} {c : Prop} (h : capK a b c) : a = b ∧ c := by
  cases a <;> cases b <;> first
    | exact h.elim
    | (obtain ⟨h1, h2⟩ := bK_t h; exact ⟨by rw [Nat.eq_of_beq_eq_true h1], h2⟩)
theorem nmK_ok {t : Tr Pos} {p q : Pos} {c : Prop} (h : nmK t p q c) : Tr.get p t = some q ∧ c := by
  obtain ⟨u, h1, h2⟩ := getK_ok p t _ h
  obtain ⟨rfl, h3⟩ := posK_ok u q c h2
  exact ⟨h1, h3⟩
def Nam (t : Tr Pos) (ρ ρ' : Env) : Prop := ∀ p q, Tr.get p t = some q → ρ p = ρ' q
theorem vrfV_ok {t : Tr Pos} : ∀ (a b : SV) (c : Prop), vrfV t a b c → c ∧ ∀ ρ ρ', Nam t ρ ρ' → (∀ x, VR ρ' b x → VR ρ a x) ∧ ∀ vs, LV ρ' b vs → LV ρ a vs
  | .bool a, b, c, h => by
    obtain ⟨b, rfl, h⟩ := onBool_ok h
    have : c ∧ a = b := by cases a <;> cases b <;> first | exact h.elim | exact ⟨h, rfl⟩
    obtain ⟨h1, rfl⟩ := this
    exact ⟨h1, fun ρ ρ' _ => ⟨fun x e => by simpa only [VR] using e, fun vs e => by simp only [LV] at e⟩⟩
  | .int k a, b, c, h => by
    obtain ⟨j, b, rfl, h⟩ := onInt_ok h
    obtain ⟨rfl, h1⟩ := kK_ok h
    have h2 := eqK_ok h1
    obtain ⟨h3, h4⟩ := bK_t h2
    have h5 := of_decide_eq_true h3
    subst h5
    exact ⟨h4, fun ρ ρ' _ => ⟨fun x e => by simpa only [VR] using e, fun vs e => by simp only [LV] at e⟩⟩
  | .str a, b, c, h => by
    obtain ⟨b, rfl, h⟩ := onStr_ok h
    have h2 := teqK_ok _ _ _ h
    obtain ⟨h3, h4⟩ := bK_t h2
    have h5 := of_decide_eq_true h3
    subst h5
    exact ⟨h4, fun ρ ρ' _ => ⟨fun x e => by simpa only [VR] using e, fun vs e => by simp only [LV] at e⟩⟩
  | .ptr p o, b, c, h => by
    obtain ⟨q, u, rfl, h⟩ := onPtr_ok h
    obtain ⟨h1, h2⟩ := nmK_ok h
    obtain ⟨h3, h4⟩ := bK_t h2
    have h5 := Nat.eq_of_beq_eq_true h3; subst h5
    refine ⟨h4, fun ρ ρ' hn => ⟨fun x e => ?_, fun vs e => by simp only [LV] at e⟩⟩
    simp only [VR] at e ⊢
    obtain ⟨a, k, e1, e2⟩ := e
    exact ⟨a, k, (hn _ _ h1).trans e1, e2⟩
  | .nilp, b, c, h => by
    cases b <;> first
      | exact h.elim
      | exact ⟨h, fun ρ ρ' _ => ⟨fun x e => by simpa only [VR] using e, fun vs e => by simp only [LV] at e⟩⟩
  | .slice p o n q, b, c, h => by
    obtain ⟨q', u, m, d, rfl, h⟩ := onSlice_ok h
    obtain ⟨h1, h2⟩ := nmK_ok h
    obtain ⟨h3, h4⟩ := bK_t h2
    have h5 := Nat.eq_of_beq_eq_true h3; subst h5
    obtain ⟨h6, h7⟩ := bK_t h4
    have h8 := Nat.eq_of_beq_eq_true h6; subst h8
    obtain ⟨rfl, h9⟩ := capK_ok h7
    refine ⟨h9, fun ρ ρ' hn => ⟨fun x e => ?_, fun vs e => by cases q <;> simp only [LV] at e⟩⟩
    cases q <;>
    · simp only [VR] at e ⊢
      obtain ⟨a, k, e1, e2⟩ := e
      exact ⟨a, k, (hn _ _ h1).trans e1, e2⟩
  | .emp p i, b, c, h => by
    cases b <;> first | exact h.elim | skip
    obtain ⟨h1, h2⟩ := nmK_ok h
    obtain ⟨h3, h4⟩ := bK_t h2
    have h5 := Nat.eq_of_beq_eq_true h3; subst h5
    refine ⟨h4, fun ρ ρ' hn => ⟨fun x e => ?_, fun vs e => by simp only [LV] at e⟩⟩
    simp only [VR] at e ⊢
    obtain ⟨a, k, o, e1, e2⟩ := e
    exact ⟨a, k, o, (hn _ _ h1).trans e1, e2⟩
  | .nils, b, c, h => by
    cases b <;> first
      | exact h.elim
      | exact ⟨h, fun ρ ρ' _ => ⟨fun x e => by simpa only [VR] using e, fun vs e => by simp only [LV] at e⟩⟩
  | .map p, b, c, h => by
    obtain ⟨q, rfl, h⟩ := onMap_ok h
    obtain ⟨h1, h2⟩ := nmK_ok h
    refine ⟨h2, fun ρ ρ' hn => ⟨fun x e => ?_, fun vs e => by simp only [LV] at e⟩⟩
    simp only [VR] at e ⊢
    obtain ⟨a, k, e1, e2⟩ := e
    exact ⟨a, k, (hn _ _ h1).trans e1, e2⟩
  | .nilm, b, c, h => by
    cases b <;> first
      | exact h.elim
      | exact ⟨h, fun ρ ρ' _ => ⟨fun x e => by simpa only [VR] using e, fun vs e => by simp only [LV] at e⟩⟩
  | .func n g q, b, c, h => by
    obtain ⟨m, g', q', rfl, h⟩ := onFunc_ok h
    obtain ⟨h1, h2⟩ := bK_t h
    have h3 := Nat.eq_of_beq_eq_true h1; subst h3
    obtain ⟨h4, h5⟩ := vrfV_ok g g' _ h2
    obtain ⟨h6, h7⟩ := vrfV_ok q q' _ h4
    refine ⟨h6, fun ρ ρ' hn => ⟨fun x e => ?_, fun vs e => by simp only [LV] at e⟩⟩
    simp only [VR] at e ⊢
    obtain ⟨vs, ws, e1, e2, e3⟩ := e
    exact ⟨vs, ws, (h5 ρ ρ' hn).2 _ e1, (h7 ρ ρ' hn).2 _ e2, e3⟩
  | .yld p, b, c, h => by
    obtain ⟨q, rfl, h⟩ := onYld_ok h
    obtain ⟨h1, h2⟩ := nmK_ok h
    refine ⟨h2, fun ρ ρ' hn => ⟨fun x e => ?_, fun vs e => by simp only [LV] at e⟩⟩
    simp only [VR] at e ⊢
    obtain ⟨a, k, e1, e2⟩ := e
    exact ⟨a, k, (hn _ _ h1).trans e1, e2⟩
  | .nilf, b, c, h => by
    cases b <;> first
      | exact h.elim
      | exact ⟨h, fun ρ ρ' _ => ⟨fun x e => by simpa only [VR] using e, fun vs e => by simp only [LV] at e⟩⟩
  | .iface n v, b, c, h => by
    obtain ⟨m, v', rfl, h⟩ := onIface_ok h
    obtain ⟨h1, h2⟩ := bK_t h
    have h3 := Nat.eq_of_beq_eq_true h1; subst h3
    obtain ⟨h4, h5⟩ := vrfV_ok v v' _ h2
    refine ⟨h4, fun ρ ρ' hn => ⟨fun x e => ?_, fun vs e => by simp only [LV] at e⟩⟩
    simp only [VR] at e ⊢
    obtain ⟨y, e1, e2⟩ := e
    exact ⟨y, (h5 ρ ρ' hn).1 _ e1, e2⟩
  | .nili, b, c, h => by
    cases b <;> first
      | exact h.elim
      | exact ⟨h, fun ρ ρ' _ => ⟨fun x e => by simpa only [VR] using e, fun vs e => by simp only [LV] at e⟩⟩
  | .agg l, b, c, h => by
    obtain ⟨l', rfl, h⟩ := onAgg_ok h
    obtain ⟨h4, h5⟩ := vrfV_ok l l' _ h
    refine ⟨h4, fun ρ ρ' hn => ⟨fun x e => ?_, fun vs e => by simp only [LV] at e⟩⟩
    simp only [VR] at e ⊢
    obtain ⟨vs, e1, e2⟩ := e
    exact ⟨vs, (h5 ρ ρ' hn).2 _ e1, e2⟩
  | .tup l, b, c, h => by
    obtain ⟨l', rfl, h⟩ := onTup_ok h
    obtain ⟨h4, h5⟩ := vrfV_ok l l' _ h
    refine ⟨h4, fun ρ ρ' hn => ⟨fun x e => ?_, fun vs e => by simp only [LV] at e⟩⟩
    simp only [VR] at e ⊢
    obtain ⟨vs, e1, e2⟩ := e
    exact ⟨vs, (h5 ρ ρ' hn).2 _ e1, e2⟩
  | .nil, b, c, h => by
    obtain ⟨rfl, h⟩ := onNil_ok h
    exact ⟨h, fun ρ ρ' _ => ⟨fun x e => by simp only [VR] at e, fun vs e => LV_nil.2 (LV_nil.1 e)⟩⟩
  | .cons a r, b, c, h => by
    obtain ⟨a', r', rfl, h⟩ := onCons_ok h
    obtain ⟨h4, h5⟩ := vrfV_ok a a' _ h
    obtain ⟨h6, h7⟩ := vrfV_ok r r' _ h4
    refine ⟨h6, fun ρ ρ' hn => ⟨fun x e => by simp only [VR] at e, fun vs e => ?_⟩⟩
    obtain ⟨v, ws, e1, e2, e3⟩ := LV_cons.1 e
    exact LV_cons.2 ⟨v, ws, (h5 ρ ρ' hn).1 _ e1, (h7 ρ ρ' hn).2 _ e2, e3⟩
theorem vrfE_ok {t : Tr Pos} : ∀ (a b : ES) (c : Prop), vrfE t a b c → c ∧ ∀ ρ ρ', Nam t ρ ρ' → ∀ E, ESR ρ' b E → ESR ρ a E
  | .nil, .nil, c, h => ⟨h, fun _ _ _ _ e => e⟩
  | .nil, .cons _ _ _ _, c, h => h.elim
  | .cons _ _ _ _, .nil, c, h => h.elim
  | .cons k v b r, .cons k' v' b' r', c, h => by
    obtain ⟨h1, h2⟩ := vrfV_ok k k' _ h
    obtain ⟨h3, h4⟩ := vrfV_ok v v' _ h1
    obtain ⟨h5, h6⟩ := bK_t h3
    have h7 := Nat.eq_of_beq_eq_true h5; subst h7
    obtain ⟨h8, h9⟩ := vrfE_ok r r' c h6
    refine ⟨h8, fun ρ ρ' hn E e => ?_⟩
    obtain ⟨y, E', e1, e2, e3, e4, e5⟩ := e
    exact ⟨y, E', (h2 ρ ρ' hn).1 _ e1, (h4 ρ ρ' hn).1 _ e2, e3, h9 ρ ρ' hn _ e4, e5⟩
theorem vrfO_ok {P : Program} {t : Tr Pos} {a b : SO} {c : Prop} (h : vrfO t a b c) : c ∧ ∀ ρ ρ', Nam t ρ ρ' → ∀ k ob, OR P ρ' k b ob → OR P ρ k a ob := by
  cases a with
  | cells l =>
    cases b <;> first | exact h.elim | skip
    obtain ⟨h1, h2⟩ := vrfV_ok l _ _ h
    refine ⟨h1, fun ρ ρ' hn k ob e => ?_⟩
    obtain ⟨vs, T, f, e1, e2, e3⟩ := e
    exact ⟨vs, T, f, e1, (h2 ρ ρ' hn).2 _ e2, e3⟩
  | grow l z =>
    cases b <;> first | exact h.elim | skip
    obtain ⟨h1, h2⟩ := vrfV_ok l _ _ h
    obtain ⟨h3, h4⟩ := bK_t h1
    have h5 := Nat.eq_of_beq_eq_true h3; subst h5
    refine ⟨h4, fun ρ ρ' hn k ob e => ?_⟩
    obtain ⟨vs, zs, T, f, e1, e2, e3⟩ := e
    exact ⟨vs, zs, T, f, e1, (h2 ρ ρ' hn).2 _ e2, e3⟩
  | mp es s =>
    cases b <;> first | exact h.elim | skip
    obtain ⟨h1, h2⟩ := vrfE_ok es _ _ h
    obtain ⟨h3, h4⟩ := bK_t h1
    have h5 := Nat.eq_of_beq_eq_true h3; subst h5
    refine ⟨h4, fun ρ ρ' hn k ob e => ?_⟩
    obtain ⟨E, e1, e2⟩ := e
    exact ⟨E, e1, h2 ρ ρ' hn _ e2⟩
  | _ => exact h.elim
theorem vrfM_ok {P : Program} {t : Tr Pos} {r1 : Mem} : ∀ (r0 : Mem) (s : Tr Pos) (c : Prop), vrfM t r1 r0 s c → c ∧ ∀ p o, Tr.get p r0 = some o → ∃ q o', Tr.get p s = some q ∧ Tr.get q r1 = some o' ∧ ∀ ρ ρ', Nam t ρ ρ' → ∀ k ob, OR P ρ' k o' ob → OR P ρ k o ob
  | .leaf, s, c, h => ⟨h, fun p o hp => by rw [get_leaf] at hp; cases hp⟩
  | .nodeN l r, .leaf, c, h => by
    obtain ⟨h1, h2⟩ := vrfM_ok (P := P) l .leaf _ h
    obtain ⟨h3, h4⟩ := vrfM_ok (P := P) r .leaf _ h1
    refine ⟨h3, fun p o hp => ?_⟩
    cases p with
    | e => cases hp
    | l p => obtain ⟨q, o', e, _⟩ := h2 p o hp; rw [get_leaf] at e; cases e
    | r p => obtain ⟨q, o', e, _⟩ := h4 p o hp; rw [get_leaf] at e; cases e
  | .nodeN l r, .nodeN l' r', c, h => by
    obtain ⟨h1, h2⟩ := vrfM_ok (P := P) l l' _ h
    obtain ⟨h3, h4⟩ := vrfM_ok (P := P) r r' _ h1
    exact ⟨h3, fun p o hp => by cases p with | e => cases hp | l p => exact h2 p o hp | r p => exact h4 p o hp⟩
  | .nodeN l r, .nodeS l' _ r', c, h => by
    obtain ⟨h1, h2⟩ := vrfM_ok (P := P) l l' _ h
    obtain ⟨h3, h4⟩ := vrfM_ok (P := P) r r' _ h1
    exact ⟨h3, fun p o hp => by cases p with | e => cases hp | l p => exact h2 p o hp | r p => exact h4 p o hp⟩
  | .nodeS _ _ _, .leaf, c, h => h.elim
  | .nodeS _ _ _, .nodeN _ _, c, h => h.elim
  | .nodeS l o r, .nodeS l' q r', c, h => by
    obtain ⟨o', g1, g2⟩ := getK_ok q r1 _ h
    obtain ⟨g3, g4⟩ := vrfO_ok (P := P) g2
    obtain ⟨h1, h2⟩ := vrfM_ok (P := P) l l' _ g3
    obtain ⟨h3, h4⟩ := vrfM_ok (P := P) r r' _ h1
    refine ⟨h3, fun p x hp => ?_⟩
    cases p with
    | e => injection hp with hp; subst hp; exact ⟨q, o', rfl, g1, g4⟩
    | l p => exact h2 p x hp
    | r p => exact h4 p x hp
theorem oldP_ok {x x' : Nat} {p q : Pos} {c : Prop} (h : oldP x x' p q c) : c ∧ p.nat < x' ∧ (p.nat < x → p = q) := by
  have h1 := posN_ok p _ h
  have h2 := posN_ok q _ h1
  obtain ⟨h3, h4⟩ := bK_t h2
  rcases bK_ok h4 with ⟨h5, h6⟩ | ⟨h5, h6⟩
  · exact ⟨h6, blt_iff.1 h3, fun _ => Pos.nat_inj (Nat.eq_of_beq_eq_true h5)⟩
  · obtain ⟨h7, h8⟩ := bK_t h6
    exact ⟨h8, blt_iff.1 h3, fun h9 => absurd (Nat.le_of_ble_eq_true h7) (by omega)⟩
theorem vrfP_ok {x x' : Nat} : ∀ (s : Tr Pos) (f : Pos → Pos) (u : Tr Pos) (c : Tr Pos → Prop), vrfP x x' s f u c → ∃ u', c u' ∧ (∀ q, Tr.get q u ≠ none → Tr.get q u' ≠ none) ∧
    (∀ p q, Tr.get p s = some q → Tr.get q u = none ∧ Tr.get q u' ≠ none ∧ (f p).nat < x' ∧ ((f p).nat < x → f p = q)) ∧ ∀ p p' q, Tr.get p s = some q → Tr.get p' s = some q → p = p'
  | .leaf, f, u, c, h => ⟨u, h, fun _ h => h, fun p q hp => (by rw [get_leaf] at hp; cases hp), fun p p' q hp => (by rw [get_leaf] at hp; cases hp)⟩
  | .nodeN l r, f, u, c, h => by
    obtain ⟨u1, h1, a1, b1, d1⟩ := vrfP_ok l (fun p => f (.l p)) u _ h
    obtain ⟨u2, h2, a2, b2, d2⟩ := vrfP_ok r (fun p => f (.r p)) u1 _ h1
    refine ⟨u2, h2, fun q hq => a2 q (a1 q hq), fun p q hp => ?_, fun p p' q hp hp' => ?_⟩
    · cases p with
      | e => cases hp
      | l p => obtain ⟨e1, e2, e3⟩ := b1 p q hp; exact ⟨e1, a2 q e2, e3⟩
      | r p =>
        obtain ⟨e1, e2, e3⟩ := b2 p q hp
        refine ⟨?_, e2, e3⟩
        cases h : Tr.get q u with
        | none => rfl
        | some z => exact absurd e1 (a1 q (by rw [h]; simp))
    · cases p with
      | e => cases hp
      | l p =>
        cases p' with
        | e => cases hp'
        | l p' => rw [d1 p p' q hp hp']
        | r p' => exact absurd (b2 p' q hp').1 (b1 p q hp).2.1
      | r p =>
        cases p' with
        | e => cases hp'
        | l p' => exact absurd (b2 p q hp).1 (b1 p' q hp').2.1
        | r p' => rw [d2 p p' q hp hp']
  | .nodeS l z r, f, u, c, h => by
    rcases ifK_ok z u _ _ h with ⟨_, _, h0⟩ | ⟨hz, h0⟩
    · exact h0.elim
    · have h00 := putK_ok z u z _ h0
      obtain ⟨h01, h02, h03⟩ := oldP_ok h00
      obtain ⟨u1, h1, a1, b1, d1⟩ := vrfP_ok l (fun p => f (.l p)) (Tr.put z u z) _ h01
      obtain ⟨u2, h2, a2, b2, d2⟩ := vrfP_ok r (fun p => f (.r p)) u1 _ h1
      have a0 : ∀ q, Tr.get q u ≠ none → Tr.get q (Tr.put z u z) ≠ none := fun q hq => by
        by_cases e : z = q
        · subst e; rw [get_put_same]; simp
        · rw [get_put_ne z q u z e]; exact hq
      have z0 : Tr.get z (Tr.put z u z) ≠ none := by rw [get_put_same]; simp
      have back : ∀ {q : Pos} {v : Tr Pos}, (∀ q, Tr.get q (Tr.put z u z) ≠ none → Tr.get q v ≠ none) → Tr.get q v = none → Tr.get q u = none ∧ z ≠ q := fun {q v} hv hq => by
        constructor
        · cases h : Tr.get q u with
          | none => rfl
          | some y => exact absurd hq (hv q (a0 q (by rw [h]; simp)))
        · intro e; subst e; exact hv _ z0 hq
      refine ⟨u2, h2, fun q hq => a2 q (a1 q (a0 q hq)), fun p q hp => ?_, fun p p' q hp hp' => ?_⟩
      · cases p with
        | e => injection hp with hp; subst hp; exact ⟨hz, a2 _ (a1 _ z0), h02, h03⟩
        | l p => obtain ⟨e1, e2, e3⟩ := b1 p q hp; exact ⟨(back (fun _ h => h) e1).1, a2 q e2, e3⟩
        | r p => obtain ⟨e1, e2, e3⟩ := b2 p q hp; exact ⟨(back a1 e1).1, e2, e3⟩
      · cases p with
        | e =>
          injection hp with hp; subst hp
          cases p' with
          | e => rfl
          | l p' => exact absurd rfl (back (fun _ h => h) (b1 p' _ hp').1).2
          | r p' => exact absurd rfl (back a1 (b2 p' _ hp').1).2
        | l p =>
          cases p' with
          | e => injection hp' with hp'; subst hp'; exact absurd rfl (back (fun _ h => h) (b1 p _ hp).1).2
          | l p' => rw [d1 p p' q hp hp']
          | r p' => exact absurd (b2 p' q hp').1 (b1 p q hp).2.1
        | r p =>
          cases p' with
          | e => injection hp' with hp'; subst hp'; exact absurd rfl (back a1 (b2 p _ hp).1).2
          | l p' => exact absurd (b2 p q hp).1 (b1 p' q hp').2.1
          | r p' => rw [d2 p p' q hp hp']
end Go.Ev
end
section
set_option linter.all false
set_option linter.unusedVariables false
set_option linter.unusedSimpArgs false
namespace Go.Ev
open Go

/-- Names from n on are free. -/
def Fre (ρ : Env) (n : Pos) : Prop := ∀ p : Pos, n.nat ≤ p.nat → ρ p = none
theorem Fre.free {ρ : Env} {n n' : Pos} (h : Fre ρ n) : Free ρ n n' := fun p hp _ => h p hp
theorem Fre.below {P : Program} {ρ : Env} {n n' : Pos} {m : Mem} {w : World} (h : Fre ρ n) (hm : Rel P ρ n' m w) : Below m n := fun p hp => by
  cases h1 : Tr.get p m with
  | none => exact absurd h1 hp
  | some o =>
    obtain ⟨a, k, ob, h2, _⟩ := hm.mem p o h1
    by_cases hlt : p.nat < n.nat
    · exact hlt
    · rw [h p (by omega)] at h2; cases h2
/-- The world goes on, and names with it. -/
structure Gon (P : Program) (ρ : Env) (n : Pos) (m : Mem) (w : World) (ρ' : Env) (n' : Pos) (m' : Mem) (w' : World) : Prop where
  le : n.nat ≤ n'.nat
  fre : Fre ρ' n'
  evo : Evo P ρ n m w ρ' n' m' w'
section
variable {P : Program}
theorem Gon.trans {ρ ρ' ρ'' : Env} {n n' n'' : Pos} {m m' m'' : Mem} {w w' w'' : World} (h : Gon P ρ n m w ρ' n' m' w') (k : Gon P ρ' n' m' w' ρ'' n'' m'' w'') : Gon P ρ n m w ρ'' n'' m'' w'' :=
  ⟨Nat.le_trans h.le k.le, k.fre, h.evo.trans k.evo h.le k.le⟩
theorem Gon.refl {ρ : Env} {n : Pos} {m : Mem} {w : World} (h : Rel P ρ n m w) (hf : Fre ρ n) : Gon P ρ n m w ρ n m w := ⟨Nat.le_refl _, hf, .refl h⟩
theorem Evo.gon {ρ ρ' : Env} {n n' : Pos} {m m' : Mem} {w w' : World} (h : Evo P ρ n m w ρ' n' m' w') (hl : n.nat ≤ n'.nat) (hf : Fre ρ n) : Gon P ρ n m w ρ' n' m' w' :=
  ⟨hl, fun p hp => by rw [h.out p (.inr hp)]; exact hf p (by omega), h⟩
theorem Gon.rel {ρ ρ' : Env} {n n' : Pos} {m m' : Mem} {w w' : World} (h : Gon P ρ n m w ρ' n' m' w') : Rel P ρ' n' m' w' := h.evo.rel
theorem Gon.ext {ρ ρ' : Env} {n n' : Pos} {m m' : Mem} {w w' : World} (h : Gon P ρ n m w ρ' n' m' w') : Ext ρ ρ' := h.evo.ext
end
/-- A function that can be entered. -/
def Ent (P : Program) (fn : Nat) : Prop := ∃ f, P.funcs[fn]? = some f ∧ f.body.isSome = true ∧ (f.name == "runtime.NumGoroutine") = false
/-- A way to evaluate calls is sound. -/
def ClOk (P : Program) (cl : Cl) : Prop := ∀ fn l m n (c : Co) k, (∀ v m n, c v m n False = False) → cl fn l m n c k → ∀ ρ w vs, Rel P ρ n m w → Fre ρ n → LV ρ l vs →
  Ent P fn ∧ Calls P fn vs.toArray w fun e w' => ∃ v m' n' k' ρ' x, c v m' n' k' ∧ e = .returned x ∧ Gon P ρ n m w ρ' n' m' w' ∧ VR ρ' v x
theorem Calls.imp {P : Program} {f : FuncId} {args : Array Value} {w : World} {R R' : Ending → World → Prop} (h : Calls P f args w R) (hr : ∀ e w', R e w' → R' e w') : Calls P f args w R' :=
  fun cs => let ⟨e, w', fr, r, rest⟩ := h cs; ⟨e, w', fr, hr _ _ r, rest⟩

section
variable {runF runA : Cl}
theorem chk_ok {P : Program} {v0 v l : SV} {r1 r0 : Mem} {x x' : Nat} {k : Prop}
    (h : gueV (.cons v0 l) (.cons v l) (gueN r0 r1 farN) .leaf fun t => vrfV t v0 v (vrfP x x' t (fun p => p) .leaf fun _ => vrfM t r1 r0 t k)) :
    k ∧ ∃ t, (∀ ρ ρ', Nam t ρ ρ' → ∀ x, VR ρ' v x → VR ρ v0 x) ∧ (∀ p q, Tr.get p t = some q → p.nat < x' ∧ (p.nat < x → p = q)) ∧ (∀ p p' q, Tr.get p t = some q → Tr.get p' t = some q → p = p') ∧
      ∀ p o, Tr.get p r0 = some o → ∃ q o', Tr.get p t = some q ∧ Tr.get q r1 = some o' ∧ ∀ ρ ρ', Nam t ρ ρ' → ∀ k ob, OR P ρ' k o' ob → OR P ρ k o ob := by
  obtain ⟨t, h1⟩ := gueV_ok (gueN_ok r0 r1 farN) _ _ _ _ h
  obtain ⟨h2, h3⟩ := vrfV_ok _ _ _ h1
  obtain ⟨u, h4, _, h5, h6⟩ := vrfP_ok _ _ _ _ h2
  obtain ⟨h7, h8⟩ := vrfM_ok (P := P) _ _ _ h4
  exact ⟨h7, t, fun ρ ρ' hn => (h3 ρ ρ' hn).1, fun p q hp => (h5 p q hp).2.2, h6, h8⟩
theorem det_open {fn : Nat} {l : SV} {m : Mem} {n : Pos} {c : Co} {k : Prop} (h1 : FCl runF) (h : detC runF runA fn l m n c k) :
    ∃ r v0 r0' n', Sub r m ∧ n.nat ≤ n'.nat ∧ runA fn l r n (fun v r1 _ k => gueV (.cons v0 l) (.cons v l) (gueN r0' r1 farN) .leaf fun t => vrfV t v0 v (vrfP n.nat n'.nat t (fun p => p) .leaf fun _ => vrfM t r1 r0' t k))
      (minusK r m fun m => plusK r0' m fun m => c v0 m n' k) := by
  obtain ⟨r, hs, h⟩ := reachV_ok (visK_ok farN) l .leaf _ (sub_leaf m) h
  refine Classical.byContradiction fun hno => ?_
  have hF := h1 fn l r n (fun v0 r0 n0 _ =>
    reachV (.cons v0 l) (visK r0 farN) .leaf fun r0' => jumpK n0 10 fun n' => posN n' fun x' => posN n fun x => bK (Nat.ble x x')
      (runA fn l r n (fun v r1 _ k => gueV (.cons v0 l) (.cons v l) (gueN r0' r1 farN) .leaf fun t => vrfV t v0 v (vrfP x x' t (fun p => p) .leaf fun _ => vrfM t r1 r0' t k))
        (minusK r m fun m => plusK r0' m fun m => c v0 m n' k)) False) fun v0 r0 n0 => eq_false fun h => by
    obtain ⟨r0', _, h⟩ := reachV_ok (visK_ok farN) _ _ _ (sub_leaf r0) h
    obtain ⟨n', h⟩ := jumpK_ok _ _ _ h
    have h2 := posN_ok _ _ h
    have h3 := posN_ok _ _ h2
    obtain ⟨h4, h5⟩ := bK_t h3
    exact hno ⟨r, v0, r0', n', hs, Nat.le_of_ble_eq_true h4, h5⟩
  exact hF ▸ h
theorem f_dets {r0' r m : Mem} {v0 : SV} {n' : Pos} {c : Co} (hc : ∀ v m n, c v m n False = False) : (minusK r m fun m => plusK r0' m fun m => c v0 m n' False) = False := eq_false fun h => by
  obtain ⟨m1, h1, _⟩ := minusK_ok _ _ _ h
  obtain ⟨m2, h2, _⟩ := plusK_ok _ _ _ h1
  rw [hc] at h2; exact h2
/-- What is to be shown behind all orders holds. -/
theorem det_rest {fn : Nat} {l v0 : SV} {r r0' : Mem} {n : Pos} {x x' : Nat} {R : Prop} (h2 : FCl runA)
    (h : runA fn l r n (fun v r1 _ k => gueV (.cons v0 l) (.cons v l) (gueN r0' r1 farN) .leaf fun t => vrfV t v0 v (vrfP x x' t (fun p => p) .leaf fun _ => vrfM t r1 r0' t k)) R) : R := by
  refine Classical.byContradiction fun hno => ?_
  rw [eq_false hno, h2 _ _ _ _ _ fun v r1 _ => eq_false fun h => ?_] at h
  · exact h
  · exact (chk_ok (P := default) h).1
theorem f_detC (h1 : FCl runF) (h2 : FCl runA) : FCl (detC runF runA) := by
  intro fn l m n c hc
  refine eq_false fun h => ?_
  obtain ⟨r, v0, r0', n', _, _, h⟩ := det_open h1 h
  have h3 := det_rest (x := n.nat) (x' := n'.nat) h2 h
  rw [f_dets hc] at h3; exact h3
theorem det_ok {P : Program} (h1 : FCl runF) (h2 : FCl runA) (ha : ClOk P runA) : ClOk P (detC runF runA) := by
  intro fn l m n c k hc h ρ w vs hm hf hl
  obtain ⟨r, v0, r0', n', hs, hnn, h⟩ := det_open h1 h
  have hrest := det_rest (x := n.nat) (x' := n'.nat) h2 h
  obtain ⟨m1, g1, g2⟩ := minusK_ok _ _ _ hrest
  obtain ⟨m', g3, g4⟩ := plusK_ok _ _ _ g1
  have hcall := ha fn l r n _ _ (fun v r1 _ => eq_false fun h => (chk_ok (P := P) h).1) h ρ w vs (hm.sub hs) hf hl
  refine ⟨hcall.1, Calls.imp hcall.2 ?_⟩
  rintro e w' ⟨v, r1, n1, k', ρ1, x, hchk, rfl, hg, hx⟩
  obtain ⟨_, t, t1, t2, t3, t4⟩ := chk_ok (P := P) hchk
  let ρ2 : Env := fun p => if p.nat < n.nat then ρ p else match Tr.get p t with | some q => ρ1 q | none => none
  have o2 : ∀ p : Pos, p.nat < n.nat → ρ2 p = ρ p := fun p hp => by simp only [ρ2, hp, if_true]
  have hnam : Nam t ρ2 ρ1 := fun p q hp => by
    by_cases hlt : p.nat < n.nat
    · obtain ⟨_, h5⟩ := t2 p q hp
      have h6 := h5 hlt; subst h6
      rw [o2 p hlt, hg.evo.out p (.inl hlt)]
    · simp only [ρ2, hlt, if_false, hp]
  have hbel := hf.below hm
  have hlive : ∀ p o, Tr.get p m' = some o → Tr.get p r0' = some o ∨ (Tr.get p r0' = none ∧ Tr.get p r = none ∧ Tr.get p m = some o) := fun p o hp => by
    rw [g4, g2] at hp
    cases h5 : Tr.get p r0' with
    | some o' => rw [h5] at hp; exact .inl (by simpa using hp)
    | none =>
      rw [h5] at hp
      by_cases h6 : Tr.get p r = none
      · rw [if_pos h6] at hp; exact .inr ⟨rfl, h6, by simpa using hp⟩
      · rw [if_neg h6] at hp; simp at hp
  have hout : ∀ p o a k, Tr.get p r = none → Tr.get p m = some o → ρ p = some (a, k) → a < w.heap.size ∧ w'.heap[a]? = w.heap[a]? := fun p o a k h5 h6 h7 => by
    have hlt := hm.lt (by rw [h6]; simp) h7
    refine ⟨hlt, hg.evo.frame a hlt fun q j hq hj => ?_⟩
    have h8 := hm.inj p q a k j (by rw [h6]; simp) (hs.live hq) h7 hj
    subst h8; exact hq h5
  have hrel : Rel P ρ2 n' m' w' := by
    refine ⟨fun p q a j j' hp hq h5 h6 => ?_, fun p o hp => ?_⟩
    · obtain ⟨o, ho⟩ := Option.ne_none_iff_exists'.1 hp
      obtain ⟨o', ho'⟩ := Option.ne_none_iff_exists'.1 hq
      have key : ∀ (p q : Pos) o o' (j j' : Nat), Tr.get p r0' = some o → Tr.get q r0' = none → Tr.get q r = none → Tr.get q m = some o' → ρ2 p = some (a, j) → ρ2 q = some (a, j') → False := fun p q o o' j j' e1 e2 e3 e4 e5 e6 => by
        obtain ⟨q1, o1, e7, e8, _⟩ := t4 p o e1
        rw [hnam p q1 e7] at e5
        have hq' := hbel q (by rw [e4]; simp)
        rw [o2 q hq'] at e6
        obtain ⟨hlt, _⟩ := hout q o' a j' e3 e4 e6
        rcases hg.evo.news q1 a j (by rw [e8]; simp) e5 with h7 | ⟨q2, j2, h7, h8⟩
        · omega
        · have h9 := hm.inj q q2 a j' j2 (by rw [e4]; simp) (hs.live h7) e6 h8
          subst h9; exact h7 e3
      rcases hlive p o ho with e1 | ⟨e1, e2, e3⟩
      · rcases hlive q o' ho' with e4 | ⟨e4, e5, e6⟩
        · obtain ⟨p1, o1, e7, e8, _⟩ := t4 p o e1
          obtain ⟨q1, o2', e9, e10, _⟩ := t4 q o' e4
          rw [hnam p p1 e7] at h5; rw [hnam q q1 e9] at h6
          have := hg.rel.inj p1 q1 a j j' (by rw [e8]; simp) (by rw [e10]; simp) h5 h6
          subst this
          exact t3 p q p1 e7 e9
        · exact (key p q o o' j j' e1 e4 e5 e6 h5 h6).elim
      · rcases hlive q o' ho' with e4 | ⟨e4, e5, e6⟩
        · exact (key q p o' o j' j e4 e1 e2 e3 h6 h5).elim
        · rw [o2 p (hbel p (by rw [e3]; simp))] at h5
          rw [o2 q (hbel q (by rw [e6]; simp))] at h6
          exact hm.inj p q a j j' (by rw [e3]; simp) (by rw [e6]; simp) h5 h6
    · rcases hlive p o hp with e1 | ⟨e1, e2, e3⟩
      · obtain ⟨q, o', e4, e5, e6⟩ := t4 p o e1
        obtain ⟨a, j, ob, e7, e8, e9⟩ := hg.rel.mem q o' e5
        exact ⟨a, j, ob, (hnam p q e4).trans e7, e8, e6 ρ2 ρ1 hnam j ob e9⟩
      · obtain ⟨a, j, ob, e7, e8, e9⟩ := hm.mem p o e3
        have hext : Ext ρ ρ2 := fun p y hp => by
          by_cases hlt : p.nat < n.nat
          · rw [o2 p hlt]; exact hp
          · rw [hf p (by omega)] at hp; cases hp
        refine ⟨a, j, ob, by rw [o2 p (hbel p (by rw [e3]; simp))]; exact e7, ?_, e9.mono P hext⟩
        rw [(hout p o a j e2 e3 e7).2]; exact e8
  have hfre : Fre ρ2 n' := fun p hp => by
    have hlt : ¬ p.nat < n.nat := by omega
    simp only [ρ2, hlt, if_false]
    cases h5 : Tr.get p t with
    | none => rfl
    | some q => have := (t2 p q h5).1; omega
  refine ⟨v0, m', n', k, ρ2, x, g3, rfl, ⟨hnn, hfre, ?_⟩, t1 ρ2 ρ1 hnam x hx⟩
  refine ⟨fun p y hp => ?_, fun p hp => ?_, hrel, hg.evo.os, hg.evo.tape, hg.evo.output, hg.evo.drawn, hg.evo.size, fun a ha hn => ?_, fun p a j hp hj => ?_⟩
  · by_cases hlt : p.nat < n.nat
    · rw [o2 p hlt]; exact hp
    · rw [hf p (by omega)] at hp; cases hp
  · rcases hp with hp | hp
    · exact o2 p hp
    · rw [hfre p hp, hf p (by omega)]
  · exact hg.evo.frame a ha fun p j hp hj => hn p j (hs.live hp) hj
  · obtain ⟨o, ho⟩ := Option.ne_none_iff_exists'.1 hp
    rcases hlive p o ho with e1 | ⟨e1, e2, e3⟩
    · obtain ⟨q, o', e4, e5, _⟩ := t4 p o e1
      rw [hnam p q e4] at hj
      rcases hg.evo.news q a j (by rw [e5]; simp) hj with h7 | ⟨q2, j2, h7, h8⟩
      · exact .inl h7
      · exact .inr ⟨q2, j2, hs.live h7, h8⟩
    · rw [o2 p (hbel p (by rw [e3]; simp))] at hj
      exact .inr ⟨p, j, by rw [e3]; simp, hj⟩
end
/-- Where the rest is False, the whole is: the evaluator. -/
theorem f_callD {P : Program} {low : Program → Nat → Option LF} {dets : List Nat} {ev : Bool → ET} (he : ∀ b, FEv (ev b)) (fst : Bool) : FCl (callD P low dets ev fst) := by
  intro fn l m n c hc
  have h1 : ∀ b, callF P low (ev b) fn l m n c False = False := fun b => f_callF (he b) _ _ _ _ c hc
  have h2 : detC (callF P low (ev true)) (callF P low (ev false)) fn l m n c False = False := f_detC (f_callF (he true)) (f_callF (he false)) _ _ _ _ c hc
  simp only [callD, h1, h2, f_memK, f_bK]
theorem f_evalT {P : Program} {low : Program → Nat → Option LF} {dets : List Nat} : ∀ (fuel : Nat) (b : Bool), FEv (evalT P low dets fuel b)
  | 0, _ => fun _ _ _ _ _ _ _ _ => rfl
  | fuel + 1, b => f_stepT (f_callD (f_evalT fuel) b) (f_roundF (f_evalT fuel b)) (f_evalT fuel b)
end Go.Ev
end
