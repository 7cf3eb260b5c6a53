/-
  The evaluator's soundness, ninth part: maps that are read, texts out of bytes. The evaluator's soundness, tenth part: all that computes or reads. The evaluator's soundness, eleventh part: every operation that only computes or reads. The evaluator's soundness, twelfth part: operations that make a block. The evaluator's soundness, thirteenth part: every operation that makes a block; what the operations with effects are. The evaluator's soundness, fourteenth part: how memory goes on; operations that store. The evaluator's soundness, fifteenth part: stores, copies, appends. The evaluator's soundness, sixteenth part: maps that are written. The evaluator's soundness, seventeenth part: maps that are written, second half. The evaluator's soundness, eighteenth part: delete, range, copy, clear. No condition.
-/
import Derived.Test.YtbfeggodaaojgaaGreatDoorBa04
import Derived.MapKept
import Derived.Laws.BytesString
set_option linter.all false
section
set_option linter.all false
set_option linter.unusedVariables false
set_option linter.unusedSimpArgs false
namespace Go.Ev
open Go
section
variable {P : Program} {fr : Fm} {m : Mem} {c : SV → Prop}

theorem run_for {α : Type} (g : α → Sem Unit) : ∀ (l : List α) (w : World), (∀ a ∈ l, (g a).run P w = .ok () w) → (forIn l PUnit.unit fun a _ => (do g a; pure (ForInStep.yield PUnit.unit) : Sem (ForInStep PUnit))).run P w = .ok PUnit.unit w
  | [], w, _ => by simp
  | a :: l, w, h => by
    simp only [List.forIn_cons, Sem.run_bind, h a (by simp), Result.andThen_ok, Sem.run_pure]
    exact run_for g l w fun b hb => h b (by simp [hb])
/-- A value of a type's shape can be a key. -/
def KeyOk (P : Program) (n : Nat) (t : TypeId) (q : QT) : Prop :=
  ∀ (a : SV) (c : Prop), keyK q a c → c ∧ ∀ ρ x, VR ρ a x → ∀ w D em, n ≤ D → (Instr.checkKey em (D + 1) t x).run P w = .ok () w
theorem keyFs_ok {n : Nat} {f : TypeId → Option QT} (hf : ∀ t q, f t = some q → KeyOk P n t q) : ∀ (fs : List Field) (q : QT), etFs P f fs = some q →
    ∀ (a : SV) (c : Prop), keyK q a c → c ∧ ∀ ρ x, VR ρ a x → ∃ xs, x = .agg xs ∧ ∀ w D em, n ≤ D → ∀ g ∈ fs, g.name ≠ "_" → ∃ p, (part g.type xs g.offset).run P w = .ok p w ∧ (Instr.checkKey em (D + 1) g.type p).run P w = .ok () w
  | [], q, hq, a, c, h => by
    simp only [etFs, Option.some.injEq] at hq; subst hq
    obtain ⟨l, rfl, h1⟩ := onAgg_ok h
    refine ⟨h1, fun ρ x e => ?_⟩
    simp only [VR] at e
    obtain ⟨xs, _, rfl⟩ := e
    exact ⟨_, rfl, fun w D em _ g hg => by simp at hg⟩
  | g :: fs, q, hq, a, c, h => by
    simp only [etFs] at hq
    split at hq
    · cases hq
    · split at hq
      · rename_i rd e r h1 h2 h3
        injection hq with hq; subst hq
        obtain ⟨l, rfl, h4⟩ := onAgg_ok h
        obtain ⟨u, h5, h6⟩ := part_run h1 h4
        obtain ⟨h7, h8⟩ := hf _ _ h2 u _ h5
        obtain ⟨h9, h10⟩ := keyFs_ok hf fs r h3 _ _ h7
        refine ⟨h9, fun ρ x e1 => ?_⟩
        obtain ⟨xs, hx, h11⟩ := h10 ρ x e1
        simp only [VR] at e1
        obtain ⟨vs, e2, rfl⟩ := e1
        injection hx with hx; subst hx
        refine ⟨_, rfl, fun w D em hD g' hg' hn => ?_⟩
        rcases List.mem_cons.1 hg' with rfl | hg'
        · obtain ⟨p, e3, e4⟩ := h6 ρ vs e2
          exact ⟨p, e4 w, h8 ρ p e3 w D em hD⟩
        · exact h11 w D em hD g' hg' hn
      · cases hq
theorem keyAr_ok {n z : Nat} {e : TypeId} {rd : Rd} {q : QT} (hr : rdT P e = some rd) (hq : KeyOk P n e q) (l : SV) (c : Prop) : ∀ (k o i : Nat), o = i * z →
    @Nat.rec (fun _ => Nat → Prop) (fun _ => c) (fun _ ih o => partK rd l o fun x => keyK q x (natK (Nat.add o z) ih)) k o →
    c ∧ ∀ ρ xs, LV ρ l xs → ∀ w D em, n ≤ D → ∀ j, i ≤ j → j < i + k → ∃ p, (part e xs.toArray (j * z)).run P w = .ok p w ∧ (Instr.checkKey em (D + 1) e p).run P w = .ok () w
  | 0, o, i, _, h => ⟨h, fun ρ xs _ w D em _ j h1 h2 => by omega⟩
  | k + 1, o, i, ho, h => by
    obtain ⟨u, h6, h7⟩ := part_run hr h
    obtain ⟨h8, h9⟩ := hq u _ h6
    obtain ⟨h10, h11⟩ := keyAr_ok hr hq l c k (o + z) (i + 1) (by rw [ho, Nat.succ_mul]) (natK_ok h8)
    refine ⟨h10, fun ρ xs e2 w D em hD j h1 h2 => ?_⟩
    by_cases hj : j = i
    · subst hj
      obtain ⟨p, e3, e4⟩ := h7 ρ xs e2
      subst ho
      exact ⟨p, e4 w, h9 ρ p e3 w D em hD⟩
    · exact h11 ρ xs e2 w D em hD j (by omega) (by omega)
theorem run_key_struct {t : TypeId} {fs : Array Field} {xs : Array Value} {em : Bool} {D : Nat} {w : World} (hu : P.underlying t = some (.struct fs))
    (h : ∀ g ∈ fs.toList, g.name ≠ "_" → ∃ p, (part g.type xs g.offset).run P w = .ok p w ∧ (Instr.checkKey em D g.type p).run P w = .ok () w) : (Instr.checkKey em (D + 1) t (.agg xs)).run P w = .ok () w := by
  simp only [Instr.checkKey, Sem.run_bind, run_underlying hu, Result.andThen_ok]
  rw [← Array.forIn_toList]
  generalize fs.toList = l at h
  clear hu
  induction l with
  | nil => simp
  | cons g l ih =>
    simp only [List.forIn_cons, Sem.run_bind]
    by_cases hn : g.name = "_"
    · simp only [hn, ne_eq, not_true_eq_false, if_false, Sem.run_pure, Result.andThen_ok]
      exact ih fun g' hg' => h g' (by simp [hg'])
    · obtain ⟨p, h1, h2⟩ := h g (by simp) hn
      simp only [hn, ne_eq, not_false_eq_true, if_true, Sem.run_bind, h1, h2, Result.andThen_ok, Sem.run_pure]
      exact ih fun g' hg' => h g' (by simp [hg'])
theorem run_key_array {t e : TypeId} {n : Nat} {xs : Array Value} {em : Bool} {D z : Nat} {w : World} (hu : P.underlying t = some (.array n e)) (hz : ∀ w, (sizeOf e).run P w = .ok z w)
    (h : ∀ j, j < n → ∃ p, (part e xs (j * z)).run P w = .ok p w ∧ (Instr.checkKey em D e p).run P w = .ok () w) : (Instr.checkKey em (D + 1) t (.agg xs)).run P w = .ok () w := by
  simp only [Instr.checkKey, Sem.run_bind, run_underlying hu, Result.andThen_ok]
  simp only [Std.Legacy.Range.forIn_eq_forIn_range', Std.Legacy.Range.size, Nat.sub_zero, Nat.add_one_sub_one, Nat.div_one]
  have hm : ∀ j ∈ List.range' 0 n, ∃ p, (part e xs (j * z)).run P w = .ok p w ∧ (Instr.checkKey em D e p).run P w = .ok () w := fun j hj => h j (by have := List.mem_range'_1.1 hj; omega)
  generalize List.range' 0 n = l at hm
  clear h hu
  induction l with
  | nil => simp
  | cons j l ih =>
    obtain ⟨p, h1, h2⟩ := hm j (by simp)
    simp only [List.forIn_cons, Sem.run_bind, hz w, h1, h2, Result.andThen_ok, Sem.run_pure]
    exact ih fun j' hj' => hm j' (by simp [hj'])
theorem keyT_ok : ∀ (n : Nat) (t : TypeId) (q : QT), etT P n t = some q → KeyOk P n t q
  | 0, _, _, h => by simp [etT] at h
  | n + 1, t, q, h => by
    intro a c hc
    simp only [etT] at h
    split at h
    · rename_i hu
      injection h with h; subst h
      obtain ⟨b, rfl, h1⟩ := onBool_ok hc
      exact ⟨h1, fun ρ x e w D em _ => by simp only [VR] at e; subst e; simp [Instr.checkKey, run_underlying hu]⟩
    · rename_i k hu
      injection h with h; subst h
      obtain ⟨j, b, rfl, h1⟩ := onInt_ok hc
      exact ⟨h1, fun ρ x e w D em _ => by simp only [VR] at e; subst e; simp [Instr.checkKey, run_underlying hu]⟩
    · rename_i hu
      injection h with h; subst h
      obtain ⟨b, rfl, h1⟩ := onStr_ok hc
      exact ⟨h1, fun ρ x e w D em _ => by simp only [VR] at e; rw [e.1]; simp [Instr.checkKey, run_underlying hu]⟩
    · rename_i fs hu
      split at h
      · cases h
      · obtain ⟨h1, h2⟩ := keyFs_ok (n := n) (fun t q hq => keyT_ok n t q hq) fs.toList q h a c hc
        refine ⟨h1, fun ρ x e w D em hD => ?_⟩
        obtain ⟨xs, rfl, h3⟩ := h2 ρ x e
        obtain ⟨D, rfl⟩ : ∃ D', D = D' + 1 := ⟨D - 1, by omega⟩
        exact run_key_struct hu fun g hg hn => h3 w D em (by omega) g hg hn
    · rename_i k e hu
      split at h
      · rename_i z rd q' h1 h2 h3
        injection h with h; subst h
        obtain ⟨l, rfl, h4⟩ := onAgg_ok hc
        obtain ⟨h5, h6⟩ := keyAr_ok (z := z) h2 (keyT_ok n e q' h3) l c k 0 0 (by simp) h4
        refine ⟨h5, fun ρ x ex w D em hD => ?_⟩
        simp only [VR] at ex
        obtain ⟨xs, e3, rfl⟩ := ex
        obtain ⟨D, rfl⟩ : ∃ D', D = D' + 1 := ⟨D - 1, by omega⟩
        exact run_key_array hu (szT_run h1) fun j hj => h6 ρ xs e3 w D em (by omega) j (Nat.zero_le _) (by omega)
      · cases h
    · cases h
/-- What a key finds among entries. -/
def Found (ρ : Env) (E : List MapEntry) (v : SV) (r : Option (Nat × Value)) (i : Nat) : Prop := ∃ j e, E[j]? = some e ∧ VR ρ v e.val ∧ r = some (i + j, e.val)
theorem findNow_ok {q : QT} {d : TypeDesc} (hs : ∀ (a b : SV) (c : Bool → Prop), eqT q a b c → ∃ r, c r ∧ ∀ ρ x y, VR ρ a x → VR ρ b y → Instr.sameNow d x y = some r) : ∀ (es : ES) (k : SV) (c : SV → Prop) (dd : Prop), ES.findK es q k c dd →
    (∃ v, c v ∧ ∀ ρ E x, ESR ρ es E → VR ρ k x → ∀ i, ∃ r, Found ρ E v r i ∧ Instr.findNow d x E i = some r) ∨ (dd ∧ ∀ ρ E x, ESR ρ es E → VR ρ k x → ∀ i, Instr.findNow d x E i = some none)
  | .nil, k, c, dd, h => .inr ⟨h, fun ρ E x e _ i => by simp only [ESR] at e; subst e; rfl⟩
  | .cons k' v b es, k, c, dd, h => by
    obtain ⟨r, h1, h2⟩ := hs k k' _ h
    rcases bK_ok h1 with ⟨rfl, h3⟩ | ⟨rfl, h3⟩
    · refine .inl ⟨v, h3, fun ρ E x e ex i => ?_⟩
      obtain ⟨e0, E', e1, e2, e3, e4, rfl⟩ := e
      refine ⟨some (i, e0.val), ⟨0, e0, rfl, e2, rfl⟩, ?_⟩
      simp only [Instr.findNow, h2 ρ x e0.key ex e1]
    · rcases findNow_ok hs es k c dd h3 with ⟨u, h4, h5⟩ | ⟨h4, h5⟩
      · refine .inl ⟨u, h4, fun ρ E x e ex i => ?_⟩
        obtain ⟨e0, E', e1, e2, e3, e4, rfl⟩ := e
        obtain ⟨r, ⟨j, e5, e6, e7, e8⟩, e9⟩ := h5 ρ E' x e4 ex (i + 1)
        refine ⟨r, ⟨j + 1, e5, by simpa using e6, e7, by rw [e8]; congr 2; omega⟩, ?_⟩
        simp only [Instr.findNow, h2 ρ x e0.key ex e1, e9]
      · refine .inr ⟨h4, fun ρ E x e ex i => ?_⟩
        obtain ⟨e0, E', e1, e2, e3, e4, rfl⟩ := e
        simp only [Instr.findNow, h2 ρ x e0.key ex e1, h5 ρ E' x e4 ex (i + 1)]
theorem findAsk_ok {n : Nat} {kt : TypeId} {q : QT} (hs : EqOk P n kt q) (hn : n ≤ 9999) : ∀ (es : ES) (k : SV) (c : SV → Prop) (dd : Prop), ES.findK es q k c dd →
    (∃ v, c v ∧ ∀ ρ E x, ESR ρ es E → VR ρ k x → ∀ i w, ∃ r, Found ρ E v r i ∧ (Instr.findAsking kt x E i).run P w = .ok r w) ∨ (dd ∧ ∀ ρ E x, ESR ρ es E → VR ρ k x → ∀ i w, (Instr.findAsking kt x E i).run P w = .ok none w)
  | .nil, k, c, dd, h => .inr ⟨h, fun ρ E x e _ i w => by simp only [ESR] at e; subst e; rfl⟩
  | .cons k' v b es, k, c, dd, h => by
    obtain ⟨r, h1, h2⟩ := hs k k' _ h
    rcases bK_ok h1 with ⟨rfl, h3⟩ | ⟨rfl, h3⟩
    · refine .inl ⟨v, h3, fun ρ E x e ex i w => ?_⟩
      obtain ⟨e0, E', e1, e2, e3, e4, rfl⟩ := e
      refine ⟨some (i, e0.val), ⟨0, e0, rfl, e2, rfl⟩, ?_⟩
      have := equal_at (h2 ρ x e0.key ex e1 w 9999 hn)
      simp only [Instr.findAsking, Sem.run_bind, this, Result.andThen_ok]
      rfl
    · rcases findAsk_ok hs hn es k c dd h3 with ⟨u, h4, h5⟩ | ⟨h4, h5⟩
      · refine .inl ⟨u, h4, fun ρ E x e ex i w => ?_⟩
        obtain ⟨e0, E', e1, e2, e3, e4, rfl⟩ := e
        obtain ⟨r, ⟨j, e5, e6, e7, e8⟩, e9⟩ := h5 ρ E' x e4 ex (i + 1) w
        refine ⟨r, ⟨j + 1, e5, by simpa using e6, e7, by rw [e8]; congr 2; omega⟩, ?_⟩
        have := equal_at (h2 ρ x e0.key ex e1 w 9999 hn)
        simp only [Instr.findAsking, Sem.run_bind, this, Result.andThen_ok]
        simpa using e9
      · refine .inr ⟨h4, fun ρ E x e ex i w => ?_⟩
        obtain ⟨e0, E', e1, e2, e3, e4, rfl⟩ := e
        have := equal_at (h2 ρ x e0.key ex e1 w 9999 hn)
        simp only [Instr.findAsking, Sem.run_bind, this, Result.andThen_ok]
        simpa using h5 ρ E' x e4 ex (i + 1) w
theorem findK_ok {n : Nat} {kt : TypeId} {q : QT} (hq : etT P n kt = some q) (hn : n ≤ 9999) {es : ES} {k : SV} {c : SV → Prop} {dd : Prop} (h : ES.findK es q k c dd) :
    (∃ v, c v ∧ ∀ ρ E x, ESR ρ es E → VR ρ k x → ∀ w, ∃ r, Found ρ E v r 0 ∧ (Instr.findKey kt x E).run P w = .ok r w) ∨ (dd ∧ ∀ ρ E x, ESR ρ es E → VR ρ k x → ∀ w, (Instr.findKey kt x E).run P w = .ok none w) := by
  have now : ∀ d, P.underlying kt = some d → (∀ (a b : SV) (c : Bool → Prop), eqT q a b c → ∃ r, c r ∧ ∀ ρ x y, VR ρ a x → VR ρ b y → Instr.sameNow d x y = some r) → (∃ v, c v ∧ ∀ ρ E x, ESR ρ es E → VR ρ k x → ∀ w, ∃ r, Found ρ E v r 0 ∧ (Instr.findKey kt x E).run P w = .ok r w) ∨ (dd ∧ ∀ ρ E x, ESR ρ es E → VR ρ k x → ∀ w, (Instr.findKey kt x E).run P w = .ok none w) := fun d hd hs => by
    rcases findNow_ok hs es k c dd h with ⟨v, h1, h2⟩ | ⟨h1, h2⟩
    · refine .inl ⟨v, h1, fun ρ E x e ex w => ?_⟩
      obtain ⟨r, h3, h4⟩ := h2 ρ E x e ex 0
      exact ⟨r, h3, by simp [Instr.findKey, run_underlying hd, h4]⟩
    · exact .inr ⟨h1, fun ρ E x e ex w => by simp [Instr.findKey, run_underlying hd, h2 ρ E x e ex 0]⟩
  have ask : ∀ d, P.underlying kt = some d → (∀ x y, Instr.sameNow d (.agg x) y = none) → (∀ (b : SV) (c : Bool → Prop), eqT q k b c → ∃ l, k = .agg l) → (∃ v, c v ∧ ∀ ρ E x, ESR ρ es E → VR ρ k x → ∀ w, ∃ r, Found ρ E v r 0 ∧ (Instr.findKey kt x E).run P w = .ok r w) ∨ (dd ∧ ∀ ρ E x, ESR ρ es E → VR ρ k x → ∀ w, (Instr.findKey kt x E).run P w = .ok none w) := fun d hd hs ha => by
    have hrun : ∀ ρ E x, ESR ρ es E → VR ρ k x → ∀ w, (Instr.findKey kt x E).run P w = (Instr.findAsking kt x E).run P w := fun ρ E x e ex w => by
      cases es with
      | nil => simp only [ESR] at e; subst e; simp [Instr.findKey, run_underlying hd, Instr.findNow, Instr.findAsking]
      | cons k' v b r =>
        obtain ⟨e0, E', e1, e2, e3, e4, rfl⟩ := e
        obtain ⟨l, rfl⟩ := ha k' _ h
        simp only [VR] at ex
        obtain ⟨xs, _, rfl⟩ := ex
        simp [Instr.findKey, run_underlying hd, Instr.findNow, hs]
    rcases findAsk_ok (eqT_ok n kt q hq) hn es k c dd h with ⟨v, h1, h2⟩ | ⟨h1, h2⟩
    · refine .inl ⟨v, h1, fun ρ E x e ex w => ?_⟩
      obtain ⟨r, h3, h4⟩ := h2 ρ E x e ex 0 w
      exact ⟨r, h3, by rw [hrun ρ E x e ex w]; exact h4⟩
    · exact .inr ⟨h1, fun ρ E x e ex w => by rw [hrun ρ E x e ex w]; exact h2 ρ E x e ex 0 w⟩
  cases n with
  | zero => simp [etT] at hq
  | succ n =>
    simp only [etT] at hq
    split at hq
    · rename_i hu
      injection hq with hq; subst hq
      refine now _ hu fun a b c hc => ?_
      obtain ⟨r, h1, h2⟩ := eqB_ok hc
      exact ⟨r, h1, fun ρ x y e1 e2 => by obtain ⟨i, j, rfl, rfl, rfl⟩ := h2 ρ x y e1 e2; rfl⟩
    · rename_i k' hu
      injection hq with hq; subst hq
      refine now _ hu fun a b c hc => ?_
      obtain ⟨r, h1, h2⟩ := eqI_ok hc
      exact ⟨r, h1, fun ρ x y e1 e2 => by obtain ⟨k0, i, j, rfl, rfl, rfl⟩ := h2 ρ x y e1 e2; simp [Instr.sameNow]⟩
    · rename_i hu
      injection hq with hq; subst hq
      refine now _ hu fun a b c hc => ?_
      obtain ⟨r, h1, h2⟩ := eqS_ok hc
      exact ⟨r, h1, fun ρ x y e1 e2 => by obtain ⟨s, u, rfl, rfl, _, rfl⟩ := h2 ρ x y e1 e2; simp [Instr.sameNow]⟩
    · rename_i fs hu
      split at hq
      · cases hq
      · refine ask _ hu (fun x y => by simp [Instr.sameNow]) fun b c hc => ?_
        cases hfs : fs.toList with
        | nil =>
          rw [hfs] at hq
          simp only [etFs, Option.some.injEq] at hq; subst hq
          obtain ⟨l, rfl, _⟩ := onAgg_ok hc
          exact ⟨l, rfl⟩
        | cons g r =>
          rw [hfs] at hq
          simp only [etFs] at hq
          split at hq
          · cases hq
          · split at hq
            · injection hq with hq; subst hq
              obtain ⟨l, rfl, _⟩ := onAgg_ok hc
              exact ⟨l, rfl⟩
            · cases hq
    · rename_i k' e' hu
      split at hq
      · injection hq with hq; subst hq
        refine ask _ hu (fun x y => by simp [Instr.sameNow]) fun b c hc => ?_
        obtain ⟨l, rfl, _⟩ := onAgg_ok hc
        exact ⟨l, rfl⟩
      · cases hq
    · cases hq
theorem okK_ok {ok b : Bool} {v : SV} {c : SV → Prop} (h : okK ok b v c) : ∃ u, c u ∧ ∀ ρ x, VR ρ v x → VR ρ u (if ok then .tuple #[x, .bool b] else x) := by
  rcases bK_ok h with ⟨rfl, h1⟩ | ⟨rfl, h1⟩
  · refine ⟨_, h1, fun ρ x e => ?_⟩
    simp only [VR, if_true]
    exact ⟨[x, .bool b], LV_cons.2 ⟨x, _, e, LV_cons.2 ⟨_, _, by simp only [VR], LV_nil.2 rfl, rfl⟩, rfl⟩, rfl⟩
  · exact ⟨_, h1, fun ρ x e => by simpa using e⟩
theorem keyT_kt {t : TypeId} {q : QT} (h : keyT P t = some q) : ∃ kt et, P.underlying t = some (.map kt et) ∧ etT P 5 kt = some q := by
  unfold keyT at h
  split at h
  · rename_i k e hu; exact ⟨_, _, hu, h⟩
  · cases h
theorem q_lkp {t : TypeId} {q : QT} {z : SV} {ok : Bool} {X K : Operand} {x k : LX} (hq : keyT P t = some q) (hz : (valT P t).bind (zvT P) = some z) (hx : lowX X = some x) (hk : lowX K = some k) (h : qLkp q z ok x k fr m c) : ∃ v, c v ∧ QOk P fr m (.lookup t X K ok) v := by
  obtain ⟨kt, et, hu, hq⟩ := keyT_kt hq
  simp only [valT, hu, Option.bind_some] at hz
  obtain ⟨zv, hz1, hz2⟩ := zvT_run hz
  obtain ⟨v, h1, h2⟩ := evK_ok hx h
  obtain ⟨u, h3, h4⟩ := evK_ok hk h1
  cases v <;> first | exact h3.elim | skip
  · rename_i b
    obtain ⟨ob, h5, h6⟩ := getK_ok _ _ _ h3
    obtain ⟨es, clk, rfl, h7⟩ := onMp_ok h6
    obtain ⟨h8, h9⟩ := keyT_ok 5 kt q hq u _ h7
    rcases findK_ok hq (by omega) h8 with ⟨r, h10, h11⟩ | ⟨h10, h11⟩
    · obtain ⟨y, h12, h13⟩ := okK_ok h10
      refine ⟨y, h12, fun ρ n w e d ty pos af gd hm he => ?_⟩
      have e1 := h2 ρ e he
      have e2 := h4 ρ e he
      simp only [VR] at e1
      obtain ⟨a, k', e3, e4⟩ := e1
      obtain ⟨ob, e5, E, rfl, e6⟩ := hm.at h5 e3
      obtain ⟨r', ⟨j, en, e7, e8, rfl⟩, e9⟩ := h11 ρ E _ e6 e2 w
      refine ⟨_, h13 ρ _ e8, run_v ?_⟩
      simp only [Instr.lookup, Sem.run_bind, run_underlying hu, Result.andThen_ok, e4, MapKept.run_getObj_map e5, Sem.run_pure, h9 ρ _ e2 w 9999 _ (by omega), e9]
    · obtain ⟨y, h12, h13⟩ := okK_ok h10
      refine ⟨y, h12, fun ρ n w e d ty pos af gd hm he => ?_⟩
      have e1 := h2 ρ e he
      have e2 := h4 ρ e he
      simp only [VR] at e1
      obtain ⟨a, k', e3, e4⟩ := e1
      obtain ⟨ob, e5, E, rfl, e6⟩ := hm.at h5 e3
      have e9 := h11 ρ E _ e6 e2 w
      refine ⟨_, h13 ρ _ (hz2 ρ), run_v ?_⟩
      simp only [Instr.lookup, Sem.run_bind, run_underlying hu, Result.andThen_ok, e4, MapKept.run_getObj_map e5, Sem.run_pure, h9 ρ _ e2 w 9999 _ (by omega), e9, hz1 w]
  · obtain ⟨h8, h9⟩ := keyT_ok 5 kt q hq u _ h3
    obtain ⟨y, h12, h13⟩ := okK_ok h8
    refine ⟨y, h12, fun ρ n w e d ty pos af gd hm he => ?_⟩
    have e1 := h2 ρ e he
    have e2 := h4 ρ e he
    simp only [VR] at e1
    refine ⟨_, h13 ρ _ (hz2 ρ), run_v ?_⟩
    have e9 : ∀ w, (Instr.findKey kt (e K) ([] : List MapEntry)).run P w = .ok none w := fun w => by
      cases hk0 : P.underlying kt with
      | none => simp [etT, hk0] at hq
      | some d => simp [Instr.findKey, run_underlying hk0, Instr.findNow]
    simp only [Instr.lookup, Sem.run_bind, run_underlying hu, Result.andThen_ok, e1, Sem.run_pure, h9 ρ _ e2 w 9999 _ (by omega), e9, hz1 w]
end
end Go.Ev
end
section
set_option linter.all false
set_option linter.unusedVariables false
set_option linter.unusedSimpArgs false
namespace Go.Ev
open Go
section
variable {P : Program} {fr : Fm} {m : Mem} {c : SV → Prop}

theorem bytK_ok : ∀ (v : SV) (c : List Nat → Prop), bytK v c → ∃ l, c l ∧ Byt l ∧ ∀ ρ vs, LV ρ v vs → vs = (l.map Int.ofNat).map (Value.int .u8)
  | .nil, c, h => ⟨[], h, fun b hb => by simp at hb, fun ρ vs e => by rw [LV_nil] at e; subst e; rfl⟩
  | .cons a t, c, h => by
    obtain ⟨k, i, rfl, h1⟩ := onInt_ok h
    obtain ⟨rfl, h2⟩ := kK_ok h1
    obtain ⟨n, rfl, h3⟩ := intN_ok h2
    obtain ⟨h4, h5⟩ := bK_t h3
    obtain ⟨l, h6, h7, h8⟩ := bytK_ok t _ h5
    refine ⟨_, h6, fun b hb => ?_, fun ρ vs e => ?_⟩
    · rcases List.mem_cons.1 hb with rfl | hb
      · exact blt_iff.1 h4
      · exact h7 b hb
    · obtain ⟨x, r, e1, e2, rfl⟩ := LV_cons.1 e
      simp only [VR] at e1
      rw [e1, h8 ρ r e2]; rfl
  | .bool _, _, h => h.elim
  | .int _ _, _, h => h.elim
  | .str _, _, h => h.elim
  | .ptr _ _, _, h => h.elim
  | .nilp, _, h => h.elim
  | .slice _ _ _ _, _, h => h.elim
  | .emp _ _, _, h => h.elim
  | .nils, _, h => h.elim
  | .map _, _, h => h.elim
  | .nilm, _, h => h.elim
  | .func _ _ _, _, h => h.elim
  | .yld _, _, h => h.elim
  | .nilf, _, h => h.elim
  | .iface _ _, _, h => h.elim
  | .nili, _, h => h.elim
  | .agg _, _, h => h.elim
  | .tup _, _, h => h.elim
theorem fold_bytes : ∀ (l : List Nat) (s : ByteArray), (l.map Int.ofNat).foldl (fun r n => r.push (UInt8.ofNat n.toNat)) s = s ++ bts l
  | [], s => by apply ByteArray.ext; simp [bts]
  | a :: l, s => by
    rw [List.map_cons, List.foldl_cons, fold_bytes l]
    apply ByteArray.ext
    simp [bts, ByteArray.push]
/-- A slice that is not nil lies in its row. -/
theorem slice_is {ρ : Env} {b : Pos} {o n : Nat} {q : Cap} {x : Value} (h : VR ρ (.slice b o n q) x) : ∃ a k q', ρ b = some (a, k) ∧ x = .slice (some ⟨a, o, none⟩) n q' := by
  cases q <;> simp only [VR] at h <;> obtain ⟨a, k, e4, e5⟩ := h <;> exact ⟨a, k, _, e4, e5⟩
theorem row_range {ρ : Env} {n' : Pos} {w : World} {b : Pos} {ob : SO} {l r : SV} {a k o n : Nat} (hm : Rel P ρ n' m w) (hb : Tr.get b m = some ob) (hr : ρ b = some (a, k)) (hl : ob = .cells l ∨ ∃ z, ob = .grow l z)
    (hs : ∀ ρ vs, LV ρ l vs → LV ρ r ((vs.drop o).take n) ∧ o + n ≤ vs.length) : ∃ vs, LV ρ r vs ∧ vs.length = n ∧ (loadCells ⟨a, o, none⟩ n).run P w = .ok vs.toArray w := by
  obtain ⟨l', hl', vs, zs, T, f, h11, h12, _⟩ := hm.row (c := fun r => r = l) hb hr (by rcases hl with rfl | ⟨z, rfl⟩ <;> rfl)
  subst hl'
  obtain ⟨h1, h2⟩ := hs ρ vs h12
  refine ⟨_, h1, by simp; omega, ?_⟩
  have := run_loadRow (P := P) (o := o) (k := n) h11 (by simp; omega)
  rw [this, List.drop_append_of_le_length (by omega), List.take_append_of_le_length (by simp; omega)]
theorem q_txt {s t el : TypeId} {X : Operand} {x : LX} (hs : P.underlying s = some (.slice el)) (hel : P.underlying el = some (.int .u8)) (ht : P.underlying t = some .string) (hx : lowX X = some x) (h : qTxt x fr m c) : ∃ v, c v ∧ QOk P fr m (.convert s t X) v := by
  obtain ⟨v, h1, h2⟩ := evK_ok hx h
  cases v <;> first | exact h1.elim | skip
  · rename_i b o n q
    obtain ⟨ob, h3, h4⟩ := getK_ok _ _ _ h1
    obtain ⟨l, h5, h6⟩ := onRow_ok h4
    obtain ⟨r, h7, h8⟩ := rangeK_ok h5
    obtain ⟨l', h9, h10, h11⟩ := bytK_ok r _ h7
    refine ⟨_, h9, fun ρ n' w e d ty pos af gd hm he => ?_⟩
    obtain ⟨a, k, q', e1, e2⟩ := slice_is (h2 ρ e he)
    obtain ⟨vs, e3, e4, e5⟩ := row_range hm h3 e1 h6 h8
    have e6 := h11 ρ vs e3
    refine ⟨.string (bts l'), by simp only [VR, true_and]; exact h10, run_v ?_⟩
    rw [e2, run_convert_bytes_string w s t el _ n q' hs hel ht]
    have := run_bytesToString (P := P) w ⟨a, o, none⟩ n q' (l'.map Int.ofNat) (by rw [e5, e6])
    rw [this, fold_bytes]
    simp
  · refine ⟨_, h1, fun ρ n' w e d ty pos af gd hm he => ?_⟩
    have e1 := h2 ρ e he
    simp only [VR] at e1
    refine ⟨.string (bts []), by simp only [VR, true_and]; exact fun b hb => by simp at hb, run_v ?_⟩
    rw [e1, run_convert_bytes_string w s t el _ 0 0 hs hel ht]
    rfl
theorem esLen_ok : ∀ (es : ES) (n : Nat) (c : Nat → Prop), ES.lenK es n c → ∃ k, c (n + k) ∧ ∀ ρ E, ESR ρ es E → E.length = k
  | .nil, n, c, h => ⟨0, h, fun ρ E e => by simp only [ESR] at e; subst e; rfl⟩
  | .cons k v b r, n, c, h => by
    obtain ⟨j, h1, h2⟩ := esLen_ok r (n + 1) c (natK_ok (c := fun n => ES.lenK r n c) h)
    refine ⟨j + 1, by rw [show n + (j + 1) = n + 1 + j by omega]; exact h1, fun ρ E e => ?_⟩
    obtain ⟨e0, E', _, _, _, e4, rfl⟩ := e
    simp [h2 ρ E' e4]
theorem q_lenm {t kt et : TypeId} {X : Operand} {x : LX} (ht : P.underlying t = some (.map kt et)) (hx : lowX X = some x) (h : qLenm x fr m c) : ∃ v, c v ∧ QOk P fr m (.call ⟨.builtin .len, #[X], #[t]⟩) v := by
  obtain ⟨v, h1, h2⟩ := evK_ok hx h
  cases v <;> first | exact h1.elim | skip
  · rename_i b
    obtain ⟨ob, h3, h4⟩ := getK_ok _ _ _ h1
    obtain ⟨es, clk, rfl, h5⟩ := onMp_ok h4
    obtain ⟨k, h6, h7⟩ := esLen_ok es 0 _ h5
    refine ⟨_, h6, fun ρ n' w e d ty pos af gd hm he => ⟨_, by simp only [VR]; rfl, ?_⟩⟩
    have e1 := h2 ρ e he
    simp only [VR] at e1
    obtain ⟨a, k', e3, e4⟩ := e1
    obtain ⟨ob, e5, E, rfl, e6⟩ := hm.at h3 e3
    have e7 := h7 ρ E e6
    have e8 := MapKept.run_getObj_map (P := P) e5
    simp [execOp, resolve, invoke, builtin, Builtin.len_, run_underlying ht, e4, goInt, e8, e7]
  · refine ⟨_, h1, fun ρ n' w e d ty pos af gd hm he => ⟨_, by simp only [VR]; rfl, ?_⟩⟩
    have e1 := h2 ρ e he
    simp only [VR] at e1
    simp [execOp, resolve, invoke, builtin, Builtin.len_, run_underlying ht, e1, goInt]
theorem lastK_ok : ∀ (l : List Nat) (c : Nat → Prop), lastK l c → ∃ a, c a ∧ l.toArray.back? = some a
  | [], _, h => h.elim
  | [a], c, h => ⟨a, h, rfl⟩
  | a :: b :: r, c, h => by
    obtain ⟨x, h1, h2⟩ := lastK_ok (b :: r) c h
    refine ⟨x, h1, ?_⟩
    simp [Array.back?] at h2 ⊢
    exact h2
theorem esAt_ok : ∀ (es : ES) (s : Nat) (c : SV → SV → Prop), ES.atK es s c → ∃ k v, c k v ∧ ∀ ρ E, ESR ρ es E → ∃ e, E.find? (·.born == s) = some e ∧ VR ρ k e.key ∧ VR ρ v e.val
  | .nil, _, _, h => h.elim
  | .cons k v b r, s, c, h => by
    rcases bK_ok h with ⟨h1, h2⟩ | ⟨h1, h2⟩
    · refine ⟨k, v, h2, fun ρ E e => ?_⟩
      obtain ⟨e0, E', e1, e2, e3, e4, rfl⟩ := e
      exact ⟨e0, by simp [e3, Nat.eq_of_beq_eq_true h1], e1, e2⟩
    · obtain ⟨k', v', h3, h4⟩ := esAt_ok r s c h2
      refine ⟨k', v', h3, fun ρ E e => ?_⟩
      obtain ⟨e0, E', e1, e2, e3, e4, rfl⟩ := e
      obtain ⟨en, e5, e6, e7⟩ := h4 ρ E' e4
      exact ⟨en, by simp [e3, beq_not.1 h1, e5], e6, e7⟩
theorem q_ent {X : Operand} {x : LX} (hx : lowX X = some x) (h : qEnt x fr m c) : ∃ v, c v ∧ QOk P fr m (.entry X) v := by
  obtain ⟨v, h1, h2⟩ := evK_ok hx h
  obtain ⟨b, o, rfl, h3⟩ := onPtr_ok h1
  obtain ⟨h4, h5⟩ := bK_t h3
  have h4 := Nat.eq_of_beq_eq_true h4
  subst h4
  obtain ⟨ob, h6, h7⟩ := getK_ok _ _ _ h5
  obtain ⟨p, a0, seen, last, rfl, h8⟩ := onMit_ok h7
  obtain ⟨s, h9, h10⟩ := lastK_ok _ _ h8
  obtain ⟨ob', h11, h12⟩ := getK_ok _ _ _ h9
  obtain ⟨es, clk, rfl, h13⟩ := onMp_ok h12
  obtain ⟨h14, h15⟩ := bK_t h13
  have h14 := Nat.eq_of_beq_eq_true h14
  subst h14
  obtain ⟨k, v, h16, h17⟩ := esAt_ok es s _ h15
  refine ⟨_, h16, fun ρ n' w e d ty pos af gd hm he => ?_⟩
  have e1 := h2 ρ e he
  simp only [VR] at e1
  obtain ⟨a, k', e3, e4⟩ := e1
  obtain ⟨ob, e5, a2, k2, e6, rfl⟩ := hm.at h6 e3
  obtain ⟨ob, e7, E, rfl, e8⟩ := hm.at h11 e6
  obtain ⟨en, e9, e10, e11⟩ := h17 ρ E e8
  refine ⟨.tuple #[en.key, en.val], ?_, run_v ?_⟩
  · simp only [VR]
    exact ⟨[en.key, en.val], LV_cons.2 ⟨_, _, e10, LV_cons.2 ⟨_, _, e11, LV_nil.2 rfl, rfl⟩, rfl⟩, rfl⟩
  · have g1 : (getObj a).run P w = .ok (.mapIter (some a2) a0 seen.toArray clk) w := by simp [getObj, Sem.run, e5]
    have g2 := MapKept.run_getObj_map (P := P) e7
    simp [Instr.entry, e4, g1, g2, h10, e9]
end
end Go.Ev
end
section
set_option linter.all false
set_option linter.unusedVariables false
set_option linter.unusedSimpArgs false
namespace Go.Ev
open Go
section
variable {P : Program} {fr : Fm} {m : Mem} {c : SV → Prop}

theorem map_some {α β : Type} {f : α → β} {o : Option α} {b : β} (h : o.map f = some b) : ∃ a, o = some a ∧ f a = b := by
  cases o with
  | none => cases h
  | some a => injection h with h; exact ⟨a, rfl, h⟩
theorem len_arr {t e : TypeId} {n : Nat} (h : P.underlying t = some (.array n e)) (w : World) (ty : TypeId) (x : Value) : (Builtin.len_ #[t] ty #[x]).run P w = .ok (.int .i64 n) w := by
  simp [Builtin.len_, run_underlying h, goInt]
theorem len_ptr {t e e' : TypeId} {n : Nat} (h : P.underlying t = some (.pointer e)) (h' : P.underlying e = some (.array n e')) (w : World) (ty : TypeId) (x : Value) : (Builtin.len_ #[t] ty #[x]).run P w = .ok (.int .i64 n) w := by
  simp [Builtin.len_, run_underlying h, run_underlying h', goInt]
theorem q_call {cl : Call} {lo : LO} (hl : lowCall P cl = some lo) (hk : kd lo = .q) (h : qK lo fr m c) : ∃ v, c v ∧ QOk P fr m (.call cl) v := by
  obtain ⟨callee, args, argTypes⟩ := cl
  unfold lowCall at hl
  dsimp only at hl
  split at hl
  · split at hl
    · injection hl with hl; subst hl; cases hk
    · cases hl
  · cases hl
  · rename_i b
    obtain ⟨args⟩ := args
    obtain ⟨tys⟩ := argTypes
    dsimp only at hl
    split at hl
    · rename_i x t
      cases hx : lowX x with
      | none => rw [hx] at hl; cases hl
      | some a =>
        rw [hx] at hl
        simp only [Option.bind_some, lowLen] at hl
        split at hl
        · rename_i hu; injection hl with hl; subst hl; exact q_lent hu hx h
        · rename_i e hu; injection hl with hl; subst hl; exact q_lens hu hx h
        · rename_i k e hu; injection hl with hl; subst hl; exact q_lenm hu hx h
        · rename_i n e hu; injection hl with hl; subst hl; exact q_lenc (len_arr hu) h
        · rename_i e hu
          split at hl
          · rename_i n e' hu'; injection hl with hl; subst hl; exact q_lenc (len_ptr hu hu') h
          · cases hl
        · cases hl
    · rename_i x t
      split at hl
      · rename_i e hu
        obtain ⟨a, hx, rfl⟩ := map_some hl
        exact q_capv hu hx h
      · cases hl
    · rename_i x y ts
      split at hl
      · rename_i a b hx hy
        injection hl with hl; subst hl
        exact q_mm (mx := true) hx hy h
      · cases hl
    · rename_i x y ts
      split at hl
      · rename_i a b hx hy
        injection hl with hl; subst hl
        exact q_mm (mx := false) hx hy h
      · cases hl
    · rename_i x y t u
      split at hl
      · unfold lowApp at hl
        split at hl
        · split at hl
          · split at hl
            · cases hl
            · obtain ⟨a, _, rfl⟩ := map_some hl; cases hk
          · split at hl
            · cases hl
            · injection hl with hl; subst hl; cases hk
          · cases hl
        · cases hl
      · cases hl
    · split at hl
      · injection hl with hl; subst hl; cases hk
      · cases hl
    · split at hl
      · injection hl with hl; subst hl; cases hk
      · cases hl
    · split at hl
      · obtain ⟨a, _, rfl⟩ := map_some hl; cases hk
      · cases hl
    · injection hl with hl; subst hl; cases hk
    · cases hl
theorem q_all {op : Op} {lo : LO} (hl : lowO P op = some lo) (hk : kd lo = .q) (h : qK lo fr m c) : ∃ v, c v ∧ QOk P fr m op v := by
  cases op
  case move x => obtain ⟨a, hx, rfl⟩ := map_some hl; obtain ⟨v, h1, h2, _⟩ := q_mv hx h; exact ⟨v, h1, h2⟩
  case assign x => obtain ⟨a, hx, rfl⟩ := map_some hl; obtain ⟨v, h1, _, h2⟩ := q_mv hx h; exact ⟨v, h1, h2⟩
  case pick a b d =>
    simp only [lowO] at hl
    split at hl
    · rename_i ha hb hd; injection hl with hl; subst hl; exact q_pick ha hb hd h
    · cases hl
  case alloc t => obtain ⟨a, hx, rfl⟩ := map_some hl; cases hk
  case box t x => obtain ⟨a, hx, rfl⟩ := map_some hl; cases hk
  case build t ps =>
    simp only [lowO] at hl
    split at hl
    · rename_i fs z hu hz
      split at hl
      · rename_i pl hpl
        obtain ⟨a, hx, rfl⟩ := map_some hl
        exact q_buildS hu hz hpl hx h
      · cases hl
    · rename_i n e z hu hz
      split at hl
      · rename_i k hk'
        obtain ⟨a, hx, rfl⟩ := map_some hl
        exact q_buildA hu hz hk' hx h
      · cases hl
    · cases hl
  case buildSlice t n ps =>
    simp only [lowO] at hl
    split at hl
    · split at hl
      · split at hl
        · cases hl
        · obtain ⟨a, hx, rfl⟩ := map_some hl; cases hk
      · cases hl
    · cases hl
  case insert t x k y =>
    simp only [lowO] at hl
    split at hl
    · obtain ⟨a, hx, rfl⟩ := map_some hl; cases hk
    · cases hl
  case load t x =>
    simp only [lowO] at hl
    split at hl
    · rename_i r a hr ha; injection hl with hl; subst hl; exact q_load hr ha h
    · cases hl
  case store t x y =>
    simp only [lowO] at hl
    split at hl
    · injection hl with hl; subst hl; cases hk
    · cases hl
  case nilCheck x => obtain ⟨a, hx, rfl⟩ := map_some hl; exact q_chk hx h
  case binOp f t x y u =>
    simp only [lowO] at hl
    split at hl
    · rename_i a b ha hb
      unfold lowBin at hl
      split at hl
      · injection hl with hl; subst hl; exact q_bin ha hb h
      · injection hl with hl; subst hl; exact q_bin ha hb h
      · split at hl
        · obtain ⟨q, hq, rfl⟩ := map_some hl; exact q_eq (neg := false) hq ha hb h
        · obtain ⟨q, hq, rfl⟩ := map_some hl; exact q_eq (neg := true) hq ha hb h
        · cases hl
    · cases hl
  case unOp f t x => obtain ⟨a, hx, rfl⟩ := map_some hl; exact q_un hx h
  case convert s t x =>
    simp only [lowO] at hl
    cases hx : lowX x with
    | none => rw [hx] at hl; cases hl
    | some a =>
      rw [hx] at hl
      simp only [Option.bind_some, lowConv] at hl
      split at hl
      · rename_i k k' hs ht; injection hl with hl; subst hl; exact q_conv hs ht hx h
      · rename_i hs ht; injection hl with hl; subst hl; exact q_sid hs ht hx h
      · split at hl
        · split at hl
          · injection hl with hl; subst hl; cases hk
          · cases hl
        · cases hl
      · rename_i e hs ht
        split at hl
        · rename_i he; injection hl with hl; subst hl; exact q_txt hs he ht hx h
        · cases hl
      · cases hl
  case sliceToArrayPointer t x =>
    simp only [lowO] at hl
    split at hl
    · rename_i n e a hu ha; injection hl with hl; subst hl; exact q_arr hu ha h
    · cases hl
  case makeInterface t x =>
    simp only [lowO] at hl
    split at hl
    · cases hl
    · rename_i d hd hu
      obtain ⟨a, hx, rfl⟩ := map_some hl
      exact q_ifc hu (fun ms e => hd ms e) hx h
    · cases hl
  case makeFunc fn l q =>
    cases fn <;> simp only [lowO] at hl <;> first | (cases hl; done) | skip
    split at hl
    · rename_i a b ha hb; injection hl with hl; subst hl; exact q_fun ha hb h
    · cases hl
  case makeMap t r =>
    cases r <;> simp only [lowO] at hl
    · injection hl with hl; subst hl; cases hk
    · cases hl
  case makeChan t x => cases hl
  case makeSlice t x y =>
    simp only [lowO] at hl
    split at hl
    · split at hl
      · split at hl
        · cases hl
        · injection hl with hl; subst hl; cases hk
      · cases hl
    · cases hl
  case slice t x lo' hi mx =>
    simp only [lowO] at hl
    split at hl
    · cases hl
    · rename_i hs
      have hs : (mx.isSome && hi.isNone) = false := by cases mx <;> cases hi <;> simp_all
      split at hl
      · rename_i a l h' m' ha h1 h2 h3 hu; injection hl with hl; subst hl; exact q_slcT hu ha h1 h2 h3 h
      · rename_i a l h' m' e ha h1 h2 h3 hu; obtain ⟨z, hz, rfl⟩ := map_some hl; exact q_slcS hs hu hz ha h1 h2 h3 h
      · rename_i a l h' m' n e ha h1 h2 h3 hu; obtain ⟨z, hz, rfl⟩ := map_some hl; exact q_slcA hs hu hz ha h1 h2 h3 h
      · cases hl
  case fieldAddr s x i =>
    simp only [lowO] at hl
    split at hl
    · rename_i f a hf ha
      split at hl
      · rename_i k hk'; injection hl with hl; subst hl; exact q_fa hf hk' ha h
      · cases hl
    · cases hl
  case field s x i =>
    simp only [lowO] at hl
    split at hl
    · rename_i f a hf ha
      obtain ⟨r, hr, rfl⟩ := map_some hl
      exact q_fld hf hr ha h
    · cases hl
  case indexAddr t x i =>
    simp only [lowO] at hl
    split at hl
    · rename_i e a b hu ha hb; obtain ⟨z, hz, rfl⟩ := map_some hl; exact q_iaS hu hz ha hb h
    · rename_i n e a b hu ha hb; obtain ⟨z, hz, rfl⟩ := map_some hl; exact q_iaA hu hz ha hb h
    · cases hl
  case index t x i =>
    simp only [lowO] at hl
    split at hl
    · rename_i a b hu ha hb; injection hl with hl; subst hl; exact q_ixs hu ha hb h
    · rename_i n e a b hu ha hb
      split at hl
      · rename_i z r hz hr; injection hl with hl; subst hl; exact q_ix hu hz hr ha hb h
      · cases hl
    · cases hl
  case lookup t x k ok =>
    simp only [lowO] at hl
    split at hl
    · rename_i z a b hz ha hb
      obtain ⟨q, hq, rfl⟩ := map_some hl
      exact q_lkp hq hz ha hb h
    · cases hl
  case mapUpdate t x k y =>
    simp only [lowO] at hl
    split at hl
    · obtain ⟨a, hx, rfl⟩ := map_some hl; cases hk
    · cases hl
  case mapEntry t x k =>
    simp only [lowO] at hl
    split at hl
    · obtain ⟨a, hx, rfl⟩ := map_some hl; cases hk
    · cases hl
  case entryStore t x s y =>
    simp only [lowO] at hl
    split at hl
    · injection hl with hl; subst hl; cases hk
    · cases hl
  case range t x =>
    simp only [lowO] at hl
    split at hl
    · obtain ⟨a, hx, rfl⟩ := map_some hl; cases hk
    · obtain ⟨a, hx, rfl⟩ := map_some hl; cases hk
    · cases hl
  case next x s => obtain ⟨a, hx, rfl⟩ := map_some hl; cases hk
  case entry x => obtain ⟨a, hx, rfl⟩ := map_some hl; exact q_ent hx h
  case extract x i => obtain ⟨a, hx, rfl⟩ := map_some hl; exact q_ext hx h
  case call cl => exact q_call hl hk h
  case defer cl =>
    simp only [lowO] at hl
    split at hl
    · split at hl
      · injection hl with hl; subst hl; cases hk
      · cases hl
    · cases hl
  all_goals cases hl
end
end Go.Ev
end
section
set_option linter.all false
set_option linter.unusedVariables false
set_option linter.unusedSimpArgs false
namespace Go.Ev
open Go
section
variable {P : Program} {fr : Fm} {n : Pos} {c : SO → SV → Prop}

/-- An operation makes the block ob under the next name, and yields v. -/
def AOk (P : Program) (fr : Fm) (op : Op) (n : Pos) (ob : SO) (v : SV) : Prop :=
  ∀ ρ w e d ty pos af gd, EvR ρ fr e → ∃ (k : Nat) (real : Obj) (x : Value) (dr : Nat), w.drawn ≤ dr ∧ (∀ ρ', Ext ρ ρ' → ρ' n = some (w.heap.size, k) → VR ρ' v x ∧ OR P ρ' k ob real) ∧
    (execOp e ⟨d, op, ty, pos, af, gd⟩).run P w = .ok (.value x) { w with heap := w.heap.push real, drawn := dr }
theorem thaw0 (n : Nat) : Thaw n (0, 0) := fun i _ h => by omega
theorem run_newRow {t : TypeId} {cs : Array Value} {w : World} : (newRow t cs).run P w = .ok ⟨w.heap.size, 0, none⟩ { w with heap := w.heap.push (.cells cs t) } := by
  simp [newRow, newObj, Sem.run]
theorem or_cells {ρ : Env} {l : SV} {vs : List Value} {k : Nat} {T : TypeId} (h : LV ρ l vs) : OR P ρ k (.cells l) (.cells vs.toArray T) := ⟨vs, T, (0, 0), rfl, h, thaw0 _⟩
theorem a_alloc {t : TypeId} {z : SV} (hz : zcT P t = some z) (h : aAlloc z fr n c) : ∃ ob v, c ob v ∧ AOk P fr (.alloc t) n ob v := by
  obtain ⟨zv, h1, h2⟩ := zcT_run hz
  refine ⟨_, _, h, fun ρ w e d ty pos af gd he => ⟨0, .cells zv.cells t, .pointer (some ⟨w.heap.size, 0, none⟩), w.drawn, Nat.le_refl _, fun ρ' _ hn => ⟨by simp only [VR]; exact ⟨_, _, hn, rfl⟩, ?_⟩, run_v ?_⟩⟩
  · have := or_cells (P := P) (k := 0) (T := t) (h2 ρ')
    simpa using this
  · simp [Instr.alloc, h1 w, newVar, run_newRow]
theorem a_box {t : TypeId} {X : Operand} {x : LX} (hx : lowX X = some x) (h : aBox x fr n c) : ∃ ob v, c ob v ∧ AOk P fr (.box t X) n ob v := by
  obtain ⟨v, h1, h2⟩ := evK_ok hx h
  obtain ⟨l, h3, h4⟩ := cellsK_ok h1
  refine ⟨_, _, h3, fun ρ w e d ty pos af gd he => ⟨0, .cells (e X).cells t, .pointer (some ⟨w.heap.size, 0, none⟩), w.drawn, Nat.le_refl _, fun ρ' hx' hn => ⟨by simp only [VR]; exact ⟨_, _, hn, rfl⟩, ?_⟩, run_v ?_⟩⟩
  · have := or_cells (P := P) (k := 0) (T := t) (LV.mono hx' _ _ (h4 ρ _ (h2 ρ e he)))
    simpa using this
  · simp [Instr.box, newVar, run_newRow]
theorem a_mkm {t : TypeId} (h : aMkm fr n c) : ∃ ob v, c ob v ∧ AOk P fr (.makeMap t none) n ob v := by
  refine ⟨_, _, h, fun ρ w e d ty pos af gd he => ⟨0, .map #[] 0, .map (some w.heap.size), w.drawn, Nat.le_refl _, fun ρ' hx' hn => ⟨by simp only [VR]; exact ⟨_, _, hn, rfl⟩, ⟨[], rfl, rfl⟩⟩, run_v ?_⟩⟩
  simp [Instr.makeMap, newObj, Sem.run]
theorem rep_app : ∀ (z x : SV) (ρ : Env) (zs xs : List Value), LV ρ z zs → LV ρ x xs → LV ρ (rep.app z x) (zs ++ xs)
  | .nil, x, ρ, zs, xs, h1, h2 => by rw [LV_nil] at h1; subst h1; simpa [rep.app] using h2
  | .cons a t, x, ρ, zs, xs, h1, h2 => by
    obtain ⟨y, r, e1, e2, rfl⟩ := LV_cons.1 h1
    simp only [rep.app]
    exact LV_cons.2 ⟨y, _, e1, rep_app t x ρ r xs e2 h2, rfl⟩
  | .bool _, _, _, _, _, h, _ => by simp only [LV] at h
  | .int _ _, _, _, _, _, h, _ => by simp only [LV] at h
  | .str _, _, _, _, _, h, _ => by simp only [LV] at h
  | .ptr _ _, _, _, _, _, h, _ => by simp only [LV] at h
  | .nilp, _, _, _, _, h, _ => by simp only [LV] at h
  | .slice _ _ _ _, _, _, _, _, h, _ => by simp only [LV] at h
  | .emp _ _, _, _, _, _, h, _ => by simp only [LV] at h
  | .nils, _, _, _, _, h, _ => by simp only [LV] at h
  | .map _, _, _, _, _, h, _ => by simp only [LV] at h
  | .nilm, _, _, _, _, h, _ => by simp only [LV] at h
  | .func _ _ _, _, _, _, _, h, _ => by simp only [LV] at h
  | .yld _, _, _, _, _, h, _ => by simp only [LV] at h
  | .nilf, _, _, _, _, h, _ => by simp only [LV] at h
  | .iface _ _, _, _, _, _, h, _ => by simp only [LV] at h
  | .nili, _, _, _, _, h, _ => by simp only [LV] at h
  | .agg _, _, _, _, _, h, _ => by simp only [LV] at h
  | .tup _, _, _, _, _, h, _ => by simp only [LV] at h
theorem rep_ok {z : SV} {ρ : Env} {zs : List Value} (h : LV ρ z zs) : ∀ n, LV ρ (rep n z) (List.replicate n zs).flatten
  | 0 => by simp [rep, LV_nil]
  | n + 1 => by rw [List.replicate_succ, List.flatten_cons]; exact rep_app z _ ρ zs _ h (rep_ok h n)
theorem flat_get (zs : List Value) : ∀ (n i : Nat), (List.replicate n zs).flatten[i]? = if i < n * zs.length then zs[i % zs.length]? else none
  | 0, i => by simp
  | n + 1, i => by
    rw [List.replicate_succ, List.flatten_cons]
    by_cases h : i < zs.length
    · rw [List.getElem?_append_left h, Nat.mod_eq_of_lt h, if_pos (by rw [Nat.succ_mul]; omega)]
    · rw [List.getElem?_append_right (by omega), flat_get zs n]
      have h1 : (i - zs.length) % zs.length = i % zs.length := by rw [← Nat.mod_eq_sub_mod (by omega)]
      rw [h1]
      by_cases h2 : i - zs.length < n * zs.length
      · rw [if_pos h2, if_pos (by rw [Nat.succ_mul]; omega)]
      · rw [if_neg h2, if_neg (by rw [Nat.succ_mul]; omega)]
/-- So many zero values in a row. -/
theorem zeros_eq (z : Array Value) (n : Nat) : (Array.range (n * z.size)).map (fun i => z[i % z.size]!) = (List.replicate n z.toList).flatten.toArray := by
  apply Array.ext'
  apply List.ext_getElem?
  intro i
  rw [List.toList_toArray, flat_get]
  simp only [Array.toList_map, Array.toList_range, List.getElem?_map, Array.length_toList]
  by_cases h : i < n * z.size
  · rw [List.getElem?_range h, if_pos h]
    have hz : 0 < z.size := Nat.pos_of_ne_zero fun e => by rw [e] at h; simp at h
    have h1 : i % z.size < z.size := Nat.mod_lt _ hz
    simp [h1]
  · rw [if_neg h, List.getElem?_eq_none (by simp; omega)]
    rfl
theorem elT_u {t e : TypeId} (h : elT P t = some e) : P.underlying t = some (.slice e) := by
  unfold elT at h
  split at h
  · rename_i e' hu; injection h with h; subst h; exact hu
  · cases h
theorem a_bsl {t el : TypeId} {k len : Nat} {z : SV} {ps : Array (Nat × Operand)} {l : LPs} (ht : P.underlying t = some (.slice el)) (hk : szT P el = some k) (hz : zcT P el = some z) (hb : ¬ len * k > 2 ^ 24)
    (hp : lowPs (fun i => some (i * k, k)) ps.toList = some l) (h : aBsl len (rep len z) l fr n c) : ∃ ob v, c ob v ∧ AOk P fr (.buildSlice t len ps) n ob v := by
  obtain ⟨r, h1, h2⟩ := fillK_ok ps.toList l _ fr _ hp h
  refine ⟨_, _, h1, fun ρ w e d ty pos af gd he => ?_⟩
  obtain ⟨i, v, h3, h4, h5, h6⟩ := zcT_info hz
  have hik : i.size = k := by unfold szT at hk; rw [h3] at hk; injection hk
  obtain ⟨ys, h7, h8⟩ := h2 ρ e _ he (rep_ok (h6 ρ) len)
  refine ⟨0, .cells ys.toArray el, .slice (some ⟨w.heap.size, 0, none⟩) len len, w.drawn, Nat.le_refl _, fun ρ' hx' hn => ⟨by simp only [VR]; exact ⟨_, _, hn, rfl⟩, or_cells (LV.mono hx' _ _ h8)⟩, run_v ?_⟩
  have h9 : (ps.map fun x => match x with | (i, x) => (i, e x)).toList = ps.toList.map fun p => (p.1, e p.2) := by simp
  have hzv : (zeroValue el).run P w = .ok v w := by simp [zeroValue, typeInfo, h3, h4]
  have h10 := zeros_eq v.cells len
  rw [h5, hik] at h10
  simp only [Instr.buildSlice, Sem.run_bind, run_underlying ht, szT_run hk w, Result.andThen_ok, if_neg hb, Sem.run_pure]
  by_cases h0 : len * k = 0
  · have h11 : (List.replicate len v.cells.toList).flatten = [] := by
      have := congrArg Array.size h10
      rw [h0] at this
      exact List.eq_nil_of_length_eq_zero (by simpa using this.symm)
    rw [h11] at h7
    have h7 : Instr.fill (fun i => some (i * k, k)) #[] (ps.toList.map fun p => (p.1, e p.2)) = some ys.toArray := h7
    have h12 : ∀ z : Array Value, ((Array.range 0).map fun x => z[x % z.size]!) = #[] := by simp
    simp only [h0, if_true, h9, h12, h7]
    simp [run_newRow]
  · simp only [h0, if_false, Sem.run_bind, hzv, Result.andThen_ok, Sem.run_pure, h9]
    have h12 : ((Array.range (len * k)).map fun x => v.cells[x % v.cells.size]!) = (List.replicate len v.cells.toList).flatten.toArray := by rw [h5, hik]; exact h10
    rw [h12, h7]
    simp [run_newRow]
theorem a_mks {t el : TypeId} {z b : Nat} {zc : SV} {X Y : Operand} {x y : LX} (ht : P.underlying t = some (.slice el)) (hk : szT P el = some z) (hb : byT P el = some b) (hz : zcT P el = some zc) (hb0 : b ≠ 0) (hx : lowX X = some x) (hy : lowX Y = some y)
    (h : aMks z b zc x y fr n c) : ∃ ob v, c ob v ∧ AOk P fr (.makeSlice t X Y) n ob v := by
  obtain ⟨u, h1, h2⟩ := evK_ok hx h
  obtain ⟨v, h3, h4⟩ := evK_ok hy h1
  obtain ⟨q1, k1, rfl, h5⟩ := idxK_ok h3
  obtain ⟨q2, k2, rfl, h6⟩ := idxK_ok h5
  obtain ⟨h7, h8⟩ := bK_t h6
  obtain ⟨h9, h10⟩ := bK_t h8
  obtain ⟨r, h11, h12⟩ := repK_ok _ _ _ h10
  have h7 := Nat.le_of_ble_eq_true h7
  have h9 := Nat.le_of_ble_eq_true h9
  refine ⟨_, _, h11, fun ρ w e d ty pos af gd he => ?_⟩
  have e1 := h2 ρ e he
  have e2 := h4 ρ e he
  simp only [VR] at e1 e2
  obtain ⟨i, zv, g3, g4, g5, g6⟩ := zcT_info hz
  have hik : i.size = z := by unfold szT at hk; rw [g3] at hk; injection hk
  have hib : i.bytes = b := by unfold byT at hb; rw [g3] at hb; injection hb
  have hzv : (zeroValue el).run P w = .ok zv w := by simp [zeroValue, typeInfo, g3, g4]
  have hq : b * k2 ≤ 281474976710656 := h9
  have hq2 : k2 ≤ 281474976710656 := Nat.le_trans (Nat.le_mul_of_pos_left _ (Nat.pos_of_ne_zero hb0)) hq
  have w1 : IntKind.i64.wrap (k1 : Int) = k1 := wrap_hi (by simp only [hiN]; omega)
  have w2 : IntKind.i64.wrap (k2 : Int) = k2 := wrap_hi (by simp only [hiN]; omega)
  have hc : ¬ ((b : Int) * k2 > 281474976710656) := by
    have : ((b * k2 : Nat) : Int) ≤ (281474976710656 : Nat) := Int.ofNat_le.2 hq
    rw [Int.natCast_mul] at this
    omega
  have h10 := zeros_eq zv.cells k2
  rw [g5, hik] at h10
  refine ⟨0, .cells ((List.replicate k2 zv.cells.toList).flatten.toArray) el, .slice (some ⟨w.heap.size, 0, none⟩) k1 k2, w.drawn, Nat.le_refl _, fun ρ' hx' hn => ⟨by simp only [VR]; exact ⟨_, _, hn, rfl⟩, or_cells (h12 ρ' _ (g6 ρ'))⟩, run_v ?_⟩
  have e1' : asInt (e X) = pure (k1 : Int) := by rw [e1]; rfl
  have e2' : asInt (e Y) = pure (k2 : Int) := by rw [e2]; rfl
  have hti : (typeInfo el).run P w = .ok i w := by simp [typeInfo, g3]
  have n1 : ¬ ((k2 : Int) < 0) := by omega
  have n2 : ¬ ((k1 : Int) < 0) := by omega
  have n3 : ¬ ((k1 : Int) > k2) := by omega
  have hc' : ¬ (i.bytes * (k2 : Int) > 2 ^ 48) := by rw [hib]; exact hc
  have hpow : (2 : Int) ^ 48 = 281474976710656 := by decide
  have htl : (decide ((k2 : Int) < 0) || decide ((i.bytes : Int) * k2 > 2 ^ 48)) = false := by simp only [decide_eq_false n1, Bool.false_or]; exact decide_eq_false hc'
  have hcond : ((decide ((k2 : Int) < 0) || decide ((i.bytes : Int) * k2 > 2 ^ 48)) = true ∨ (k1 : Int) < 0) ∨ (k1 : Int) > k2 ↔ False := by
    rw [htl]; simp only [Bool.false_eq_true, false_or, n2, n3, or_self]
  simp only [Instr.makeSlice, Sem.run_bind, run_underlying ht, Result.andThen_ok, e1', e2', Sem.run_pure, hti, w1, w2]
  simp only [htl, Bool.false_or, Bool.or_eq_true, decide_eq_true_eq, n2, n3, or_self, if_false, Bool.false_eq_true, decide_false, Sem.run_ite, Sem.run_pure, Result.andThen_ok, Result.andThen_ite, run_askRoom, Int.toNat_natCast, szT_run hk w, Sem.run_bind, hzv, run_newRow]
  by_cases h0 : k2 * z = 0
  · have h11 : (List.replicate k2 zv.cells.toList).flatten = [] := by
      have := congrArg Array.size h10
      rw [h0] at this
      exact List.eq_nil_of_length_eq_zero (by simpa using this.symm)
    have h13 : ∀ z : Array Value, ((Array.range 0).map fun x => z[x % z.size]!) = #[] := by simp
    simp only [h0, if_true, Sem.run_pure, Result.andThen_ok, h11, h13, run_newRow]
  · have h12 : ((Array.range (k2 * z)).map fun x => zv.cells[x % zv.cells.size]!) = (List.replicate k2 zv.cells.toList).flatten.toArray := by rw [g5, hik]; exact h10
    simp only [h0, if_false, Sem.run_bind, hzv, Result.andThen_ok, Sem.run_pure, run_newRow, h12]
theorem intsK_ok : ∀ (l : List Nat) (c : SV → Prop), intsK l c → ∃ r, c r ∧ (Byt l → ∀ ρ, LV ρ r (l.map fun (n : Nat) => Value.int .u8 n))
  | [], c, h => ⟨_, h, fun _ ρ => LV_nil.2 rfl⟩
  | a :: l, c, h => by
    have h1 := natK_ok (c := fun a => intsK l fun r => c (.cons (.int .u8 (.ofNat a)) r)) h
    obtain ⟨r, h2, h3⟩ := intsK_ok l _ h1
    refine ⟨_, h2, fun hb ρ => LV_cons.2 ⟨_, _, ?_, h3 (fun b hb' => hb b (by simp [hb'])) ρ, rfl⟩⟩
    have : Nat.mod a 256 = a := Nat.mod_eq_of_lt (hb a (by simp))
    simp only [VR, this]; rfl
theorem bts_ints (l : List Nat) (hb : Byt l) : ((bts l).data.map fun b => Value.int .u8 b.toNat) = (l.map fun (n : Nat) => Value.int .u8 n).toArray := by
  simp only [bts, List.map_toArray, List.map_map]
  congr 1
  apply List.map_congr_left
  intro a ha
  have := hb a ha
  simp [Nat.mod_eq_of_lt this]
theorem modify_push (a : Array Obj) (x : Obj) (f : Obj → Obj) : (a.push x).modify a.size f = a.push (f x) := by
  apply Array.ext_getElem?
  intro i
  rw [Array.getElem?_modify]
  by_cases h : a.size = i
  · subst h; simp
  · rw [if_neg h]; simp only [Array.getElem?_push, if_neg (Ne.symm h)]
theorem a_byts {s t el : TypeId} {X : Operand} {x : LX} (hs : P.underlying s = some .string) (ht : P.underlying t = some (.slice el)) (hu : P.underlying el = some (.int .u8)) (hx : lowX X = some x)
    (h : aByts x fr n c) : ∃ ob v, c ob v ∧ AOk P fr (.convert s t X) n ob v := by
  obtain ⟨v, h1, h2⟩ := evK_ok hx h
  obtain ⟨l, rfl, h3⟩ := onStr_ok h1
  obtain ⟨r, h4, h5⟩ := intsK_ok l _ h3
  have h6 := tlenK_ok l 0 _ h4
  rw [Nat.zero_add] at h6
  refine ⟨_, _, h6, fun ρ w e d ty pos af gd he => ?_⟩
  have e1 := h2 ρ e he
  simp only [VR] at e1
  obtain ⟨e1, hb⟩ := e1
  have hsz : (bts l).size = l.length := by simp [bts, ByteArray.size]
  let q : Question := .appendCap (bts l).size 0 el
  let cap := q.cut (w.tape w.drawn q)
  have hcap : l.length ≤ cap := by
    show l.length ≤ Question.cut (.appendCap (bts l).size 0 el) _
    simp only [Question.cut, hsz]
    omega
  let vs := l.map fun (n : Nat) => Value.int .u8 n
  let zs := List.replicate (cap - (bts l).size) (Value.int .u8 0)
  have hlen : (vs ++ zs).length = cap := by simp [vs, zs, hsz]; omega
  refine ⟨cap, .cells (vs ++ zs).toArray el ((vs ++ zs).length, (vs ++ zs).length + 1), .slice (some ⟨w.heap.size, 0, none⟩) l.length cap, w.drawn + 1, by omega, fun ρ' hx' hn => ⟨by simp only [VR]; exact ⟨_, _, hn, rfl⟩, vs, zs, el, _, rfl, h5 hb ρ', fun i h1 h2 => by omega, by simpa using hlen⟩, run_v ?_⟩
  have hdata : (bts l).data.map (fun b => Value.int .u8 b.toNat) ++ Array.replicate (cap - (bts l).size) (Value.int .u8 0) = (vs ++ zs).toArray := by
    rw [bts_ints l hb]; simp [vs, zs]
  have hq : (Question.appendCap (bts l).size 0 el).forced = false := rfl
  simp only [convert, Sem.run_bind, run_underlying hs, run_underlying ht, run_underlying hu, Result.andThen_ok, e1, Conv.stringToBytes, run_choose, hq, if_false, Bool.false_eq_true]
  have hc2 : Question.cut (.appendCap (bts l).size 0 el) (w.tape w.drawn (.appendCap (bts l).size 0 el)) = cap := rfl
  rw [hc2, hdata]
  simp only [run_newRow, Result.andThen_ok, markStringish, Sem.run_bind, run_shape, World.shape?, Array.getElem?_push_size]
  simp only [run_freeze, Result.andThen_ok, Sem.run_pure, World.freeze, hsz]
  rw [modify_push]
  simp [hsz]
end
end Go.Ev
end
section
set_option linter.all false
set_option linter.unusedVariables false
set_option linter.unusedSimpArgs false
namespace Go.Ev
open Go
section
variable {P : Program} {fr : Fm} {n : Pos} {c : SO → SV → Prop}

theorem a_call {cl : Call} {lo : LO} (hl : lowCall P cl = some lo) (hk : kd lo = .a) : False := by
  obtain ⟨callee, args, argTypes⟩ := cl
  (try simp only [lowO, lowBin, lowCall, lowApp, lowLen, lowConv] at hl); (repeat' (first | (cases hl; done) | (injection hl with e; subst e; cases hk; done) | (obtain ⟨_, _, e⟩ := map_some hl; subst e; cases hk; done) | (obtain ⟨_, _, e⟩ := Option.bind_eq_some_iff.1 hl; clear hl; have hl := e; clear e; try simp only [lowLen, lowConv] at hl) | split at hl))
theorem a_all {op : Op} {lo : LO} (hl : lowO P op = some lo) (hk : kd lo = .a) (h : aK lo fr n c) : ∃ ob v, c ob v ∧ AOk P fr op n ob v := by
  cases op
  case alloc t => obtain ⟨a, hx, rfl⟩ := map_some hl; exact a_alloc hx h
  case box t x => obtain ⟨a, hx, rfl⟩ := map_some hl; exact a_box hx h
  case buildSlice t len ps =>
    simp only [lowO] at hl
    split at hl
    · rename_i el he
      split at hl
      · rename_i k z hk' hz
        split at hl
        · cases hl
        · rename_i hb; obtain ⟨a, hx, rfl⟩ := map_some hl; exact a_bsl (elT_u he) hk' hz hb hx h
      · cases hl
    · cases hl
  case convert s t x =>
    simp only [lowO] at hl
    cases hx : lowX x with
    | none => rw [hx] at hl; cases hl
    | some a =>
      rw [hx] at hl
      simp only [Option.bind_some, lowConv] at hl
      split at hl
      · injection hl with hl; subst hl; cases hk
      · injection hl with hl; subst hl; cases hk
      · rename_i e hs ht
        split at hl
        · rename_i hu
          split at hl
          · injection hl with hl; subst hl; exact a_byts hs ht hu hx h
          · cases hl
        · cases hl
      · split at hl
        · injection hl with hl; subst hl; cases hk
        · cases hl
      · cases hl
  case makeMap t r =>
    cases r <;> simp only [lowO] at hl
    · injection hl with hl; subst hl; exact a_mkm h
    · cases hl
  case makeSlice t x y =>
    simp only [lowO] at hl
    split at hl
    · rename_i el he
      split at hl
      · rename_i z b zc a q h1 h2 h3 h4 h5
        split at hl
        · cases hl
        · rename_i hb; injection hl with hl; subst hl; exact a_mks (elT_u he) h1 h2 h3 hb h4 h5 h
      · cases hl
    · cases hl
  case call cl => exact (a_call hl hk).elim
  case binOp f t x y u =>
    simp only [lowO] at hl
    split at hl
    · unfold lowBin at hl
      (try simp only [lowO, lowBin, lowCall, lowApp, lowLen, lowConv] at hl); (repeat' (first | (cases hl; done) | (injection hl with e; subst e; cases hk; done) | (obtain ⟨_, _, e⟩ := map_some hl; subst e; cases hk; done) | (obtain ⟨_, _, e⟩ := Option.bind_eq_some_iff.1 hl; clear hl; have hl := e; clear e; try simp only [lowLen, lowConv] at hl) | split at hl))
    · cases hl
  case makeFunc f l q => cases f <;> (try simp only [lowO, lowBin, lowCall, lowApp, lowLen, lowConv] at hl); (repeat' (first | (cases hl; done) | (injection hl with e; subst e; cases hk; done) | (obtain ⟨_, _, e⟩ := map_some hl; subst e; cases hk; done) | (obtain ⟨_, _, e⟩ := Option.bind_eq_some_iff.1 hl; clear hl; have hl := e; clear e; try simp only [lowLen, lowConv] at hl) | split at hl))
  all_goals (exfalso; (try simp only [lowO, lowBin, lowCall, lowApp, lowLen, lowConv] at hl); (repeat' (first | (cases hl; done) | (injection hl with e; subst e; cases hk; done) | (obtain ⟨_, _, e⟩ := map_some hl; subst e; cases hk; done) | (obtain ⟨_, _, e⟩ := Option.bind_eq_some_iff.1 hl; clear hl; have hl := e; clear e; try simp only [lowLen, lowConv] at hl) | split at hl)))
end
end Go.Ev
end
section
set_option linter.all false
set_option linter.unusedVariables false
set_option linter.unusedSimpArgs false
namespace Go.Ev
open Go

/-- Names from n up to n' are free. -/
def Free (ρ : Env) (n n' : Pos) : Prop := ∀ p : Pos, n.nat ≤ p.nat → p.nat < n'.nat → ρ p = none
def Below (m : Mem) (n : Pos) : Prop := ∀ p, Tr.get p m ≠ none → p.nat < n.nat
/-- Memory under names goes on, and the world with it. -/
structure Evo (P : Program) (ρ : Env) (n : Pos) (m : Mem) (w : World) (ρ' : Env) (n' : Pos) (m' : Mem) (w' : World) : Prop where
  ext : Ext ρ ρ'
  out : ∀ p : Pos, (p.nat < n.nat ∨ n'.nat ≤ p.nat) → ρ' p = ρ p
  rel : Rel P ρ' n' m' w'
  os : w'.os = w.os
  tape : w'.tape = w.tape
  output : w'.output = w.output
  drawn : w.drawn ≤ w'.drawn
  size : w.heap.size ≤ w'.heap.size
  frame : ∀ a, a < w.heap.size → (∀ p k, Tr.get p m ≠ none → ρ p ≠ some (a, k)) → w'.heap[a]? = w.heap[a]?
  news : ∀ p a k, Tr.get p m' ≠ none → ρ' p = some (a, k) → w.heap.size ≤ a ∨ ∃ q k', Tr.get q m ≠ none ∧ ρ q = some (a, k')
section
variable {P : Program}
theorem Rel.lt {ρ : Env} {n : Pos} {m : Mem} {w : World} (h : Rel P ρ n m w) {p : Pos} {a k : Nat} (hp : Tr.get p m ≠ none) (hr : ρ p = some (a, k)) : a < w.heap.size := by
  cases h1 : Tr.get p m with
  | none => exact absurd h1 hp
  | some o =>
    obtain ⟨ob, h2, _⟩ := h.at h1 hr
    exact (Array.getElem?_eq_some_iff.1 h2).1
theorem Evo.refl {ρ : Env} {n : Pos} {m : Mem} {w : World} (h : Rel P ρ n m w) : Evo P ρ n m w ρ n m w :=
  ⟨.refl _, fun _ _ => rfl, h, rfl, rfl, rfl, Nat.le_refl _, Nat.le_refl _, fun _ _ _ => rfl, fun p a k hp hr => .inr ⟨p, k, hp, hr⟩⟩
theorem Evo.trans {ρ ρ' ρ'' : Env} {n n' n'' : Pos} {m m' m'' : Mem} {w w' w'' : World} (h : Evo P ρ n m w ρ' n' m' w') (k : Evo P ρ' n' m' w' ρ'' n'' m'' w'') (h1 : n.nat ≤ n'.nat) (h2 : n'.nat ≤ n''.nat) :
    Evo P ρ n m w ρ'' n'' m'' w'' where
  ext := h.ext.trans k.ext
  out := fun p hp => by
    rcases hp with hp | hp
    · rw [k.out p (.inl (by omega)), h.out p (.inl hp)]
    · rw [k.out p (.inr hp), h.out p (.inr (by omega))]
  rel := k.rel
  os := k.os.trans h.os
  tape := k.tape.trans h.tape
  output := k.output.trans h.output
  drawn := Nat.le_trans h.drawn k.drawn
  size := Nat.le_trans h.size k.size
  frame := fun a ha hn => by
    rw [k.frame a (Nat.lt_of_lt_of_le ha h.size) (fun p j hp hr => ?_), h.frame a ha hn]
    rcases h.news p a j hp hr with h3 | ⟨q, j', h3, h4⟩
    · omega
    · exact hn q j' h3 h4
  news := fun p a j hp hr => by
    rcases k.news p a j hp hr with h3 | ⟨q, j', h3, h4⟩
    · exact .inl (Nat.le_trans h.size h3)
    · exact h.news q a j' h3 h4
theorem Free.left {ρ : Env} {n n' n'' : Pos} (h : Free ρ n n'') (h2 : n'.nat ≤ n''.nat) : Free ρ n n' := fun p hp hq => h p hp (by omega)
theorem Free.right {ρ ρ' : Env} {n n' n'' : Pos} {m m' : Mem} {w w' : World} (h : Free ρ n n'') (h1 : n.nat ≤ n'.nat) (k : Evo P ρ n m w ρ' n' m' w') : Free ρ' n' n'' := fun p hp hq => by
  rw [k.out p (.inr hp)]; exact h p (by omega) hq

/-- The world's block of a name becomes another. -/
theorem evo_set {ρ : Env} {n : Pos} {m : Mem} {w : World} (h : Rel P ρ n m w) {b : Pos} {ob ob' : SO} {a k : Nat} {real : Obj} (hb : Tr.get b m = some ob) (hr : ρ b = some (a, k)) (ho : OR P ρ k ob' real) :
    Evo P ρ n m w ρ n (Tr.put b m ob') { w with heap := w.heap.setIfInBounds a real } := by
  have hlive : ∀ p, Tr.get p (Tr.put b m ob') ≠ none → Tr.get p m ≠ none := fun p hp => by
    by_cases e : b = p
    · subst e; rw [hb]; simp
    · rwa [get_put_ne b p m ob' e] at hp
  have ha : a < w.heap.size := h.lt (by rw [hb]; simp) hr
  refine ⟨.refl _, fun _ _ => rfl, ⟨fun p q x j j' hp hq => h.inj p q x j j' (hlive p hp) (hlive q hq), fun p o hp => ?_⟩, rfl, rfl, rfl, Nat.le_refl _, by simp, fun x hx hn => ?_, fun p x j hp hj => .inr ⟨p, j, hlive p hp, hj⟩⟩
  · by_cases e : b = p
    · subst e
      rw [get_put_same] at hp
      injection hp with hp; subst hp
      exact ⟨a, k, real, hr, by simp [ha], ho⟩
    · rw [get_put_ne b p m ob' e] at hp
      obtain ⟨x, j, r, h1, h2, h3⟩ := h.mem p o hp
      refine ⟨x, j, r, h1, ?_, h3⟩
      have : a ≠ x := fun hx => e (h.inj b p a k j (by rw [hb]; simp) (by rw [hp]; simp) hr (hx ▸ h1))
      simp [Array.getElem?_setIfInBounds, this, h2]
  · have : a ≠ x := fun e => hn b k (by rw [hb]; simp) (e ▸ hr)
    simp [Array.getElem?_setIfInBounds, this]
def upd (ρ : Env) (n : Pos) (x : Nat × Nat) : Env := fun p => if p = n then some x else ρ p
theorem upd_same {ρ : Env} {n : Pos} {x : Nat × Nat} : upd ρ n x n = some x := by simp [upd]
theorem upd_ne {ρ : Env} {n p : Pos} {x : Nat × Nat} (h : p ≠ n) : upd ρ n x p = ρ p := by simp [upd, h]
theorem upd_ext {ρ : Env} {n : Pos} {x : Nat × Nat} (h : ρ n = none) : Ext ρ (upd ρ n x) := fun p y hp => by
  rw [upd_ne (fun e => by rw [e, h] at hp; cases hp)]; exact hp
/-- A block is made under the next name. -/
theorem evo_new {ρ : Env} {n : Pos} {m : Mem} {w : World} (h : Rel P ρ n m w) (hf : ρ n = none) {ob : SO} {k dr : Nat} {real : Obj} (hd : w.drawn ≤ dr) (ho : OR P (upd ρ n (w.heap.size, k)) k ob real) :
    Evo P ρ n m w (upd ρ n (w.heap.size, k)) n.succ (Tr.put n m ob) { w with heap := w.heap.push real, drawn := dr } := by
  have hx := upd_ext (x := (w.heap.size, k)) hf
  have hlive : ∀ p, p ≠ n → Tr.get p (Tr.put n m ob) ≠ none → Tr.get p m ≠ none := fun p e hp => by rwa [get_put_ne n p m ob (Ne.symm e)] at hp
  have hsn : n.succ.nat = n.nat + 1 := Pos.nat_succ n
  refine ⟨hx, fun p hp => upd_ne fun e => by subst e; omega, ⟨fun p q x j j' hp hq h1 h2 => ?_, fun p o hp => ?_⟩, rfl, rfl, rfl, hd, by simp, fun x hx hn => by simp [Array.getElem?_push, Nat.ne_of_lt hx], fun p x j hp hj => ?_⟩
  · by_cases e1 : p = n
    · subst e1
      by_cases e2 : q = p
      · exact e2.symm
      · rw [upd_same] at h1; rw [upd_ne e2] at h2
        injection h1 with h1; injection h1 with h1 _
        have := h.lt (hlive q e2 hq) h2
        omega
    · by_cases e2 : q = n
      · subst e2
        rw [upd_same] at h2; rw [upd_ne e1] at h1
        injection h2 with h2; injection h2 with h2 _
        have := h.lt (hlive p e1 hp) h1
        omega
      · rw [upd_ne e1] at h1; rw [upd_ne e2] at h2
        exact h.inj p q x j j' (hlive p e1 hp) (hlive q e2 hq) h1 h2
  · by_cases e1 : p = n
    · subst e1
      rw [get_put_same] at hp
      injection hp with hp; subst hp
      exact ⟨_, _, real, upd_same, by simp, ho⟩
    · rw [get_put_ne n p m ob (Ne.symm e1)] at hp
      obtain ⟨x, j, r, h1, h2, h3⟩ := h.mem p o hp
      have hlt := h.lt (by rw [hp]; simp) h1
      exact ⟨x, j, r, by rw [upd_ne e1]; exact h1, by simp [Array.getElem?_push, Nat.ne_of_lt hlt, h2], h3.mono P hx⟩
  · by_cases e1 : p = n
    · subst e1; rw [upd_same] at hj; injection hj with hj; injection hj with hj _; exact .inl (by omega)
    · rw [upd_ne e1] at hj; exact .inr ⟨p, j, hlive p e1 hp, hj⟩
theorem below_put {m : Mem} {n b : Pos} {o : SO} (h : Below m n) (hb : Tr.get b m ≠ none) : Below (Tr.put b m o) n := fun p hp => by
  by_cases e : b = p
  · subst e; exact h _ hb
  · rw [get_put_ne b p m o e] at hp; exact h p hp
theorem below_new {m : Mem} {n : Pos} {o : SO} (h : Below m n) : Below (Tr.put n m o) n.succ := fun p hp => by
  have := Pos.nat_succ n
  by_cases e : n = p
  · subst e; omega
  · rw [get_put_ne n p m o e] at hp; have := h p hp; omega
theorem below_del {m : Mem} {n b : Pos} (h : Below m n) : Below (Tr.del b m) n := fun p hp => by
  by_cases e : b = p
  · subst e; rw [get_del_same] at hp; exact absurd rfl hp
  · rw [get_del_ne b p m e] at hp; exact h p hp
/-- Part of the memory is forgotten. -/
theorem Rel.del {ρ : Env} {n : Pos} {m : Mem} {w : World} (h : Rel P ρ n m w) (b : Pos) : Rel P ρ n (Tr.del b m) w := by
  have hlive : ∀ p, Tr.get p (Tr.del b m) ≠ none → b ≠ p ∧ Tr.get p (Tr.del b m) = Tr.get p m := fun p hp => by
    by_cases e : b = p
    · subst e; rw [get_del_same] at hp; exact absurd rfl hp
    · exact ⟨e, get_del_ne b p m e⟩
  refine ⟨fun p q x j j' hp hq => h.inj p q x j j' ((hlive p hp).2 ▸ hp) ((hlive q hq).2 ▸ hq), fun p o hp => h.mem p o ?_⟩
  rw [← (hlive p (by rw [hp]; simp)).2]; exact hp
/-- One memory is part of another. -/
def Sub (m m' : Mem) : Prop := ∀ p o, Tr.get p m = some o → Tr.get p m' = some o
theorem Sub.live {m m' : Mem} (h : Sub m m') {p : Pos} (hp : Tr.get p m ≠ none) : Tr.get p m' ≠ none := by
  cases h1 : Tr.get p m with
  | none => exact absurd h1 hp
  | some o => rw [h p o h1]; simp
theorem Rel.sub {ρ : Env} {n n' : Pos} {m m' : Mem} {w : World} (h : Rel P ρ n m' w) (hs : Sub m m') : Rel P ρ n' m w :=
  ⟨fun p q x j j' hp hq => h.inj p q x j j' (hs.live hp) (hs.live hq), fun p o hp => h.mem p o (hs p o hp)⟩
theorem Evo.sub {ρ ρ' : Env} {n n' : Pos} {m m' m'' : Mem} {w w' : World} (h : Evo P ρ n m w ρ' n' m' w') (hs : Sub m'' m') : Evo P ρ n m w ρ' n' m'' w' :=
  { h with rel := h.rel.sub hs, news := fun p a k hp hr => h.news p a k (hs.live hp) hr }

/-- An operation has an effect on memory, and yields v. -/
def SOk (P : Program) (fr : Fm) (op : Op) (m : Mem) (n : Pos) (v : SV) (m' : Mem) (n' : Pos) : Prop :=
  n.nat ≤ n'.nat ∧ (Below m n → Below m' n') ∧ ∀ ρ w e d ty pos af gd, Rel P ρ n m w → Free ρ n n' → EvR ρ fr e → ∃ ρ' w' x nx, Evo P ρ n m w ρ' n' m' w' ∧ VR ρ' v x ∧
    (execOp e ⟨d, op, ty, pos, af, gd⟩).run P w = .ok nx w' ∧ (nx = .value x ∨ nx = .skip ∧ x = undef)

theorem modify_eq {h : Array Obj} {a : Nat} {ob : Obj} {f : Obj → Obj} (ha : h[a]? = some ob) : h.modify a f = h.setIfInBounds a (f ob) := by
  apply Array.ext_getElem?
  intro i
  have := (Array.getElem?_eq_some_iff.1 ha).1
  rw [Array.getElem?_modify, Array.getElem?_setIfInBounds]
  by_cases e : a = i
  · subst e; rw [if_pos rfl, if_pos rfl, if_pos this, ha]; rfl
  · rw [if_neg e, if_neg e]
theorem set_self {h : Array Obj} {a : Nat} {ob : Obj} (ha : h[a]? = some ob) : h.setIfInBounds a ob = h := by
  apply Array.ext_getElem?
  intro i
  have := (Array.getElem?_eq_some_iff.1 ha).1
  rw [Array.getElem?_setIfInBounds]
  by_cases e : a = i
  · subst e; rw [if_pos rfl, if_pos this, ha]
  · rw [if_neg e]
theorem set_set {h : Array Obj} {a : Nat} {x y : Obj} : (h.setIfInBounds a x).setIfInBounds a y = h.setIfInBounds a y := by
  apply Array.ext_getElem?
  intro i
  simp only [Array.getElem?_setIfInBounds, Array.size_setIfInBounds]
  by_cases e : a = i <;> simp [e]
theorem one_cell {v : Value} (h : One v) : v.oneCell' = true := by cases v <;> first | rfl | exact h.elim
theorem run_storeRow {a o : Nat} {T : TypeId} {f : Nat × Nat} : ∀ (vs : List Value) (i : Nat) (cs : List Value) (w : World), w.heap[a]? = some (.cells cs.toArray T f) → o + i + vs.length ≤ cs.length → Thaw cs.length f → (∀ v ∈ vs, One v) →
    (storeCells ⟨a, o, none⟩ vs i).run P w = .ok () { w with heap := w.heap.setIfInBounds a (.cells (cs.take (o + i) ++ vs ++ cs.drop (o + i + vs.length)).toArray T f) }
  | [], i, cs, w, hw, hl, ht, hv => by simp [storeCells, set_self hw]
  | v :: vs, i, cs, w, hw, hl, ht, hv => by
    rw [List.length_cons] at hl
    have h1 : w.cell? ⟨a, o + i, none⟩ = some (cs[o + i]'(by omega)) := by simp [World.cell?, hw]
    have h2 : w.frozen? ⟨a, o + i, none⟩ = false := by
      have := ht (o + i) (by omega)
      simp only [World.frozen?, hw]
      by_cases h3 : f.1 ≤ o + i
      · have : ¬ (o + i < f.2) := fun h4 => this ⟨h3, h4⟩
        simp [this]
      · simp [h3]
    have h3 : (w.setCell ⟨a, o + i, none⟩ v).heap = w.heap.setIfInBounds a (.cells (cs.set (o + i) v).toArray T f) := by
      simp [World.setCell, modify_eq hw]
    have g1 : (w.setCell ⟨a, o + i, none⟩ v).heap[a]? = some (.cells (cs.set (o + i) v).toArray T f) := by rw [h3]; simp [(Array.getElem?_eq_some_iff.1 hw).1]
    have g2 : o + (i + 1) + vs.length ≤ (cs.set (o + i) v).length := by rw [List.length_set]; omega
    have g3 : Thaw (cs.set (o + i) v).length f := by rw [List.length_set]; exact ht
    have ih := run_storeRow vs (i + 1) (cs.set (o + i) v) (w.setCell ⟨a, o + i, none⟩ v) g1 g2 g3 (fun x hx => hv x (by simp [hx]))
    simp only [storeCells, add_lit, Sem.run_bind, run_store P w _ v .plain (one_cell (hv v (by simp))), h1, h2, Bool.false_eq_true, if_false, Result.andThen_ok, ih]
    rw [h3, set_set]
    have h4 : (cs.set (o + i) v).take (o + (i + 1)) ++ vs ++ (cs.set (o + i) v).drop (o + (i + 1) + vs.length) = cs.take (o + i) ++ v :: vs ++ cs.drop (o + i + (vs.length + 1)) := by
      rw [List.drop_set_of_lt (by omega), show o + (i + 1) = (o + i) + 1 by omega, List.take_succ, List.take_set_of_le (Nat.le_refl _)]
      simp [List.getElem?_set, show o + i < cs.length by omega, show o + i + 1 + vs.length = o + i + (vs.length + 1) by omega]
    rw [h4]
    rfl
end
end Go.Ev
end
section
set_option linter.all false
set_option linter.unusedVariables false
set_option linter.unusedSimpArgs false
namespace Go.Ev
open Go
section
variable {P : Program} {fr : Fm} {m : Mem} {n : Pos} {d : LD} {c : SV → Mem → Pos → LD → Prop}

theorem undef_ok (ρ : Env) : VR ρ undef_ undef := by simp only [undef_, VR]; exact ⟨[], LV_nil.2 rfl, rfl⟩
theorem run_u {s : Sem Unit} {w w' : World} (h : s.run P w = .ok () w') : (do s; pure Next.skip : Sem Next).run P w = .ok .skip w' := by
  simp [Sem.run_bind, h]
theorem run_v' {s : Sem Value} {w w' : World} {v : Value} (h : s.run P w = .ok v w') : (do pure (Next.value (← s)) : Sem Next).run P w = .ok (.value v) w' := by
  simp [Sem.run_bind, h]
theorem onSet_ok {c : SV → (SV → SO) → Prop} {o : SO} (h : SO.onSet c o) : ∃ l mk, c l mk ∧ (o = .cells l ∧ mk = .cells ∨ ∃ z, o = .grow l z ∧ mk = (fun l => .grow l z)) := by
  cases o <;> first | exact h.elim | exact ⟨_, _, h, .inl ⟨rfl, rfl⟩⟩ | exact ⟨_, _, h, .inr ⟨_, rfl, rfl⟩⟩
/-- Cells are stored into a row that has a name. -/
theorem row_store {ρ : Env} {w : World} (hm : Rel P ρ n m w) {b : Pos} {ob : SO} {l r x : SV} {mk : SV → SO} {o a k : Nat} (hb : Tr.get b m = some ob)
    (ho : ob = .cells l ∧ mk = .cells ∨ ∃ z, ob = .grow l z ∧ mk = (fun l => .grow l z)) (hr : ρ b = some (a, k))
    (hs : ∀ ρ xs vs, LV ρ x xs → LV ρ l vs → LV ρ r (vs.take o ++ xs ++ vs.drop (o + xs.length)) ∧ o + xs.length ≤ vs.length) {xs : List Value} (hx : LV ρ x xs) (h1 : ∀ v ∈ xs, One v) :
    ∃ w', (storeCells ⟨a, o, none⟩ xs).run P w = .ok () w' ∧ Evo P ρ n m w ρ n (Tr.put b m (mk r)) w' := by
  obtain ⟨real, h2, h3⟩ := hm.at hb hr
  rcases ho with ⟨rfl, rfl⟩ | ⟨z, rfl, rfl⟩
  · obtain ⟨vs, T, f, rfl, h4, h5⟩ := h3
    obtain ⟨h6, h7⟩ := hs ρ xs vs hx h4
    have h8 := run_storeRow (P := P) (o := o) xs 0 vs w h2 (by omega) h5 h1
    refine ⟨_, h8, evo_set hm hb hr ⟨_, T, f, rfl, ?_, ?_⟩⟩
    · simpa using h6
    · have : (vs.take (o + 0) ++ xs ++ vs.drop (o + 0 + xs.length)).length = vs.length := by simp; omega
      rw [this]; exact h5
  · obtain ⟨vs, zs, T, f, rfl, h4, h5, h5'⟩ := h3
    obtain ⟨h6, h7⟩ := hs ρ xs vs hx h4
    have h8 := run_storeRow (P := P) (o := o) xs 0 (vs ++ zs) w h2 (by rw [List.length_append]; omega) h5 h1
    have h9 : (vs ++ zs).take (o + 0) ++ xs ++ (vs ++ zs).drop (o + 0 + xs.length) = (vs.take o ++ xs ++ vs.drop (o + xs.length)) ++ zs := by
      rw [List.take_append_of_le_length (by omega), List.drop_append_of_le_length (by omega)]
      simp
    have h10 : ((vs.take o ++ xs ++ vs.drop (o + xs.length)) ++ zs).length = (vs ++ zs).length := by simp only [List.length_append, List.length_take, List.length_drop]; omega
    rw [h9] at h8
    refine ⟨_, h8, evo_set hm hb hr ⟨vs.take o ++ xs ++ vs.drop (o + xs.length), zs, T, f, rfl, h6, ?_, ?_⟩⟩
    · rw [h10]; exact h5
    · rw [h10]; exact h5'
theorem SOk.bel {op : Op} {v : SV} {m' : Mem} (h : ∀ ρ w e d ty pos af gd, Rel P ρ n m w → EvR ρ fr e → ∃ w' x nx, Evo P ρ n m w ρ n m' w' ∧ VR ρ v x ∧ (execOp e ⟨d, op, ty, pos, af, gd⟩).run P w = .ok nx w' ∧ (nx = .value x ∨ nx = .skip ∧ x = undef))
    (hb : Below m n → Below m' n) : SOk P fr op m n v m' n :=
  ⟨Nat.le_refl _, hb, fun ρ w e d ty pos af gd hm _ he => let ⟨w', x, nx, h1, h2, h3, h4⟩ := h ρ w e d ty pos af gd hm he; ⟨ρ, w', x, nx, h1, h2, h3, h4⟩⟩
theorem s_store {t : TypeId} {X Y : Operand} {x y : LX} {k : Nat} (hk : szT P t = some k) (hx : lowX X = some x) (hy : lowX Y = some y) (h : sStore k x y fr m n d c) :
    ∃ v m' n', c v m' n' d ∧ SOk P fr (.store t X Y) m n v m' n' := by
  obtain ⟨u, h1, h2⟩ := evK_ok hx h
  obtain ⟨v, h3, h4⟩ := evK_ok hy h1
  obtain ⟨l, h5, h6⟩ := cellsK_ok h3
  obtain ⟨h7, h8⟩ := lenIs_ok _ _ _ h5
  obtain ⟨h9, h10⟩ := onesK_ok _ _ h7
  obtain ⟨b, o, rfl, h11⟩ := onPtr_ok h9
  obtain ⟨ob, h12, h13⟩ := getK_ok _ _ _ h11
  obtain ⟨cs, mk, h14, h15⟩ := onSet_ok h13
  obtain ⟨r, h16, h17⟩ := setK_ok _ _ _ _ h14
  have h18 := putK_ok _ _ _ _ h16
  refine ⟨_, _, _, h18, SOk.bel (fun ρ w e d' ty pos af gd hm he => ?_) (fun hb => below_put hb (by rw [h12]; simp))⟩
  have e1 := h2 ρ e he
  have e2 := h6 ρ _ (h4 ρ e he)
  simp only [VR] at e1
  obtain ⟨a, k', e3, e4⟩ := e1
  obtain ⟨w', e5, e6⟩ := row_store hm h12 h15 e3 h17 e2 (h10 ρ _ e2)
  refine ⟨w', undef, .skip, e6, undef_ok ρ, run_u ?_, .inr ⟨rfl, rfl⟩⟩
  have e7 : (e Y).cells.size = k := by have := h8 ρ _ e2; simpa using this
  simp only [Instr.storeAt, e4, Instr.sureAddr, Sem.run_bind, Sem.run_pure, Result.andThen_ok, storeVar, szT_run hk w, e7, ne_eq, not_true_eq_false, if_false, e5]
end
end Go.Ev
end
section
set_option linter.all false
set_option linter.unusedVariables false
set_option linter.unusedSimpArgs false
namespace Go.Ev
open Go
section
variable {P : Program} {fr : Fm} {m : Mem} {n : Pos} {d : LD} {c : SV → Mem → Pos → LD → Prop}

theorem scBit_ok {a b : SV} {c : Prop} (h : scBit a b c) : c ∧ ∀ ρ x y, VR ρ a x → VR ρ b y → x = y ∧ ∀ D, Instr.sameBits D x y = true := by
  cases a <;> first | exact h.elim | skip
  · rename_i p
    obtain ⟨q, rfl, h1⟩ := onBool_ok h
    have : p = q ∧ c := by cases p <;> cases q <;> first | exact h1.elim | exact ⟨rfl, h1⟩
    obtain ⟨rfl, h2⟩ := this
    exact ⟨h2, fun ρ x y e1 e2 => by simp only [VR] at e1 e2; subst e1 e2; exact ⟨rfl, fun D => by cases D <;> simp [Instr.sameBits]⟩⟩
  · rename_i k i
    obtain ⟨j, q, rfl, h1⟩ := onInt_ok h
    obtain ⟨rfl, h2⟩ := kK_ok h1
    have h3 := eqK_ok h2
    obtain ⟨h4, h5⟩ := bK_t h3
    have h4 := of_decide_eq_true h4
    subst h4
    exact ⟨h5, fun ρ x y e1 e2 => by simp only [VR] at e1 e2; subst e1 e2; exact ⟨rfl, fun D => by cases D <;> simp [Instr.sameBits]⟩⟩
  · rename_i l
    obtain ⟨q, rfl, h1⟩ := onStr_ok h
    have h3 := teqK_ok _ _ _ h1
    obtain ⟨h4, h5⟩ := bK_t h3
    have h4 := of_decide_eq_true h4
    subst h4
    exact ⟨h5, fun ρ x y e1 e2 => by simp only [VR] at e1 e2; rw [e1.1, e2.1]; exact ⟨rfl, fun D => by
      have g : ∀ s : ByteArray, (s == s) = true := fun s => by show (s.data == s.data) = true; simp
      cases D <;> simp only [Instr.sameBits, g]⟩⟩
theorem liBit_ok : ∀ (a b : SV) (c : Prop), liBit a b c → c ∧ ∀ ρ xs ys, LV ρ a xs → LV ρ b ys → xs = ys ∧ ∀ D, ((xs.zip ys).all fun (x, y) => Instr.sameBits D x y) = true
  | .nil, b, c, h => by
    obtain ⟨rfl, h1⟩ := onNil_ok h
    exact ⟨h1, fun ρ xs ys e1 e2 => by rw [LV_nil] at e1 e2; subst e1 e2; exact ⟨rfl, fun D => rfl⟩⟩
  | .cons a t, b, c, h => by
    obtain ⟨q, u, rfl, h1⟩ := onCons_ok h
    obtain ⟨h2, h3⟩ := scBit_ok h1
    obtain ⟨h4, h5⟩ := liBit_ok t u c h2
    refine ⟨h4, fun ρ xs ys e1 e2 => ?_⟩
    obtain ⟨x, r, e3, e4, rfl⟩ := LV_cons.1 e1
    obtain ⟨y, s, e5, e6, rfl⟩ := LV_cons.1 e2
    obtain ⟨rfl, g1⟩ := h3 ρ x y e3 e5
    obtain ⟨rfl, g2⟩ := h5 ρ r s e4 e6
    exact ⟨rfl, fun D => by simp only [List.zip_cons_cons, List.all_cons, g1 D, g2 D, Bool.and_self]⟩
  | .bool _, _, _, h => h.elim
  | .int _ _, _, _, h => h.elim
  | .str _, _, _, h => h.elim
  | .ptr _ _, _, _, h => h.elim
  | .nilp, _, _, h => h.elim
  | .slice _ _ _ _, _, _, h => h.elim
  | .emp _ _, _, _, h => h.elim
  | .nils, _, _, h => h.elim
  | .map _, _, _, h => h.elim
  | .nilm, _, _, h => h.elim
  | .func _ _ _, _, _, h => h.elim
  | .yld _, _, _, h => h.elim
  | .nilf, _, _, h => h.elim
  | .iface _ _, _, _, h => h.elim
  | .nili, _, _, h => h.elim
  | .agg _, _, _, h => h.elim
  | .tup _, _, _, h => h.elim
theorem bits_ok {a b : SV} {c : Prop} (h : bitsK a b c) : c ∧ ∀ ρ x y, VR ρ a x → VR ρ b y → x = y ∧ ∀ D, Instr.sameBits (D + 1) x y = true := by
  cases a <;> first | exact h.elim | skip
  · obtain ⟨h1, h2⟩ := scBit_ok (a := .bool _) h; exact ⟨h1, fun ρ x y e1 e2 => let ⟨h3, h4⟩ := h2 ρ x y e1 e2; ⟨h3, fun D => h4 _⟩⟩
  · obtain ⟨h1, h2⟩ := scBit_ok (a := .int _ _) h; exact ⟨h1, fun ρ x y e1 e2 => let ⟨h3, h4⟩ := h2 ρ x y e1 e2; ⟨h3, fun D => h4 _⟩⟩
  · obtain ⟨h1, h2⟩ := scBit_ok (a := .str _) h; exact ⟨h1, fun ρ x y e1 e2 => let ⟨h3, h4⟩ := h2 ρ x y e1 e2; ⟨h3, fun D => h4 _⟩⟩
  · obtain ⟨l, rfl, h1⟩ := onAgg_ok h
    obtain ⟨h2, h3⟩ := liBit_ok _ _ _ h1
    refine ⟨h2, fun ρ x y e1 e2 => ?_⟩
    simp only [VR] at e1 e2
    obtain ⟨xs, e3, rfl⟩ := e1
    obtain ⟨ys, e4, rfl⟩ := e2
    obtain ⟨rfl, g⟩ := h3 ρ xs ys e3 e4
    exact ⟨rfl, fun D => by simp only [Instr.sameBits, g D]; simp⟩
theorem keyCase {nn : Nat} {kt : TypeId} {q : QT} (hq : etT P nn kt = some q) :
    (∃ d, P.underlying kt = some d ∧ ∀ (a b : SV) (c : Bool → Prop), eqT q a b c → ∃ r, c r ∧ ∀ ρ x y, VR ρ a x → VR ρ b y → Instr.sameNow d x y = some r) ∨
    (∃ d, P.underlying kt = some d ∧ (∀ x y, Instr.sameNow d (.agg x) y = none) ∧ ∀ (k b : SV) (c : Bool → Prop), eqT q k b c → ∃ l, k = .agg l) := by
  cases nn with
  | zero => simp [etT] at hq
  | succ n =>
    simp only [etT] at hq
    split at hq
    · rename_i hu
      injection hq with hq; subst hq
      refine .inl ⟨_, hu, fun a b c hc => ?_⟩
      obtain ⟨r, h1, h2⟩ := eqB_ok hc
      exact ⟨r, h1, fun ρ x y e1 e2 => by obtain ⟨i, j, rfl, rfl, rfl⟩ := h2 ρ x y e1 e2; rfl⟩
    · rename_i k' hu
      injection hq with hq; subst hq
      refine .inl ⟨_, hu, fun a b c hc => ?_⟩
      obtain ⟨r, h1, h2⟩ := eqI_ok hc
      exact ⟨r, h1, fun ρ x y e1 e2 => by obtain ⟨k0, i, j, rfl, rfl, rfl⟩ := h2 ρ x y e1 e2; simp [Instr.sameNow]⟩
    · rename_i hu
      injection hq with hq; subst hq
      refine .inl ⟨_, hu, fun a b c hc => ?_⟩
      obtain ⟨r, h1, h2⟩ := eqS_ok hc
      exact ⟨r, h1, fun ρ x y e1 e2 => by obtain ⟨s, u, rfl, rfl, _, rfl⟩ := h2 ρ x y e1 e2; simp [Instr.sameNow]⟩
    · rename_i fs hu
      split at hq
      · cases hq
      · refine .inr ⟨_, hu, fun x y => by simp [Instr.sameNow], fun k b c hc => ?_⟩
        cases hfs : fs.toList with
        | nil =>
          rw [hfs] at hq
          simp only [etFs, Option.some.injEq] at hq; subst hq
          obtain ⟨l, rfl, _⟩ := onAgg_ok hc
          exact ⟨l, rfl⟩
        | cons g r =>
          rw [hfs] at hq
          simp only [etFs] at hq
          split at hq
          · cases hq
          · split at hq
            · injection hq with hq; subst hq
              obtain ⟨l, rfl, _⟩ := onAgg_ok hc
              exact ⟨l, rfl⟩
            · cases hq
    · rename_i k' e' hu
      split at hq
      · injection hq with hq; subst hq
        refine .inr ⟨_, hu, fun x y => by simp [Instr.sameNow], fun k b c hc => ?_⟩
        obtain ⟨l, rfl, _⟩ := onAgg_ok hc
        exact ⟨l, rfl⟩
      · cases hq
    · cases hq
/-- Where a key stands among entries, by what its comparisons come to. -/
def Path (F : SV → SV → Bool → Prop) (x : SV) : ES → Option Nat → Prop
  | .nil, none => True
  | .nil, some _ => False
  | .cons k _ _ r, none => F x k false ∧ Path F x r none
  | .cons k _ _ _, some 0 => F x k true
  | .cons k _ _ r, some (j + 1) => F x k false ∧ Path F x r (some j)
theorem now_path {dd : TypeDesc} {x : SV} : ∀ (es : ES) (o : Option Nat), Path (fun a b r => ∀ ρ x y, VR ρ a x → VR ρ b y → Instr.sameNow dd x y = some r) x es o → ∀ ρ E xv, ESR ρ es E → VR ρ x xv → ∀ i,
    match o with
    | none => Instr.findNow dd xv E i = some none
    | some j => ∃ e, E[j]? = some e ∧ Instr.findNow dd xv E i = some (some (i + j, e.val))
  | .nil, none, _, ρ, E, xv, e, ex, i => by simp only [ESR] at e; subst e; rfl
  | .nil, some _, h, _, _, _, _, _, _ => h.elim
  | .cons k v b r, none, h, ρ, E, xv, e, ex, i => by
    obtain ⟨e0, E', e1, e2, e3, e4, rfl⟩ := e
    have := now_path r none h.2 ρ E' xv e4 ex (i + 1)
    simp only [Instr.findNow, h.1 ρ xv e0.key ex e1]
    exact this
  | .cons k v b r, some 0, h, ρ, E, xv, e, ex, i => by
    obtain ⟨e0, E', e1, e2, e3, e4, rfl⟩ := e
    have h : ∀ ρ x y, VR ρ _ x → VR ρ _ y → Instr.sameNow dd x y = some true := h
    exact ⟨e0, rfl, by simp only [Instr.findNow, h ρ xv e0.key ex e1]; rfl⟩
  | .cons k v b r, some (j + 1), h, ρ, E, xv, e, ex, i => by
    obtain ⟨e0, E', e1, e2, e3, e4, rfl⟩ := e
    obtain ⟨en, g1, g2⟩ := now_path r (some j) h.2 ρ E' xv e4 ex (i + 1)
    refine ⟨en, by simpa using g1, ?_⟩
    simp only [Instr.findNow, h.1 ρ xv e0.key ex e1, g2]
    congr 3
    omega
theorem ask_path {nn : Nat} {kt : TypeId} (hn : nn ≤ 9999) {x : SV} : ∀ (es : ES) (o : Option Nat), Path (fun a b r => ∀ ρ x y, VR ρ a x → VR ρ b y → ∀ w D, nn ≤ D → (Op.equalIn (D + 1) kt x y).run P w = .ok r w) x es o → ∀ ρ E xv, ESR ρ es E → VR ρ x xv → ∀ i w,
    match o with
    | none => (Instr.findAsking kt xv E i).run P w = .ok none w
    | some j => ∃ e, E[j]? = some e ∧ (Instr.findAsking kt xv E i).run P w = .ok (some (i + j, e.val)) w
  | .nil, none, _, ρ, E, xv, e, ex, i, w => by simp only [ESR] at e; subst e; rfl
  | .nil, some _, h, _, _, _, _, _, _, _ => h.elim
  | .cons k v b r, none, h, ρ, E, xv, e, ex, i, w => by
    obtain ⟨e0, E', e1, e2, e3, e4, rfl⟩ := e
    have := ask_path hn r none h.2 ρ E' xv e4 ex (i + 1) w
    have h1 := equal_at (h.1 ρ xv e0.key ex e1 w 9999 hn)
    simp only [Instr.findAsking, Sem.run_bind, h1, Result.andThen_ok]
    simpa using this
  | .cons k v b r, some 0, h, ρ, E, xv, e, ex, i, w => by
    obtain ⟨e0, E', e1, e2, e3, e4, rfl⟩ := e
    have h : ∀ ρ x y, VR ρ _ x → VR ρ _ y → ∀ w D, nn ≤ D → (Op.equalIn (D + 1) kt x y).run P w = .ok true w := h
    have h1 := equal_at (h ρ xv e0.key ex e1 w 9999 hn)
    exact ⟨e0, rfl, by simp only [Instr.findAsking, Sem.run_bind, h1, Result.andThen_ok]; rfl⟩
  | .cons k v b r, some (j + 1), h, ρ, E, xv, e, ex, i, w => by
    obtain ⟨e0, E', e1, e2, e3, e4, rfl⟩ := e
    obtain ⟨en, g1, g2⟩ := ask_path hn r (some j) h.2 ρ E' xv e4 ex (i + 1) w
    refine ⟨en, by simpa using g1, ?_⟩
    have h1 := equal_at (h.1 ρ xv e0.key ex e1 w 9999 hn)
    simp only [Instr.findAsking, Sem.run_bind, h1, Result.andThen_ok]
    rw [show i + (j + 1) = i + 1 + j by omega]
    simpa using g2
/-- The entry at j gets a value. -/
def PutR (x y : SV) (es : ES) (j : Nat) (es' : ES) (v : SV) (b : Nat) : Prop :=
  ∀ ρ E, ESR ρ es E → ∃ e, E[j]? = some e ∧ VR ρ v e.val ∧ e.born = b ∧ (∀ xv, VR ρ x xv → e.key = xv ∧ Instr.sameBits 10000 e.key xv = true) ∧ ∀ yv, VR ρ y yv → ESR ρ es' (E.set j { e with val := yv })
theorem put_path {F : SV → SV → Bool → Prop} {q : QT} (hs : ∀ (a b : SV) (c : Bool → Prop), eqT q a b c → ∃ r, c r ∧ F a b r) : ∀ (es : ES) (x y : SV) (c : ES → SV → Nat → Prop) (dd : Prop), ES.putK es q x y c dd →
    (∃ j es' v b, c es' v b ∧ Path F x es (some j) ∧ PutR x y es j es' v b) ∨ (dd ∧ Path F x es none)
  | .nil, x, y, c, dd, h => .inr ⟨h, trivial⟩
  | .cons k v b es, x, y, c, dd, h => by
    obtain ⟨r, h1, h2⟩ := hs x k _ h
    rcases bK_ok h1 with ⟨rfl, h3⟩ | ⟨rfl, h3⟩
    · obtain ⟨h4, h5⟩ := bits_ok h3
      refine .inl ⟨0, _, v, b, h4, h2, fun ρ E e => ?_⟩
      obtain ⟨e0, E', e1, e2, e3, e4, rfl⟩ := e
      refine ⟨e0, rfl, e2, e3, fun xv ex => ?_, fun yv ey => ⟨{ e0 with val := yv }, E', e1, ey, e3, e4, rfl⟩⟩
      obtain ⟨g1, g2⟩ := h5 ρ xv e0.key ex e1
      exact ⟨g1.symm, by have := g2 9999; rw [g1] at this ⊢; exact this⟩
    · rcases put_path hs es x y _ dd h3 with ⟨j, es', v', b', h4, h5, h6⟩ | ⟨h4, h5⟩
      · refine .inl ⟨j + 1, _, v', b', h4, ⟨h2, h5⟩, fun ρ E e => ?_⟩
        obtain ⟨e0, E', e1, e2, e3, e4, rfl⟩ := e
        obtain ⟨e, g1, g2, g3, g4, g5⟩ := h6 ρ E' e4
        exact ⟨e, by simpa using g1, g2, g3, g4, fun yv ey => ⟨e0, _, e1, e2, e3, g5 yv ey, by simp⟩⟩
      · exact .inr ⟨h4, h2, h5⟩
/-- A key finds its entry, which gets a value; or there is none. -/
theorem esput_ok {nn : Nat} {kt : TypeId} {q : QT} (hq : etT P nn kt = some q) (hn : nn ≤ 9999) {es : ES} {x y : SV} {c : ES → SV → Nat → Prop} {dd : Prop} (h : ES.putK es q x y c dd) :
    (∃ j es' v b, c es' v b ∧ PutR x y es j es' v b ∧ ∀ ρ E xv, ESR ρ es E → VR ρ x xv → ∀ w, ∃ e, E[j]? = some e ∧ (Instr.findKey kt xv E).run P w = .ok (some (j, e.val)) w) ∨
    (dd ∧ ∀ ρ E xv, ESR ρ es E → VR ρ x xv → ∀ w, (Instr.findKey kt xv E).run P w = .ok none w) := by
  rcases keyCase hq with ⟨d, hd, hs⟩ | ⟨d, hd, hs, ha⟩
  · rcases put_path hs es x y c dd h with ⟨j, es', v, b, h1, h2, h3⟩ | ⟨h1, h2⟩
    · refine .inl ⟨j, es', v, b, h1, h3, fun ρ E xv e ex w => ?_⟩
      obtain ⟨en, g1, g2⟩ := now_path es (some j) h2 ρ E xv e ex 0
      exact ⟨en, g1, by simp [Instr.findKey, run_underlying hd, g2]⟩
    · refine .inr ⟨h1, fun ρ E xv e ex w => ?_⟩
      have g2 := now_path es none h2 ρ E xv e ex 0
      simp only at g2
      simp [Instr.findKey, run_underlying hd, g2]
  · have hrun : ∀ ρ E xv, ESR ρ es E → VR ρ x xv → ∀ w, (Instr.findKey kt xv E).run P w = (Instr.findAsking kt xv E).run P w := fun ρ E xv e ex w => by
      cases es with
      | nil => simp only [ESR] at e; subst e; simp [Instr.findKey, run_underlying hd, Instr.findNow, Instr.findAsking]
      | cons k' v b r =>
        obtain ⟨e0, E', e1, e2, e3, e4, rfl⟩ := e
        obtain ⟨l, rfl⟩ := ha x k' _ h
        simp only [VR] at ex
        obtain ⟨xs, _, rfl⟩ := ex
        simp [Instr.findKey, run_underlying hd, Instr.findNow, hs]
    rcases put_path (eqT_ok nn kt q hq) es x y c dd h with ⟨j, es', v, b, h1, h2, h3⟩ | ⟨h1, h2⟩
    · refine .inl ⟨j, es', v, b, h1, h3, fun ρ E xv e ex w => ?_⟩
      obtain ⟨en, g1, g2⟩ := ask_path hn es (some j) h2 ρ E xv e ex 0 w
      exact ⟨en, g1, by rw [hrun ρ E xv e ex w, g2]; simp⟩
    · refine .inr ⟨h1, fun ρ E xv e ex w => ?_⟩
      have g2 := ask_path hn es none h2 ρ E xv e ex 0 w
      simp only at g2
      rw [hrun ρ E xv e ex w, g2]
theorem esend_ok : ∀ (es : ES) (k v : SV) (b : Nat) (c : ES → Prop), ES.endK es k v b c → ∃ es', c es' ∧ ∀ ρ E kv vv, ESR ρ es E → VR ρ k kv → VR ρ v vv → ESR ρ es' (E ++ [{ key := kv, val := vv, born := b }])
  | .nil, k, v, b, c, h => ⟨_, h, fun ρ E kv vv e e1 e2 => by simp only [ESR] at e; subst e; exact ⟨_, [], e1, e2, rfl, rfl, rfl⟩⟩
  | .cons k' v' b' es, k, v, b, c, h => by
    obtain ⟨es', h1, h2⟩ := esend_ok es k v b _ h
    refine ⟨_, h1, fun ρ E kv vv e e1 e2 => ?_⟩
    obtain ⟨e0, E', g1, g2, g3, g4, rfl⟩ := e
    exact ⟨e0, _, g1, g2, g3, h2 ρ E' kv vv g4 e1 e2, by simp⟩
end
end Go.Ev
end
section
set_option linter.all false
set_option linter.unusedVariables false
set_option linter.unusedSimpArgs false
namespace Go.Ev
open Go
section
variable {P : Program} {fr : Fm} {m : Mem} {n : Pos} {d : LD} {c : SV → Mem → Pos → LD → Prop}

theorem run_setMap {w : World} {r : Nat} {E : Array MapEntry} {k : Nat} {o : Obj} (h : w.heap[r]? = some (.map E k)) : (setObj r o).run P w = .ok () { w with heap := w.heap.setIfInBounds r o } := by
  simp [setObj, Sem.run, h]
theorem modify_list {E : List MapEntry} {j : Nat} {e : MapEntry} {f : MapEntry → MapEntry} (h : E[j]? = some e) : E.toArray.modify j f = (E.set j (f e)).toArray := by
  apply Array.ext_getElem?
  intro i
  rw [Array.getElem?_modify]
  simp only [List.getElem?_toArray, List.getElem?_set]
  by_cases hi : j = i
  · subst hi
    have := (List.getElem?_eq_some_iff.1 h).1
    rw [if_pos rfl, if_pos rfl, if_pos this, h]; rfl
  · rw [if_neg hi, if_neg hi]
theorem set_entry {e : MapEntry} {k v : Value} (h : e.key = k) : { e with key := k, val := v } = { e with val := v } := by subst h; rfl
theorem run_mapPut {t kt et : TypeId} {w : World} {a j clk : Nat} {E : List MapEntry} {e : MapEntry} {kv v : Value} (hu : P.underlying t = some (.map kt et)) (hw : w.heap[a]? = some (.map E.toArray clk)) (hk : (Instr.checkKey false 10000 kt kv).run P w = .ok () w)
    (hf : (Instr.findKey kt kv E).run P w = .ok (some (j, e.val)) w) (he : E[j]? = some e) (h1 : e.key = kv) (h2 : Instr.sameBits 10000 e.key kv = true) :
    (Instr.mapUpdate t (.map (some a)) kv v).run P w = .ok () { w with heap := w.heap.setIfInBounds a (.map (E.set j { e with val := v }).toArray clk) } := by
  have h3 : (((E.toArray[j]?).map (·.key)).getD kv) = e.key := by simp [he]
  simp only [Instr.mapUpdate, Sem.run_bind, run_underlying hu, Result.andThen_ok, MapKept.run_getObj_map hw, Sem.run_pure, hk, List.toList_toArray, hf, Instr.keyThatStays, h3, h2, if_true, modify_list he, set_entry h1, run_setMap hw]
theorem run_mapEnd {t kt et : TypeId} {w : World} {a clk : Nat} {E : List MapEntry} {kv v : Value} (hu : P.underlying t = some (.map kt et)) (hw : w.heap[a]? = some (.map E.toArray clk)) (hk : (Instr.checkKey false 10000 kt kv).run P w = .ok () w)
    (hf : (Instr.findKey kt kv E).run P w = .ok none w) :
    (Instr.mapUpdate t (.map (some a)) kv v).run P w = .ok () { w with heap := w.heap.setIfInBounds a (.map (E ++ [({ key := kv, val := v, born := clk } : MapEntry)]).toArray (clk + 1)) } := by
  simp only [Instr.mapUpdate, Sem.run_bind, run_underlying hu, Result.andThen_ok, MapKept.run_getObj_map hw, Sem.run_pure, hk, List.toList_toArray, hf, run_setMap hw]
  simp
theorem s_mput {t : TypeId} {q : QT} {X K Y : Operand} {x k y : LX} (hq : keyT P t = some q) (hx : lowX X = some x) (hk : lowX K = some k) (hy : lowX Y = some y) (h : sMput q x k y fr m n d c) :
    ∃ v m' n', c v m' n' d ∧ SOk P fr (.mapUpdate t X K Y) m n v m' n' ∧ SOk P fr (.insert t X K Y) m n v m' n' := by
  obtain ⟨kt, et, hu, hq⟩ := keyT_kt hq
  obtain ⟨u, h1, h2⟩ := evK_ok hx h
  obtain ⟨v, h3, h4⟩ := evK_ok hk h1
  obtain ⟨z, h5, h6⟩ := evK_ok hy h3
  obtain ⟨b, rfl, h7⟩ := onMap_ok h5
  obtain ⟨ob, h8, h9⟩ := getK_ok _ _ _ h7
  obtain ⟨es, clk, rfl, h10⟩ := onMp_ok h9
  obtain ⟨h11, h12⟩ := keyT_ok 5 kt q hq v _ h10
  rcases esput_ok hq (by omega) h11 with ⟨j, es', v', b', h13, h14, h15⟩ | ⟨h13, h15⟩
  · have h16 := putK_ok _ _ _ _ h13
    have main : ∀ ρ w e, Rel P ρ n m w → EvR ρ fr e → ∃ w', Evo P ρ n m w ρ n (Tr.put b m (.mp es' clk)) w' ∧ (Instr.mapUpdate t (e X) (e K) (e Y)).run P w = .ok () w' := fun ρ w e hm he => by
      have e1 := h2 ρ e he
      have e2 := h4 ρ e he
      have e3 := h6 ρ e he
      simp only [VR] at e1
      obtain ⟨a, k', e4, e5⟩ := e1
      obtain ⟨ob, e6, E, rfl, e7⟩ := hm.at h8 e4
      obtain ⟨en, g1, g2, g3, g4, g5⟩ := h14 ρ E e7
      obtain ⟨en', g6, g7⟩ := h15 ρ E _ e7 e2 w
      rw [g1] at g6; injection g6 with g6; subst g6
      obtain ⟨g8, g9⟩ := g4 _ e2
      rw [e5]
      exact ⟨_, evo_set hm h8 e4 ⟨_, rfl, g5 _ e3⟩, run_mapPut hu e6 (h12 ρ _ e2 w 9999 _ (by omega)) g7 g1 g8 g9⟩
    refine ⟨_, _, _, h16, SOk.bel (fun ρ w e d' ty pos af gd hm he => ?_) (fun hb => below_put hb (by rw [h8]; simp)), SOk.bel (fun ρ w e d' ty pos af gd hm he => ?_) (fun hb => below_put hb (by rw [h8]; simp))⟩
    · obtain ⟨w', g1, g2⟩ := main ρ w e hm he; exact ⟨w', undef, .skip, g1, undef_ok ρ, run_u g2, .inr ⟨rfl, rfl⟩⟩
    · obtain ⟨w', g1, g2⟩ := main ρ w e hm he; exact ⟨w', undef, .skip, g1, undef_ok ρ, run_u g2, .inr ⟨rfl, rfl⟩⟩
  · obtain ⟨es', h14, h16⟩ := esend_ok _ _ _ _ _ h13
    have h17 := putK_ok _ _ _ _ (natK_ok (c := fun t => Tr.putK b m (.mp es' t) fun m => c undef_ m n d) h14)
    have main : ∀ ρ w e, Rel P ρ n m w → EvR ρ fr e → ∃ w', Evo P ρ n m w ρ n (Tr.put b m (.mp es' (clk + 1))) w' ∧ (Instr.mapUpdate t (e X) (e K) (e Y)).run P w = .ok () w' := fun ρ w e hm he => by
      have e1 := h2 ρ e he
      have e2 := h4 ρ e he
      have e3 := h6 ρ e he
      simp only [VR] at e1
      obtain ⟨a, k', e4, e5⟩ := e1
      obtain ⟨ob, e6, E, rfl, e7⟩ := hm.at h8 e4
      rw [e5]
      exact ⟨_, evo_set hm h8 e4 ⟨_, rfl, h16 ρ E _ _ e7 e2 e3⟩, run_mapEnd hu e6 (h12 ρ _ e2 w 9999 _ (by omega)) (h15 ρ E _ e7 e2 w)⟩
    refine ⟨_, _, _, h17, SOk.bel (fun ρ w e d' ty pos af gd hm he => ?_) (fun hb => below_put hb (by rw [h8]; simp)), SOk.bel (fun ρ w e d' ty pos af gd hm he => ?_) (fun hb => below_put hb (by rw [h8]; simp))⟩
    · obtain ⟨w', g1, g2⟩ := main ρ w e hm he; exact ⟨w', undef, .skip, g1, undef_ok ρ, run_u g2, .inr ⟨rfl, rfl⟩⟩
    · obtain ⟨w', g1, g2⟩ := main ρ w e hm he; exact ⟨w', undef, .skip, g1, undef_ok ρ, run_u g2, .inr ⟨rfl, rfl⟩⟩
theorem set_key {e : MapEntry} {k : Value} (h : e.key = k) : { e with key := k } = e := by subst h; rfl
theorem sment_ok (ρ : Env) {y : SV} {x : Value} {s : Nat} (h : VR ρ y x) : VR ρ (.tup (.cons y (.cons (.int .i64 (.ofNat s)) .nil))) (.tuple #[x, goInt s]) := by
  simp only [VR]
  exact ⟨[x, goInt s], LV_cons.2 ⟨_, _, h, LV_cons.2 ⟨_, _, by simp only [VR]; rfl, LV_nil.2 rfl, rfl⟩, rfl⟩, rfl⟩
theorem s_ment {t : TypeId} {q : QT} {z : SV} {X K : Operand} {x k : LX} (hq : keyT P t = some q) (hz : (valT P t).bind (zvT P) = some z) (hx : lowX X = some x) (hk : lowX K = some k) (h : sMent q z x k fr m n d c) :
    ∃ v m' n', c v m' n' d ∧ SOk P fr (.mapEntry t X K) m n v m' n' := by
  obtain ⟨kt, et, hu, hq⟩ := keyT_kt hq
  simp only [valT, hu, Option.bind_some] at hz
  obtain ⟨zv, hz1, hz2⟩ := zvT_run hz
  obtain ⟨u, h1, h2⟩ := evK_ok hx h
  obtain ⟨v, h3, h4⟩ := evK_ok hk h1
  obtain ⟨b, rfl, h7⟩ := onMap_ok h3
  obtain ⟨ob, h8, h9⟩ := getK_ok _ _ _ h7
  obtain ⟨es, clk, rfl, h10⟩ := onMp_ok h9
  obtain ⟨h11, h12⟩ := keyT_ok 5 kt q hq v _ h10
  have hfind : ∀ (old : SV) (c' : ES → SV → Nat → Prop), ES.putK es q v old c' False → ∃ j es' v' b', c' es' v' b' ∧ PutR v old es j es' v' b' ∧ ∀ ρ E xv, ESR ρ es E → VR ρ v xv → ∀ w, ∃ e, E[j]? = some e ∧ (Instr.findKey kt xv E).run P w = .ok (some (j, e.val)) w := fun old c' hc => by
    rcases esput_ok hq (by omega) hc with h | ⟨h, _⟩
    · exact h
    · exact h.elim
  rcases findK_ok hq (by omega) h11 with ⟨old, h13, h14⟩ | ⟨h13, h14⟩
  · obtain ⟨j, es', v', b', g1, g2, g3⟩ := hfind old _ h13
    have g4 := putK_ok _ _ _ _ g1
    refine ⟨_, _, _, g4, SOk.bel (fun ρ w e d' ty pos af gd hm he => ?_) (fun hb => below_put hb (by rw [h8]; simp))⟩
    have e1 := h2 ρ e he
    have e2 := h4 ρ e he
    simp only [VR] at e1
    obtain ⟨a, k', e4, e5⟩ := e1
    obtain ⟨ob, e6, E, rfl, e7⟩ := hm.at h8 e4
    obtain ⟨en, f1, f2, f3, f4, f5⟩ := g2 ρ E e7
    obtain ⟨en', f6, f7⟩ := g3 ρ E _ e7 e2 w
    rw [f1] at f6; injection f6 with f6; subst f6
    obtain ⟨f8, f9⟩ := f4 _ e2
    obtain ⟨r', ⟨j', en', f10, f11, rfl⟩, f12⟩ := h14 ρ E _ e7 e2 w
    rw [f7] at f12
    injection f12 with f12 _
    injection f12 with f12
    injection f12 with f12 f13
    have hset : E.set j { en with val := en.val } = E := by
      apply List.ext_getElem?
      intro i
      rw [List.getElem?_set]
      by_cases hi : j = i
      · subst hi; rw [if_pos rfl, if_pos (List.getElem?_eq_some_iff.1 f1).1, f1]
      · rw [if_neg hi]
    have f14 := f5 en.val (f13 ▸ f11)
    rw [hset] at f14
    have f15 : (((E.toArray[j]?).map (·.key)).getD (e K)) = en.key := by simp [f1]
    have f16 : ((E.toArray[j]?).map (fun x => (x.born : Int))).getD 0 = (b' : Int) := by simp [f1, f3]
    refine ⟨_, .tuple #[en.val, goInt b'], .value _, evo_set hm h8 e4 ⟨E, rfl, f14⟩, sment_ok ρ f2, run_v' ?_, .inl rfl⟩
    have f17 : E.set j en = E := hset
    rw [e5]
    simp only [Instr.mapEntry, Sem.run_bind, run_underlying hu, Result.andThen_ok, MapKept.run_getObj_map e6, Sem.run_pure, h12 ρ _ e2 w 9999 _ (by omega), List.toList_toArray, f7, Instr.keyThatStays, f15, f9, if_true, modify_list f1, set_key f8, run_setMap e6, f16, f17]
  · obtain ⟨es', g1, g2⟩ := esend_ok _ _ _ _ _ h13
    have g4 := putK_ok _ _ _ _ (natK_ok (c := fun t => Tr.putK b m (.mp es' t) fun m => c _ m n d) g1)
    refine ⟨_, _, _, g4, SOk.bel (fun ρ w e d' ty pos af gd hm he => ?_) (fun hb => below_put hb (by rw [h8]; simp))⟩
    have e1 := h2 ρ e he
    have e2 := h4 ρ e he
    simp only [VR] at e1
    obtain ⟨a, k', e4, e5⟩ := e1
    obtain ⟨ob, e6, E, rfl, e7⟩ := hm.at h8 e4
    refine ⟨_, .tuple #[zv, goInt clk], .value _, evo_set hm h8 e4 ⟨_, rfl, g2 ρ E _ _ e7 e2 (hz2 ρ)⟩, sment_ok ρ (hz2 ρ), run_v' ?_, .inl rfl⟩
    rw [e5]
    simp only [Instr.mapEntry, Sem.run_bind, run_underlying hu, Result.andThen_ok, MapKept.run_getObj_map e6, Sem.run_pure, h12 ρ _ e2 w 9999 _ (by omega), List.toList_toArray, h14 ρ E _ e7 e2 w, hz1 w, run_setMap e6]
    simp
theorem stampK_ok : ∀ (es : ES) (s : Nat) (y : SV) (c : ES → Prop), ES.stampK es s y c → ∃ es' j, c es' ∧ ∀ ρ E, ESR ρ es E → ∃ e, E[j]? = some e ∧ E.findIdx? (fun e => e.born == s) = some j ∧ ∀ yv, VR ρ y yv → ESR ρ es' (E.set j { e with val := yv })
  | .nil, _, _, _, h => h.elim
  | .cons k v b es, s, y, c, h => by
    rcases bK_ok h with ⟨h1, h2⟩ | ⟨h1, h2⟩
    · have h1 := Nat.eq_of_beq_eq_true h1
      refine ⟨_, 0, h2, fun ρ E e => ?_⟩
      obtain ⟨e0, E', e1, e2, e3, e4, rfl⟩ := e
      exact ⟨e0, rfl, by simp [List.findIdx?_cons, e3, h1], fun yv ey => ⟨{ e0 with val := yv }, E', e1, ey, e3, e4, rfl⟩⟩
    · have h1 := beq_not.1 h1
      obtain ⟨es', j, g1, g2⟩ := stampK_ok es s y _ h2
      refine ⟨_, j + 1, g1, fun ρ E e => ?_⟩
      obtain ⟨e0, E', e1, e2, e3, e4, rfl⟩ := e
      obtain ⟨e, g3, g4, g5⟩ := g2 ρ E' e4
      exact ⟨e, by simpa using g3, by simp [List.findIdx?_cons, e3, h1, g4], fun yv ey => ⟨e0, _, e1, e2, e3, g5 yv ey, by simp⟩⟩
theorem s_mset {t : TypeId} {X S Y : Operand} {x s y : LX} (hx : lowX X = some x) (hs : lowX S = some s) (hy : lowX Y = some y) (h : sMset x s y fr m n d c) :
    ∃ v m' n', c v m' n' d ∧ SOk P fr (.entryStore t X S Y) m n v m' n' := by
  obtain ⟨u, h1, h2⟩ := evK_ok hx h
  obtain ⟨v, h3, h4⟩ := evK_ok hs h1
  obtain ⟨z, h5, h6⟩ := evK_ok hy h3
  obtain ⟨b, rfl, h7⟩ := onMap_ok h5
  obtain ⟨k, st, rfl, h7'⟩ := idxK_ok h7
  obtain ⟨ob, h8, h9⟩ := getK_ok _ _ _ h7'
  obtain ⟨es, clk, rfl, h10⟩ := onMp_ok h9
  obtain ⟨es', j, g1, g2⟩ := stampK_ok _ _ _ _ h10
  have g4 := putK_ok _ _ _ _ g1
  refine ⟨_, _, _, g4, SOk.bel (fun ρ w e d' ty pos af gd hm he => ?_) (fun hb => below_put hb (by rw [h8]; simp))⟩
  have e1 := h2 ρ e he
  have e2 := h4 ρ e he
  have e3 := h6 ρ e he
  simp only [VR] at e1 e2
  obtain ⟨a, k', e4, e5⟩ := e1
  obtain ⟨ob, e6, E, rfl, e7⟩ := hm.at h8 e4
  obtain ⟨en, f1, f2, f3⟩ := g2 ρ E e7
  refine ⟨_, undef, .skip, evo_set hm h8 e4 ⟨_, rfl, f3 _ e3⟩, undef_ok ρ, run_u ?_, .inr ⟨rfl, rfl⟩⟩
  have f4 : E.toArray.findIdx? (fun e => ((e.born : Int) == (st : Int))) = some j := by
    have f6 : (fun e : MapEntry => ((e.born : Int) == (st : Int))) = fun e => e.born == st := by
      funext e
      rw [Bool.eq_iff_iff, beq_iff_eq, beq_iff_eq]
      omega
    rw [List.findIdx?_toArray, f6, f2]
  have f5 : asInt (e S) = pure (st : Int) := by rw [e2]; rfl
  rw [e5]
  simp only [Instr.entryStore, Sem.run_bind, MapKept.run_getObj_map e6, Result.andThen_ok, f5, Sem.run_pure, f4, modify_list f1, run_setMap e6]
end
end Go.Ev
end
section
set_option linter.all false
set_option linter.unusedVariables false
set_option linter.unusedSimpArgs false
namespace Go.Ev
open Go
section
variable {P : Program} {fr : Fm} {m : Mem} {n : Pos} {d : LD} {c : SV → Mem → Pos → LD → Prop}

theorem run_delete {w w' : World} {X Y : Operand} {ts : Array TypeId} {e : Operand → Value} {d : Option Tmp} {ty : TypeId} {pos : String} {af : Array Edge} {gd : Option (Nat × Bool)} {v : Value}
    (h : (Builtin.delete_ ts ty #[e X, e Y]).run P w = .ok v w') : (execOp e ⟨d, .call ⟨.builtin .delete, #[X, Y], ts⟩, ty, pos, af, gd⟩).run P w = .ok (.value v) w' := by
  simp [execOp, resolve, invoke, builtin, h]
theorem run_copy {w w' : World} {X Y : Operand} {ts : Array TypeId} {e : Operand → Value} {d : Option Tmp} {ty : TypeId} {pos : String} {af : Array Edge} {gd : Option (Nat × Bool)} {v : Value}
    (h : (Builtin.copy_ ts ty #[e X, e Y]).run P w = .ok v w') : (execOp e ⟨d, .call ⟨.builtin .copy, #[X, Y], ts⟩, ty, pos, af, gd⟩).run P w = .ok (.value v) w' := by
  simp [execOp, resolve, invoke, builtin, h]
theorem run_clear {w w' : World} {X : Operand} {ts : Array TypeId} {e : Operand → Value} {d : Option Tmp} {ty : TypeId} {pos : String} {af : Array Edge} {gd : Option (Nat × Bool)} {v : Value}
    (h : (Builtin.clear_ ts ty #[e X]).run P w = .ok v w') : (execOp e ⟨d, .call ⟨.builtin .clear, #[X], ts⟩, ty, pos, af, gd⟩).run P w = .ok (.value v) w' := by
  simp [execOp, resolve, invoke, builtin, h]
theorem run_append {w w' : World} {X Y : Operand} {ts : Array TypeId} {e : Operand → Value} {d : Option Tmp} {ty : TypeId} {pos : String} {af : Array Edge} {gd : Option (Nat × Bool)} {v : Value}
    (h : (Builtin.append_ ts ty #[e X, e Y]).run P w = .ok v w') : (execOp e ⟨d, .call ⟨.builtin .append, #[X, Y], ts⟩, ty, pos, af, gd⟩).run P w = .ok (.value v) w' := by
  simp [execOp, resolve, invoke, builtin, h]

theorem del_path {F : SV → SV → Bool → Prop} {q : QT} (hs : ∀ (a b : SV) (c : Bool → Prop), eqT q a b c → ∃ r, c r ∧ F a b r) : ∀ (es : ES) (x : SV) (c : ES → Prop), ES.delK es q x c →
    (∃ j es', c es' ∧ Path F x es (some j) ∧ ∀ ρ E, ESR ρ es E → ESR ρ es' (E.eraseIdx j)) ∨ (c es ∧ Path F x es none)
  | .nil, x, c, h => .inr ⟨h, trivial⟩
  | .cons k v b es, x, c, h => by
    obtain ⟨r, h1, h2⟩ := hs x k _ h
    rcases bK_ok h1 with ⟨rfl, h3⟩ | ⟨rfl, h3⟩
    · refine .inl ⟨0, _, h3, h2, fun ρ E e => ?_⟩
      obtain ⟨e0, E', e1, e2, e3, e4, rfl⟩ := e
      exact e4
    · rcases del_path hs es x _ h3 with ⟨j, es', h4, h5, h6⟩ | ⟨h4, h5⟩
      · refine .inl ⟨j + 1, _, h4, ⟨h2, h5⟩, fun ρ E e => ?_⟩
        obtain ⟨e0, E', e1, e2, e3, e4, rfl⟩ := e
        exact ⟨e0, _, e1, e2, e3, h6 ρ E' e4, rfl⟩
      · exact .inr ⟨h4, h2, h5⟩
theorem esdel_ok {nn : Nat} {kt : TypeId} {q : QT} (hq : etT P nn kt = some q) (hn : nn ≤ 9999) {es : ES} {x : SV} {c : ES → Prop} (h : ES.delK es q x c) :
    (∃ j es', c es' ∧ (∀ ρ E, ESR ρ es E → ESR ρ es' (E.eraseIdx j)) ∧ ∀ ρ E xv, ESR ρ es E → VR ρ x xv → ∀ w, ∃ e, E[j]? = some e ∧ (Instr.findKey kt xv E).run P w = .ok (some (j, e.val)) w) ∨
    (c es ∧ ∀ ρ E xv, ESR ρ es E → VR ρ x xv → ∀ w, (Instr.findKey kt xv E).run P w = .ok none w) := by
  rcases keyCase hq with ⟨d, hd, hs⟩ | ⟨d, hd, hs, ha⟩
  · rcases del_path hs es x c h with ⟨j, es', h1, h2, h3⟩ | ⟨h1, h2⟩
    · refine .inl ⟨j, es', h1, h3, fun ρ E xv e ex w => ?_⟩
      obtain ⟨en, g1, g2⟩ := now_path es (some j) h2 ρ E xv e ex 0
      exact ⟨en, g1, by simp [Instr.findKey, run_underlying hd, g2]⟩
    · refine .inr ⟨h1, fun ρ E xv e ex w => ?_⟩
      have g2 := now_path es none h2 ρ E xv e ex 0
      simp only at g2
      simp [Instr.findKey, run_underlying hd, g2]
  · have hrun : ∀ ρ E xv, ESR ρ es E → VR ρ x xv → ∀ w, (Instr.findKey kt xv E).run P w = (Instr.findAsking kt xv E).run P w := fun ρ E xv e ex w => by
      cases es with
      | nil => simp only [ESR] at e; subst e; simp [Instr.findKey, run_underlying hd, Instr.findNow, Instr.findAsking]
      | cons k' v b r =>
        obtain ⟨e0, E', e1, e2, e3, e4, rfl⟩ := e
        obtain ⟨l, rfl⟩ := ha x k' _ h
        simp only [VR] at ex
        obtain ⟨xs, _, rfl⟩ := ex
        simp [Instr.findKey, run_underlying hd, Instr.findNow, hs]
    rcases del_path (eqT_ok nn kt q hq) es x c h with ⟨j, es', h1, h2, h3⟩ | ⟨h1, h2⟩
    · refine .inl ⟨j, es', h1, h3, fun ρ E xv e ex w => ?_⟩
      obtain ⟨en, g1, g2⟩ := ask_path hn es (some j) h2 ρ E xv e ex 0 w
      exact ⟨en, g1, by rw [hrun ρ E xv e ex w, g2]; simp⟩
    · refine .inr ⟨h1, fun ρ E xv e ex w => ?_⟩
      have g2 := ask_path hn es none h2 ρ E xv e ex 0 w
      simp only at g2
      rw [hrun ρ E xv e ex w, g2]
theorem s_mdel {t : TypeId} {ts : List TypeId} {q : QT} {X K : Operand} {x k : LX} (hq : keyT P t = some q) (hx : lowX X = some x) (hk : lowX K = some k) (h : sMdel q x k fr m n d c) :
    ∃ v m' n', c v m' n' d ∧ SOk P fr (.call ⟨.builtin .delete, #[X, K], (t :: ts).toArray⟩) m n v m' n' := by
  obtain ⟨kt, et, hu, hq⟩ := keyT_kt hq
  obtain ⟨u, h1, h2⟩ := evK_ok hx h
  obtain ⟨v, h3, h4⟩ := evK_ok hk h1
  cases u <;> first | exact h3.elim | skip
  · rename_i b
    obtain ⟨ob, h8, h9⟩ := getK_ok _ _ _ h3
    obtain ⟨es, clk, rfl, h10⟩ := onMp_ok h9
    obtain ⟨h11, h12⟩ := keyT_ok 5 kt q hq v _ h10
    rcases esdel_ok hq (by omega) h11 with ⟨j, es', g1, g2, g3⟩ | ⟨g1, g3⟩
    · have g4 := putK_ok _ _ _ _ g1
      refine ⟨_, _, _, g4, SOk.bel (fun ρ w e d' ty pos af gd hm he => ?_) (fun hb => below_put hb (by rw [h8]; simp))⟩
      have e1 := h2 ρ e he
      have e2 := h4 ρ e he
      simp only [VR] at e1
      obtain ⟨a, k', e4, e5⟩ := e1
      obtain ⟨ob, e6, E, rfl, e7⟩ := hm.at h8 e4
      obtain ⟨en, f1, f2⟩ := g3 ρ E _ e7 e2 w
      refine ⟨_, undef, .value undef, evo_set hm h8 e4 ⟨_, rfl, g2 ρ E e7⟩, undef_ok ρ, run_delete ?_, .inl rfl⟩
      rw [e5]
      have hj := (List.getElem?_eq_some_iff.1 f1).1
      have f3 : E.toArray.eraseIdxIfInBounds j = (E.eraseIdx j).toArray := by simp [Array.eraseIdxIfInBounds, hj]
      simp [Builtin.delete_, run_underlying hu, MapKept.run_getObj_map e6, h12 ρ _ e2 w 9999 _ (by omega), f2, f3, run_setMap e6, undef]
    · have g4 := putK_ok _ _ _ _ g1
      refine ⟨_, _, _, g4, SOk.bel (fun ρ w e d' ty pos af gd hm he => ?_) (fun hb => below_put hb (by rw [h8]; simp))⟩
      have e1 := h2 ρ e he
      have e2 := h4 ρ e he
      simp only [VR] at e1
      obtain ⟨a, k', e4, e5⟩ := e1
      obtain ⟨ob, e6, E, rfl, e7⟩ := hm.at h8 e4
      refine ⟨_, undef, .value undef, evo_set hm h8 e4 ⟨E, rfl, e7⟩, undef_ok ρ, run_delete ?_, .inl rfl⟩
      rw [e5]
      simp [Builtin.delete_, run_underlying hu, MapKept.run_getObj_map e6, h12 ρ _ e2 w 9999 _ (by omega), g3 ρ E _ e7 e2 w, run_setMap e6, undef]
  · obtain ⟨h11, h12⟩ := keyT_ok 5 kt q hq v _ h3
    refine ⟨_, _, _, h11, SOk.bel (fun ρ w e d' ty pos af gd hm he => ?_) id⟩
    have e1 := h2 ρ e he
    have e2 := h4 ρ e he
    simp only [VR] at e1
    refine ⟨w, undef, .value undef, .refl hm, undef_ok ρ, run_delete ?_, .inl rfl⟩
    rw [e1]
    simp [Builtin.delete_, run_underlying hu, h12 ρ _ e2 w 9999 _ (by omega), undef]
/-- A block is made by an operation with effects. -/
theorem SOk.new {op : Op} {ob : SO} {v : SV} (h : ∀ ρ w e d ty pos af gd, Rel P ρ n m w → EvR ρ fr e → ∃ (k : Nat) (real : Obj) (dr : Nat) (x : Value), w.drawn ≤ dr ∧ OR P (upd ρ n (w.heap.size, k)) k ob real ∧ VR (upd ρ n (w.heap.size, k)) v x ∧
    (execOp e ⟨d, op, ty, pos, af, gd⟩).run P w = .ok (.value x) { w with heap := w.heap.push real, drawn := dr }) : SOk P fr op m n v (Tr.put n m ob) n.succ :=
  ⟨by rw [Pos.nat_succ]; omega, below_new, fun ρ w e d ty pos af gd hm hf he => by
    obtain ⟨k, real, dr, x, h1, h2, h3, h4⟩ := h ρ w e d ty pos af gd hm he
    have h5 : ρ n = none := hf n (Nat.le_refl _) (by rw [Pos.nat_succ]; omega)
    exact ⟨_, _, x, _, evo_new hm h5 h1 h2, h3, h4, .inl rfl⟩⟩
theorem s_rng {t : TypeId} {X : Operand} {x : LX} {st : Bool} (ht : if st then P.underlying t = some .string else ∃ k e, P.underlying t = some (.map k e)) (hx : lowX X = some x) (h : sRng st x fr m n d c) :
    ∃ v m' n', c v m' n' d ∧ SOk P fr (.range t X) m n v m' n' := by
  obtain ⟨u, h1, h2⟩ := evK_ok hx h
  cases u <;> first | exact h1.elim | skip
  · rename_i l
    obtain ⟨rfl, h1⟩ := bK_t h1
    have ht : P.underlying t = some .string := ht
    have h3 := succK_ok _ _ (putK_ok _ _ _ _ h1)
    refine ⟨_, _, _, h3, SOk.new fun ρ w e d' ty pos af gd hm he => ?_⟩
    have e1 := h2 ρ e he
    simp only [VR] at e1
    refine ⟨0, .stringIter (bts l) 0, w.drawn, .pointer (some ⟨w.heap.size, 0, none⟩), Nat.le_refl _, ⟨rfl, e1.2⟩, by simp only [VR]; exact ⟨_, _, upd_same, rfl⟩, run_v' ?_⟩
    simp [Instr.range, run_underlying ht, e1.1, Sem.run, newObj]
  · rename_i b
    obtain ⟨rfl, h1⟩ := bK_f h1
    obtain ⟨k, et, ht⟩ : ∃ k e, P.underlying t = some (.map k e) := ht
    obtain ⟨ob, h8, h9⟩ := getK_ok _ _ _ h1
    obtain ⟨es, clk, rfl, h10⟩ := onMp_ok h9
    have h3 := succK_ok _ _ (putK_ok _ _ _ _ h10)
    refine ⟨_, _, _, h3, ⟨by rw [Pos.nat_succ]; omega, below_new, fun ρ w e d' ty pos af gd hm hf he => ?_⟩⟩
    have e1 := h2 ρ e he
    simp only [VR] at e1
    obtain ⟨a, k', e4, e5⟩ := e1
    obtain ⟨ob, e6, E, rfl, e7⟩ := hm.at h8 e4
    have h5 : ρ n = none := hf n (Nat.le_refl _) (by rw [Pos.nat_succ]; omega)
    refine ⟨_, _, .pointer (some ⟨w.heap.size, 0, none⟩), _, evo_new (k := 0) (real := .mapIter (some a) clk #[] clk) hm h5 (Nat.le_refl _) ⟨a, k', upd_ext h5 _ _ e4, rfl⟩, by simp only [VR]; exact ⟨_, _, upd_same, rfl⟩, run_v' ?_, .inl rfl⟩
    simp [Instr.range, run_underlying ht, e5, MapKept.run_getObj_map e6, Sem.run, newObj]
  · obtain ⟨rfl, h1⟩ := bK_f h1
    obtain ⟨k, et, ht⟩ : ∃ k e, P.underlying t = some (.map k e) := ht
    have h3 := succK_ok _ _ (putK_ok _ _ _ _ h1)
    refine ⟨_, _, _, h3, SOk.new fun ρ w e d' ty pos af gd hm he => ?_⟩
    have e1 := h2 ρ e he
    simp only [VR] at e1
    refine ⟨0, .mapIter none 0 #[] 0, w.drawn, .pointer (some ⟨w.heap.size, 0, none⟩), Nat.le_refl _, ⟨_, _, _, rfl⟩, by simp only [VR]; exact ⟨_, _, upd_same, rfl⟩, run_v' ?_⟩
    simp [Instr.range, run_underlying ht, e1, Sem.run, newObj]
/-- The cells that a slice or a text shows. -/
theorem srcK_ok {v : SV} {z : Nat} {c : SV → Nat → Prop} (h : srcK v m z c) : ∃ r k, c r k ∧ ∀ ρ n w x, Rel P ρ n m w → VR ρ v x → ∃ xs : List Value, LV ρ r xs ∧ (∀ y ∈ xs, One y) ∧ xs.length = k * z ∧ (∀ w, (Builtin.lenOf x).run P w = .ok k w) ∧
    ∀ j, j ≤ k → ∀ w' : World, w'.heap = w.heap → (Builtin.firstCells z j x).run P w' = .ok (xs.take (j * z)).toArray w' := by
  cases v <;> first | exact h.elim | skip
  · rename_i l
    obtain ⟨h1, h2⟩ := bK_t h
    have h1 := Nat.eq_of_beq_eq_true h1
    subst h1
    obtain ⟨r, h3, h4⟩ := intsK_ok l _ h2
    have h5 := tlenK_ok l 0 _ h3
    rw [Nat.zero_add] at h5
    refine ⟨r, _, h5, fun ρ n w x hm e => ?_⟩
    simp only [VR] at e
    obtain ⟨rfl, hb⟩ := e
    refine ⟨_, h4 hb ρ, fun y hy => by obtain ⟨a, _, rfl⟩ := List.mem_map.1 hy; trivial, by simp, fun w => by simp [Builtin.lenOf, bts_size], fun j hj w' hw' => ?_⟩
    have h6 : ((bts l).extract 0 j).data.map (fun b => Value.int .u8 b.toNat) = ((bts l).data.map fun b => Value.int .u8 b.toNat).extract 0 j := by simp [ByteArray.data_extract]
    simp only [Builtin.firstCells, h6, bts_ints l hb, Nat.mul_one, Sem.run_pure]
    congr 1
    simp
  · rename_i b o k q
    obtain ⟨ob, h3, h4⟩ := getK_ok _ _ _ h
    obtain ⟨l, h5, h6⟩ := onRow_ok h4
    obtain ⟨r, h7, h8⟩ := rangeK_ok h5
    obtain ⟨h9, h10⟩ := onesK_ok _ _ h7
    refine ⟨r, k, h9, fun ρ n w x hm e => ?_⟩
    have e1 : ∃ a k' q', ρ b = some (a, k') ∧ x = .slice (some ⟨a, o, none⟩) k q' := by
      cases q <;> simp only [VR] at e <;> obtain ⟨a, k', g1, rfl⟩ := e <;> exact ⟨_, _, _, g1, rfl⟩
    obtain ⟨a, k', q', e2, rfl⟩ := e1
    obtain ⟨l', hl', vs, zs, T, f, g1, g2, _⟩ := hm.row (c := fun r => r = l) h3 e2 (by rcases h6 with rfl | ⟨z, rfl⟩ <;> rfl)
    subst hl'
    obtain ⟨g3, g4⟩ := h8 ρ vs g2
    have hkz : Nat.mul k z = k * z := rfl
    rw [hkz] at g3 g4
    refine ⟨_, g3, h10 ρ _ g3, by simp; omega, fun _ => rfl, fun j hj w' hw' => ?_⟩
    have hjz : j * z ≤ k * z := Nat.mul_le_mul_right z hj
    have g5 := run_loadRow (P := P) (w := w') (o := o) (k := j * z) (hw' ▸ g1) (by rw [List.length_append]; omega)
    simp only [Builtin.firstCells, g5]
    congr 2
    rw [List.take_take, Nat.min_eq_left hjz, List.drop_append_of_le_length (by omega), List.take_append_of_le_length (by rw [List.length_drop]; omega)]
  · refine ⟨_, _, h, fun ρ n w x hm e => ?_⟩
    simp only [VR] at e
    obtain ⟨a, k', o, _, rfl⟩ := e
    refine ⟨[], LV_nil.2 rfl, by simp, by simp, fun _ => rfl, fun j hj w' hw' => ?_⟩
    obtain rfl : j = 0 := by omega
    simp [Builtin.firstCells, loadCells, loadCellsFrom]
  · refine ⟨_, _, h, fun ρ n w x hm e => ?_⟩
    simp only [VR] at e
    subst e
    exact ⟨[], LV_nil.2 rfl, by simp, by simp, fun _ => rfl, fun j hj w' hw' => by simp [Builtin.firstCells]⟩
theorem elSz {t : TypeId} {z : Nat} (h : (elT P t).bind (szT P) = some z) : ∃ e, P.underlying t = some (.slice e) ∧ szT P e = some z := by
  cases h1 : elT P t with
  | none => rw [h1] at h; cases h
  | some e => rw [h1] at h; exact ⟨e, elT_u h1, h⟩
theorem s_cpy {t : TypeId} {ts : List TypeId} {z : Nat} {X Y : Operand} {x y : LX} (ht : (elT P t).bind (szT P) = some z) (hx : lowX X = some x) (hy : lowX Y = some y) (h : sCpy z x y fr m n d c) :
    ∃ v m' n', c v m' n' d ∧ SOk P fr (.call ⟨.builtin .copy, #[X, Y], (t :: ts).toArray⟩) m n v m' n' := by
  obtain ⟨el, hu, hz⟩ := elSz ht
  obtain ⟨u, h1, h2⟩ := evK_ok hx h
  obtain ⟨v, h3, h4⟩ := evK_ok hy h1
  obtain ⟨r, k, h5, h6⟩ := srcK_ok h3
  have hres : ∀ (ρ : Env) (j : Nat), VR ρ (.int .i64 (.ofNat j)) (goInt j) := fun ρ j => by simp only [VR]; rfl
  have zero : ∀ w ρ e ty (cap : Nat) (a : Option Addr), Rel P ρ n m w → EvR ρ fr e → e X = .slice a 0 cap → (Builtin.copy_ (t :: ts).toArray ty #[e X, e Y]).run P w = .ok (goInt 0) w := fun w ρ e ty cap a hm he hX => by
    obtain ⟨xs, g1, g2, g3, g4, g5⟩ := h6 ρ n w _ hm (h4 ρ e he)
    have g6 := g5 0 (Nat.zero_le _) w rfl
    rw [hX]
    cases a <;> simp [Builtin.copy_, run_underlying hu, g4, szT_run hz w, g6, storeCells]
  cases u <;> first | exact h5.elim | skip
  · rename_i b o l q
    have h7 := natK_ok (c := fun k' => Tr.getK b m fun ob => SO.onSet (fun l mk => takeK (Nat.mul k' z) r fun r => setK o r l fun l => Tr.putK b m (mk l) fun m => c (.int .i64 (.ofNat k')) m n d) ob) h5
    obtain ⟨ob, h8, h9⟩ := getK_ok _ _ _ h7
    obtain ⟨cs, mk, h10, h11⟩ := onSet_ok h9
    obtain ⟨r1, h12, h13⟩ := takeK_ok _ _ _ h10
    obtain ⟨r2, h14, h15⟩ := setK_ok _ _ _ _ h12
    have h16 := putK_ok _ _ _ _ h14
    refine ⟨_, _, _, h16, SOk.bel (fun ρ w e d' ty pos af gd hm he => ?_) (fun hb => below_put hb (by rw [h8]; simp))⟩
    have e1 : ∃ a k' q', ρ b = some (a, k') ∧ e X = .slice (some ⟨a, o, none⟩) l q' := by
      have e0 := h2 ρ e he
      cases q <;> simp only [VR] at e0 <;> obtain ⟨a, k', g1, g2⟩ := e0 <;> exact ⟨_, _, _, g1, g2⟩
    obtain ⟨a, k', q', e2, e3⟩ := e1
    obtain ⟨xs, g1, g2, g3, g4, g5⟩ := h6 ρ n w _ hm (h4 ρ e he)
    have g6 := g5 (Nat.min k l) (Nat.min_le_left _ _) w rfl
    obtain ⟨g7, g8⟩ := h13 ρ xs g1
    obtain ⟨w', g9, g10⟩ := row_store hm h8 h11 e2 h15 g7 (fun y hy => g2 y (List.mem_of_mem_take hy))
    refine ⟨w', _, .value _, g10, hres ρ (Nat.min k l), run_copy ?_, .inl rfl⟩
    rw [e3]
    simp only [Builtin.copy_, List.getElem?_toArray, List.getElem?_cons_zero, Array.getElem?_eq_getElem, run_underlying hu, Sem.run_bind, Result.andThen_ok, g4, szT_run hz w, g6]
    have g11 : Nat.mul (Nat.min k l) z = Nat.min k l * z := rfl
    rw [g11] at g9
    simp [run_underlying hu, g4, szT_run hz w, g6, g9]
  · refine ⟨_, _, _, h5, SOk.bel (fun ρ w e d' ty pos af gd hm he => ?_) id⟩
    have e0 := h2 ρ e he
    simp only [VR] at e0
    obtain ⟨a, k', o, g1, g2⟩ := e0
    exact ⟨w, _, .value _, .refl hm, hres ρ 0, run_copy (zero w ρ e ty _ _ hm he g2), .inl rfl⟩
  · refine ⟨_, _, _, h5, SOk.bel (fun ρ w e d' ty pos af gd hm he => ?_) id⟩
    have e0 := h2 ρ e he
    simp only [VR] at e0
    exact ⟨w, _, .value _, .refl hm, hres ρ 0, run_copy (zero w ρ e ty _ _ hm he e0), .inl rfl⟩
theorem s_clr {t : TypeId} {ts : List TypeId} {z : Nat} {zc : SV} {X : Operand} {x : LX} (ht : (elT P t).bind (szT P) = some z) (hz : (elT P t).bind (zcT P) = some zc) (hx : lowX X = some x) (h : sClr z zc x fr m n d c) :
    ∃ v m' n', c v m' n' d ∧ SOk P fr (.call ⟨.builtin .clear, #[X], (t :: ts).toArray⟩) m n v m' n' := by
  obtain ⟨el, hu, hs⟩ := elSz ht
  have he' : elT P t = some el := by unfold elT; rw [hu]
  rw [he', Option.bind_some] at hz
  obtain ⟨u, h1, h2⟩ := evK_ok hx h
  obtain ⟨zv, hz1, hz2⟩ := zcT_run hz
  cases u <;> first | exact h1.elim | skip
  · rename_i b o l q
    obtain ⟨ob, h8, h9⟩ := getK_ok _ _ _ h1
    obtain ⟨cs, mk, h10, h11⟩ := onSet_ok h9
    obtain ⟨r1, h12, h13⟩ := repK_ok _ _ _ h10
    obtain ⟨h14, h15⟩ := onesK_ok _ _ h12
    obtain ⟨r2, h16, h17⟩ := setK_ok _ _ _ _ h14
    have h18 := putK_ok _ _ _ _ h16
    refine ⟨_, _, _, h18, SOk.bel (fun ρ w e d' ty pos af gd hm he => ?_) (fun hb => below_put hb (by rw [h8]; simp))⟩
    have e1 : ∃ a k' q', ρ b = some (a, k') ∧ e X = .slice (some ⟨a, o, none⟩) l q' := by
      have e0 := h2 ρ e he
      cases q <;> simp only [VR] at e0 <;> obtain ⟨a, k', g1, g2⟩ := e0 <;> exact ⟨_, _, _, g1, g2⟩
    obtain ⟨a, k', q', e2, e3⟩ := e1
    have g1 := h13 ρ _ (hz2 ρ)
    obtain ⟨w', g9, g10⟩ := row_store hm h8 h11 e2 h17 g1 (h15 ρ _ g1)
    refine ⟨w', undef, .value _, g10, undef_ok ρ, run_clear ?_, .inl rfl⟩
    rw [e3]
    have g2 : Builtin.zeroCells zv.cells l = (List.replicate l zv.cells.toList).flatten.toArray := zeros_eq zv.cells l
    by_cases hl : l = 0
    · subst hl
      simp only [List.replicate_zero, List.flatten_nil, storeCells, Sem.run_pure] at g9
      injection g9 with _ g9
      subst g9
      simp [Builtin.clear_, run_underlying hu, undef]
    · obtain ⟨l, rfl⟩ : ∃ l', l = l' + 1 := ⟨l - 1, by omega⟩
      simp [Builtin.clear_, run_underlying hu, hz1 w, g2, g9, undef]
  · refine ⟨_, _, _, h1, SOk.bel (fun ρ w e d' ty pos af gd hm he => ?_) id⟩
    have e0 := h2 ρ e he
    simp only [VR] at e0
    obtain ⟨a, k', o, g1, g2⟩ := e0
    refine ⟨w, undef, .value _, .refl hm, undef_ok ρ, run_clear ?_, .inl rfl⟩
    rw [g2]
    simp [Builtin.clear_, run_underlying hu, undef]
  · refine ⟨_, _, _, h1, SOk.bel (fun ρ w e d' ty pos af gd hm he => ?_) id⟩
    have e0 := h2 ρ e he
    simp only [VR] at e0
    refine ⟨w, undef, .value _, .refl hm, undef_ok ρ, run_clear ?_, .inl rfl⟩
    rw [e0]
    simp [Builtin.clear_, run_underlying hu, undef]
end
end Go.Ev
end
