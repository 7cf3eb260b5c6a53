/-
  The evaluator's soundness, twenty-seventh part: the next entry of a map, the next sign of a text. The evaluator's soundness, twenty-eighth part: an operation looks at the temporaries that it names alone. The evaluator's soundness, twenty-ninth part: operations with effects, carried out by the machine. The evaluator's soundness, thirtieth part: regions whose order is not drawn; orders that are drawn. The evaluator's soundness, thirty-first part: what is checked of a region whose order is drawn. The evaluator's soundness, thirty-second part: a region whose order is drawn: the evaluator is ahead, the machine comes behind. The evaluator's soundness, thirty-third part: a region whose order is drawn: the evaluator goes ahead. No condition.
-/
import Derived.Test.YtbfeggodaaojgaaGreatDoorBa06
set_option linter.all false
section
set_option linter.all false
set_option linter.unusedVariables false
set_option linter.unusedSimpArgs false
namespace Go.Ev
open Go

theorem memK_ok : ∀ (l : List Nat) (n : Nat) (c d : Prop), memK l n c d → (n ∈ l ∧ c) ∨ (n ∉ l ∧ d)
  | [], n, c, d, h => .inr ⟨by simp, h⟩
  | a :: l, n, c, d, h => by
    rcases bK_ok h with ⟨h1, h2⟩ | ⟨h1, h2⟩
    · exact .inl ⟨by rw [Nat.eq_of_beq_eq_true h1]; simp, h2⟩
    · have h3 := beq_not.1 h1
      rcases memK_ok l n c d h2 with ⟨h4, h5⟩ | ⟨h4, h5⟩
      · exact .inl ⟨by simp [h4], h5⟩
      · exact .inr ⟨by simp only [List.mem_cons, not_or]; exact ⟨fun e => h3 e.symm, h4⟩, h5⟩
theorem snocK_ok : ∀ (l : List Nat) (n : Nat) (c : List Nat → Prop), snocK l n c → c (l ++ [n])
  | [], _, _, h => h
  | a :: l, n, c, h => snocK_ok l n (fun r => c (a :: r)) h
def unseen (seen : List Nat) (e : MapEntry) : Bool := !seen.contains e.born
theorem anyLeft_ok : ∀ (es : ES) (seen : List Nat) (c d : Prop), anyLeft es seen c d → (c ∧ ∀ ρ E, ESR ρ es E → E.filter (unseen seen) ≠ []) ∨ (d ∧ ∀ ρ E, ESR ρ es E → E.filter (unseen seen) = [])
  | .nil, seen, c, d, h => .inr ⟨h, fun ρ E e => by have : E = [] := e; subst this; rfl⟩
  | .cons k v b r, seen, c, d, h => by
    rcases memK_ok seen b _ _ h with ⟨h1, h2⟩ | ⟨h1, h2⟩
    · have key : ∀ ρ E, ESR ρ (.cons k v b r) E → ∃ E', ESR ρ r E' ∧ E.filter (unseen seen) = E'.filter (unseen seen) := fun ρ E e => by
        obtain ⟨x, E', _, _, e3, e4, rfl⟩ := e
        exact ⟨E', e4, by rw [List.filter_cons]; simp [unseen, e3, h1]⟩
      rcases anyLeft_ok r seen c d h2 with ⟨h3, h4⟩ | ⟨h3, h4⟩
      · exact .inl ⟨h3, fun ρ E e => by obtain ⟨E', e1, e2⟩ := key ρ E e; rw [e2]; exact h4 ρ E' e1⟩
      · exact .inr ⟨h3, fun ρ E e => by obtain ⟨E', e1, e2⟩ := key ρ E e; rw [e2]; exact h4 ρ E' e1⟩
    · refine .inl ⟨h2, fun ρ E e => ?_⟩
      obtain ⟨x, E', _, _, e3, e4, rfl⟩ := e
      rw [List.filter_cons]
      simp [unseen, e3, h1]
theorem oldK_ok : ∀ (es : ES) (l : Nat) (c : Prop), oldK es l c → c ∧ ∀ ρ E, ESR ρ es E → ∀ e ∈ E, e.born < l
  | .nil, l, c, h => ⟨h, fun ρ E e => by have : E = [] := e; subst this; simp⟩
  | .cons k v b r, l, c, h => by
    obtain ⟨h1, h2⟩ := bK_t h
    obtain ⟨h3, h4⟩ := oldK_ok r l c h2
    refine ⟨h3, fun ρ E e y hy => ?_⟩
    obtain ⟨x, E', _, _, e3, e4, rfl⟩ := e
    rcases List.mem_cons.1 hy with rfl | hy
    · rw [e3]; exact blt_iff.1 h1
    · exact h4 ρ E' e4 y hy
theorem leftK_ok {C : SV → SV → Nat → Prop → Prop} (hc : ∀ k v b, C k v b False = False) : ∀ (es : ES) (seen : List Nat) (since : Nat) (d : Prop), ES.leftK false es seen since C d →
    ∀ ρ E, ESR ρ es E → ∀ e ∈ E, unseen seen e = true → e.born < since ∧ ∃ k v d', C k v e.born d' ∧ VR ρ k e.key ∧ VR ρ v e.val
  | .nil, seen, since, d, h => fun ρ E e => by have : E = [] := e; subst this; simp
  | .cons k v b r, seen, since, d, h => by
    intro ρ E e y hy hu
    obtain ⟨x, E', e1, e2, e3, e4, rfl⟩ := e
    rcases memK_ok seen b _ _ h with ⟨h1, h2⟩ | ⟨h1, h2⟩
    · rcases List.mem_cons.1 hy with rfl | hy
      · rw [unseen, e3] at hu; simp [h1] at hu
      · exact leftK_ok hc r seen since d h2 ρ E' e4 y hy hu
    · obtain ⟨h3, h4⟩ := bK_t h2
      rcases List.mem_cons.1 hy with rfl | hy
      · exact ⟨by rw [e3]; exact blt_iff.1 h3, k, v, _, by rw [e3]; exact h4, e1, e2⟩
      · refine leftK_ok hc r seen since d ?_ ρ E' e4 y hy hu
        refine Classical.byContradiction fun hno => ?_
        have h5 : C k v b (ES.leftK false r seen since C d) := h4
        rw [eq_false hno, hc] at h5
        exact h5
section
variable {P : Program}
theorem Evo.drew {ρ : Env} {n : Pos} {m : Mem} {w : World} (h : Rel P ρ n m w) {dr : Nat} (hd : w.drawn ≤ dr) : Evo P ρ n m w ρ n m { w with drawn := dr } :=
  ⟨.refl _, fun _ _ => rfl, h.drew dr, rfl, rfl, rfl, hd, Nat.le_refl _, fun _ _ _ => rfl, fun p a k hp hr => .inr ⟨p, k, hp, hr⟩⟩
theorem over_ok (ρ : Env) : VR ρ over (.tuple #[.bool false]) := by
  simp only [over, VR]
  exact ⟨[.bool false], LV_cons.2 ⟨_, _, by simp only [VR], LV_nil.2 rfl, rfl⟩, rfl⟩
theorem tup3_ok {ρ : Env} {a b c : SV} {x y z : Value} (h1 : VR ρ a x) (h2 : VR ρ b y) (h3 : VR ρ c z) : VR ρ (.tup (.cons a (.cons b (.cons c .nil)))) (.tuple #[x, y, z]) := by
  simp only [VR]
  exact ⟨[x, y, z], LV_cons.2 ⟨_, _, h1, LV_cons.2 ⟨_, _, h2, LV_cons.2 ⟨_, _, h3, LV_nil.2 rfl, rfl⟩, rfl⟩, rfl⟩, rfl⟩
theorem run_getO {w : World} {a : Nat} {ob : Obj} (h : w.heap[a]? = some ob) (hn : ∀ c e f, ob ≠ .cells c e f) : (getObj a).run P w = .ok ob w := by
  cases ob <;> first | exact absurd rfl (hn _ _ _) | simp [getObj, Sem.run, h]
theorem run_setO {w : World} {a : Nat} {ob : Obj} (o : Obj) (h : w.heap[a]? = some ob) (hn : ∀ c e f, ob ≠ .cells c e f) : (setObj a o).run P w = .ok () { w with heap := w.heap.setIfInBounds a o } := by
  cases ob <;> first | exact absurd rfl (hn _ _ _) | simp [setObj, Sem.run, h]
variable {fr : Fm} {m : Mem} {n : Pos}
theorem nxMap_ok {b p : Pos} {since last : Nat} {seen : List Nat} {C : SV → Mem → Prop → Prop} {d : Prop} (hC : ∀ v m, C v m False = False) (hb : Tr.get b m = some (.mit p since seen last)) (h : nxMap false b p since seen last m C d)
    {ρ : Env} {w : World} {T : TypeId} (hm : Rel P ρ n m w) {a k : Nat} (hr : ρ b = some (a, k)) :
    ∃ v m' d' w' x, C v m' d' ∧ Evo P ρ n m w ρ n m' w' ∧ VR ρ v x ∧ (Instr.next (.pointer (some ⟨a, 0, none⟩)) false T).run P w = .ok x w' := by
  obtain ⟨ob, h1, h2⟩ := getK_ok p m _ h
  obtain ⟨es, t, rfl, h3⟩ := onMp_ok h2
  obtain ⟨h4, h5⟩ := oldK_ok _ _ _ h3
  obtain ⟨oi, g1, g2⟩ := hm.at hb hr
  obtain ⟨am, km, g3, rfl⟩ := g2
  obtain ⟨om, g4, g5⟩ := hm.at h1 g3
  obtain ⟨E, rfl, g6⟩ := g5
  have hold := h5 ρ E g6
  have hguard : (!seen.toArray.isEmpty && !E.toArray.isEmpty && E.toArray.all (·.born ≥ last)) = false := by
    cases E with
    | nil => simp
    | cons e E =>
      have := hold e (by simp)
      simp [Nat.not_le.2 this]
  have hflt : (E.toArray.filter fun e => !seen.toArray.contains e.born) = (E.filter (unseen seen)).toArray := by
    have h0 : unseen seen = fun e => !decide (e.born ∈ seen) := by funext e; simp [unseen]
    rw [h0]; simp
  rcases anyLeft_ok _ _ _ _ h4 with ⟨h6, h7⟩ | ⟨h6, h7⟩
  · have hne := h7 ρ E g6
    have hC' : ∀ k v s, (snocK seen s fun seen => Tr.putK b m (.mit p since seen t) fun m => C (.tup (.cons (.bool true) (.cons k (.cons v .nil)))) m False) = False := fun k v s => by simp only [hC, f_putK, f_snocK]
    have hleft := leftK_ok (C := fun k v s d => snocK seen s fun seen => Tr.putK b m (.mit p since seen t) fun m => C (.tup (.cons (.bool true) (.cons k (.cons v .nil)))) m d) hC' es seen since d h6 ρ E g6
    generalize hL : E.filter (unseen seen) = L at hne hflt
    have hmem : ∀ e ∈ L, e ∈ E ∧ unseen seen e = true := fun e he => by rw [← hL] at he; exact List.mem_filter.1 he
    have hfo : (L.toArray.filter fun e => decide (e.born < since)) = L.toArray := by
      simp only [List.filter_toArray]
      congr 1
      rw [List.filter_eq_self]
      intro e he
      have := (hleft e (hmem e he).1 (hmem e he).2).1
      simpa using this
    have hfn : (L.toArray.filter fun e => decide (e.born ≥ since)) = #[] := by
      simp only [List.filter_toArray]
      have : L.filter (fun e => decide (e.born ≥ since)) = [] := by
        rw [List.filter_eq_nil_iff]
        intro e he
        have := (hleft e (hmem e he).1 (hmem e he).2).1
        simp; omega
      rw [this]
    have hsz : 0 < L.length := List.length_pos_iff.2 hne
    have hemp : L.toArray.isEmpty = false := by cases L with | nil => exact absurd rfl hne | cons _ _ => rfl
    have hch : ∃ (q : Nat) (dr : Nat), (choose (.mapNext L.length)).run P w = .ok q { w with drawn := dr } ∧ q < L.length ∧ w.drawn ≤ dr := by
      by_cases h1 : L.length ≤ 1
      · exact ⟨0, w.drawn, by simp [choose, Sem.run, Question.forced, h1], hsz, Nat.le_refl _⟩
      · exact ⟨_, _, by simp [choose, Sem.run, Question.forced, h1, Question.cut]; rfl, Nat.mod_lt _ hsz, Nat.le_succ _⟩
    obtain ⟨q, dr, c1, c2, c3⟩ := hch
    obtain ⟨he1, he2⟩ := hmem (L[q]) (by simp)
    obtain ⟨_, kk, vv, d', e1, e2, e3⟩ := hleft _ he1 he2
    have e4 := snocK_ok _ _ _ e1
    have e5 := putK_ok b m _ _ e4
    have hevo : Evo P ρ n m w ρ n (Tr.put b m (.mit p since (seen ++ [L[q].born]) t)) _ :=
      (Evo.drew hm c3).trans (evo_set (hm.drew dr) hb hr (ob' := .mit p since (seen ++ [L[q].born]) t) (real := .mapIter (some am) since (seen.toArray.push L[q].born) t) ⟨am, km, g3, by simp⟩) (Nat.le_refl _) (Nat.le_refl _)
    refine ⟨_, _, d', _, _, e5, hevo, tup3_ok (x := .bool true) (by simp only [VR]) e2 e3, ?_⟩
    have hg2 : (L.toArray.map some)[q]? = some (some L[q]) := by simp [c2]
    simp only [Instr.next, Sem.run_bind, run_getO g1 (by simp), Result.andThen_ok, run_getO g4 (by simp), hguard, Bool.false_eq_true, if_false, Sem.run_pure]
    rw [hflt, hfo, hfn]
    simp only [hemp, Bool.false_eq_true, if_false, Array.empty_append, Array.append_empty, Array.size_map, List.size_toArray, c1, Result.andThen_ok]
    rw [hg2]
    have g1' : ({ w with drawn := dr } : World).heap[a]? = some (.mapIter (some am) since seen.toArray last) := g1
    simp only [Sem.run_bind, run_setO _ g1' (by simp), Result.andThen_ok, Sem.run_pure]
  · have hnil := h7 ρ E g6
    refine ⟨_, m, d, w, _, h6, .refl hm, over_ok ρ, ?_⟩
    simp only [Instr.next, Sem.run_bind, run_getO g1 (by simp), Result.andThen_ok, run_getO g4 (by simp), hguard, Bool.false_eq_true, if_false, Sem.run_pure]
    rw [hflt, hnil]
    simp [choose, Sem.run, Question.forced]
theorem nxStr_ok {b : Pos} {s : List Nat} {p : Nat} {C : SV → Mem → Prop} (hb : Tr.get b m = some (.sit s p)) (h : nxStr b s p m C) :
    ∃ v m', C v m' ∧ ∀ {ρ : Env} {w : World} {T : TypeId} (hm : Rel P ρ n m w) {a k : Nat} (hr : ρ b = some (a, k)), ∃ w' x, Evo P ρ n m w ρ n m' w' ∧ VR ρ v x ∧ (Instr.next (.pointer (some ⟨a, 0, none⟩)) true T).run P w = .ok x w' := by
  have h1 := tlenK_ok _ _ _ h
  rcases bK_ok h1 with ⟨h2, h3⟩ | ⟨h2, h3⟩
  · obtain ⟨y, h4, h5⟩ := tnthK_ok _ _ _ h3
    obtain ⟨h6, h7⟩ := bK_t h5
    have h8 := natK_ok h7
    have h9 := putK_ok b m _ _ h8
    refine ⟨_, _, h9, fun {ρ w T} hm {a k} hr => ?_⟩
    obtain ⟨oi, g1, g2⟩ := hm.at hb hr
    obtain ⟨rfl, g3⟩ := g2
    have hlt : p < s.length := by have := blt_iff.1 h2; omega
    have hy : y < 128 := blt_iff.1 h6
    have hev := evo_set hm hb hr (ob' := .sit s (Nat.succ p)) (real := .stringIter (bts s) (p + 1)) ⟨rfl, g3⟩
    refine ⟨_, _, hev, tup3_ok (x := .bool true) (y := goInt p) (z := .int .i32 y) (by simp only [VR]) (by simp only [VR]; rfl) (by simp only [VR]; rfl), ?_⟩
    have hget : ((bts s).get! p).toNat = y := by
      have : (bts s).get! p = UInt8.ofNat y := by
        simp only [bts, ByteArray.get!]
        rw [getElem!_pos _ _ (by simpa using hlt)]
        simp only [List.getElem_toArray, List.getElem_map]
        have := List.getElem?_eq_some_iff.1 h4
        rw [this.2]
      rw [this]; simp; omega
    have hdec : Utf8.decode (bts s) p = (y, 1) := by simp [Utf8.decode, hget, hy]
    have hsz : (bts s).size = s.length := bts_size s
    simp only [Instr.next, Sem.run_bind, run_getO g1 (by simp), Result.andThen_ok, hsz, hlt, if_true, hdec, run_setO _ g1 (by simp), Sem.run_pure]
  · refine ⟨_, _, h3, fun {ρ w T} hm {a k} hr => ?_⟩
    obtain ⟨oi, g1, g2⟩ := hm.at hb hr
    obtain ⟨rfl, g3⟩ := g2
    have hlt : ¬ p < s.length := by have := blt_not.1 h2; omega
    refine ⟨w, _, .refl hm, over_ok ρ, ?_⟩
    have hsz : (bts s).size = s.length := bts_size s
    simp only [Instr.next, Sem.run_bind, run_getO g1 (by simp), Result.andThen_ok, hsz, hlt, if_false, Sem.run_pure]
theorem onIt_ok {C1 : Pos → Nat → List Nat → Nat → Prop} {C2 : List Nat → Nat → Prop} {C3 : Prop} {o : SO} (h : SO.onIt C1 C2 C3 o) :
    (∃ p a s l, o = .mit p a s l ∧ C1 p a s l) ∨ (∃ s p, o = .sit s p ∧ C2 s p) ∨ (o = .mi0 ∧ C3) := by
  cases o <;> first | exact h.elim | exact .inl ⟨_, _, _, _, rfl, h⟩ | exact .inr (.inl ⟨_, _, rfl, h⟩) | exact .inr (.inr ⟨rfl, h⟩)
theorem s_nxt {ld : LD} {X : Operand} {x : LX} {st : Bool} {C : SV → Mem → Pos → LD → Prop → Prop} {k : Prop} (hC : ∀ v m n ld, C v m n ld False = False) (hx : lowX X = some x) (h : sNxt false st x fr m n ld C k)
    {ρ : Env} {w : World} {e : Operand → Value} (d : Option Tmp) (ty : TypeId) (pos : String) (af : Array Edge) (gd : Option (Nat × Bool)) (hm : Rel P ρ n m w) (he : EvR ρ fr e) :
    ∃ v m' k' w' y, C v m' n ld k' ∧ Evo P ρ n m w ρ n m' w' ∧ VR ρ v y ∧ (execOp e ⟨d, .next X st, ty, pos, af, gd⟩).run P w = .ok (.value y) w' := by
  obtain ⟨v, h1, h2⟩ := evK_ok hx h
  obtain ⟨b, o, rfl, h3⟩ := onPtr_ok h1
  obtain ⟨h4, h5⟩ := bK_t h3
  have h6 := Nat.eq_of_beq_eq_true h4; subst h6
  obtain ⟨ob, h7, h8⟩ := getK_ok b m _ h5
  have e1 := h2 ρ e he
  simp only [VR] at e1
  obtain ⟨a, kk, e2, e3⟩ := e1
  have run : ∀ {y w'}, (Instr.next (.pointer (some ⟨a, 0, none⟩)) st ty).run P w = .ok y w' → (execOp e ⟨d, .next X st, ty, pos, af, gd⟩).run P w = .ok (.value y) w' := fun {y w'} h => run_v (by rw [e3]; exact h)
  rcases onIt_ok h8 with ⟨p, aa, s, l, rfl, h9⟩ | ⟨s, p, rfl, h9⟩ | ⟨rfl, h9⟩
  · obtain ⟨rfl, h10⟩ := bK_f h9
    obtain ⟨v, m', d', w', y, g1, g2, g3, g4⟩ := nxMap_ok (T := ty) (fun v m => hC v m n ld) h7 h10 hm e2
    exact ⟨v, m', d', w', y, g1, g2, g3, run g4⟩
  · obtain ⟨rfl, h10⟩ := bK_t h9
    obtain ⟨v, m', g1, g2⟩ := nxStr_ok (P := P) (n := n) h7 h10
    obtain ⟨w', y, g3, g4, g5⟩ := g2 (T := ty) hm e2
    exact ⟨v, m', k, w', y, g1, g3, g4, run g5⟩
  · obtain ⟨rfl, h10⟩ := bK_f h9
    obtain ⟨oi, g1, g2⟩ := hm.at h7 e2
    obtain ⟨since, seen, last, rfl⟩ := g2
    refine ⟨_, m, k, w, _, h10, .refl hm, over_ok ρ, run ?_⟩
    simp only [Instr.next, Sem.run_bind, run_getO g1 (by simp), Result.andThen_ok, Sem.run_pure]
end
end Go.Ev
end
section
set_option linter.all false
set_option linter.unusedVariables false
set_option linter.unusedSimpArgs false
namespace Go.Ev
open Go

theorem getK_mk {α : Type} : ∀ (p : Pos) (t : Tr α) (c : α → Prop) (v : α), Tr.get p t = some v → c v → Tr.getK p t c
  | .e, .leaf, _, _, e, _ => by cases e
  | .e, .nodeN _ _, _, _, e, _ => by cases e
  | .e, .nodeS _ v _, _, _, e, h => by injection e with e; subst e; exact h
  | .l _, .leaf, _, _, e, _ => by cases e
  | .l p, .nodeN l _, c, v, e, h => getK_mk p l c v e h
  | .l p, .nodeS l _ _, c, v, e, h => getK_mk p l c v e h
  | .r _, .leaf, _, _, e, _ => by cases e
  | .r p, .nodeN _ r, c, v, e, h => getK_mk p r c v e h
  | .r p, .nodeS _ _ r, c, v, e, h => getK_mk p r c v e h
theorem getK_eq {α : Type} {p : Pos} {t t' : Tr α} (h : Tr.get p t = Tr.get p t') (c : α → Prop) : Tr.getK p t c = Tr.getK p t' c :=
  propext ⟨fun hc => by obtain ⟨v, h1, h2⟩ := getK_ok p t c hc; exact getK_mk p t' c v (h ▸ h1) h2, fun hc => by obtain ⟨v, h1, h2⟩ := getK_ok p t' c hc; exact getK_mk p t c v (h ▸ h1) h2⟩
/-- Two frames agree on names. -/
def Agr (l : List Nat) (fr fr' : Fm) : Prop := ∀ p : Pos, p.nat ∈ l → Tr.get p fr = Tr.get p fr'
section
variable {fr fr' : Fm} {m : Mem} {n : Pos}
theorem Agr.left {l l' : List Nat} (h : Agr (l ++ l') fr fr') : Agr l fr fr' := fun p hp => h p (List.mem_append_left _ hp)
theorem Agr.right {l l' : List Nat} (h : Agr (l ++ l') fr fr') : Agr l' fr fr' := fun p hp => h p (List.mem_append_right _ hp)
theorem ec : ∀ {x : LX} (h : Agr x.nm fr fr') (c : SV → Prop), evK x fr c = evK x fr' c
  | .tmp p, h, c => getK_eq (h p (by simp [LX.nm])) c
  | .const v, h, c => rfl
theorem ecs : ∀ {l : LXs} (h : Agr l.nm fr fr') (c : SV → Prop), evsK l fr c = evsK l fr' c
  | .nil, h, c => rfl
  | .cons x r, h, c => by
    show evK x fr (fun v => evsK r fr fun r => c (.cons v r)) = evK x fr' (fun v => evsK r fr' fun r => c (.cons v r))
    simp only [ecs (l := r) h.right, ec (x := x) h.left]
theorem ecp : ∀ {l : LPs} (h : Agr l.nm fr fr') (z : SV) (c : SV → Prop), fillK l z fr c = fillK l z fr' c
  | .nil, h, z, c => rfl
  | .cons o k x r, h, z, c => by
    show evK x fr (fun v => cellsK v fun cs => lenIs cs k (setK o cs z fun z => fillK r z fr c)) = evK x fr' (fun v => cellsK v fun cs => lenIs cs k (setK o cs z fun z => fillK r z fr' c))
    simp only [ecp (l := r) h.right, ec (x := x) h.left]
theorem ecx : ∀ {x : OX} (h : Agr x.nm fr fr') (d : Nat) (c : Nat → Prop), oxK x d fr c = oxK x d fr' c
  | .no, h, d, c => rfl
  | .yes x, h, d, c => ec (x := x) h _
theorem slK_cut {t : SlT} {v : SV} {lo hi mx : OX} (h1 : Agr lo.nm fr fr') (h2 : Agr hi.nm fr fr') (h3 : Agr mx.nm fr fr') (c : SV → Prop) : slK t v lo hi mx fr m c = slK t v lo hi mx fr' m c := by
  have hk : ∀ z n q b o c, slKnown z n q b o lo hi mx fr c = slKnown z n q b o lo hi mx fr' c := fun z n q b o c => by simp only [slKnown, ecx h1, ecx h2, ecx h3]
  have hr : ∀ z n i b o c, slRest z n i b o lo hi mx fr c = slRest z n i b o lo hi mx fr' c := fun z n i b o c => by simp only [slRest, ecx h1, ecx h2, ecx h3]
  have hn : ∀ c, slNo lo hi mx fr c = slNo lo hi mx fr' c := fun c => by simp only [slNo, ecx h1, ecx h2, ecx h3]
  cases t with
  | str => show slStr v lo hi mx fr m c = slStr v lo hi mx fr' m c; simp only [slStr, ecx h1, ecx h2]
  | arr n z => show slArr n z v lo hi mx fr m c = slArr n z v lo hi mx fr' m c; simp only [slArr, hk]
  | sl z =>
    cases v with
    | slice b o n q =>
      cases q with
      | k q => exact hk _ _ _ _ _ _
      | r i => show heldK b o n z i m (slRest z n i b o lo hi mx fr c) = heldK b o n z i m (slRest z n i b o lo hi mx fr' c); rw [hr]
    | emp b i => show oxIs mx (slNo lo hi mx fr (c (.emp b i))) False = oxIs mx (slNo lo hi mx fr' (c (.emp b i))) False; rw [hn]
    | nils => exact hn _
    | _ => rfl
theorem qK_cut {o : LO} (h : Agr o.nm fr fr') (c : SV → Prop) : qK o fr m c = qK o fr' m c := by
  cases o with
  | mv x1 => show qMv x1 fr m c = qMv x1 fr' m c; simp only [qMv, ec (x := x1) h]
  | pick c1 x1 y1 => show qPick c1 x1 y1 fr m c = qPick c1 x1 y1 fr' m c; simp only [qPick, ec (x := c1) h.left, ec (x := x1) h.right.left, ec (x := y1) h.right.right]
  | chk x1 => show qChk x1 fr m c = qChk x1 fr' m c; simp only [qChk, ec (x := x1) h]
  | bin op1 x1 y1 => show qBin op1 x1 y1 fr m c = qBin op1 x1 y1 fr' m c; simp only [qBin, ec (x := x1) h.left, ec (x := y1) h.right]
  | eq t1 neg1 x1 y1 => show qEq t1 neg1 x1 y1 fr m c = qEq t1 neg1 x1 y1 fr' m c; simp only [qEq, ec (x := x1) h.left, ec (x := y1) h.right]
  | un op1 x1 => show qUn op1 x1 fr m c = qUn op1 x1 fr' m c; simp only [qUn, ec (x := x1) h]
  | conv k1 x1 => show qConv k1 x1 fr m c = qConv k1 x1 fr' m c; simp only [qConv, ec (x := x1) h]
  | sid x1 => show qSid x1 fr m c = qSid x1 fr' m c; simp only [qSid, ec (x := x1) h]
  | ifc t1 x1 => show qIfc t1 x1 fr m c = qIfc t1 x1 fr' m c; simp only [qIfc, ec (x := x1) h]
  | fun_ fn1 f1 c1 => show qFun fn1 f1 c1 fr m c = qFun fn1 f1 c1 fr' m c; simp only [qFun, ecs (l := f1) h.left, ecs (l := c1) h.right]
  | ext x1 i1 => show qExt x1 i1 fr m c = qExt x1 i1 fr' m c; simp only [qExt, ec (x := x1) h]
  | build z1 ps1 => show qBuild z1 ps1 fr m c = qBuild z1 ps1 fr' m c; simp only [qBuild, ecp (l := ps1) h]
  | fa o1 x1 => show qFa o1 x1 fr m c = qFa o1 x1 fr' m c; simp only [qFa, ec (x := x1) h]
  | fld o1 rd1 x1 => show qFld o1 rd1 x1 fr m c = qFld o1 rd1 x1 fr' m c; simp only [qFld, ec (x := x1) h]
  | ia t1 x1 i1 => show qIa t1 x1 i1 fr m c = qIa t1 x1 i1 fr' m c; simp only [qIa, ec (x := x1) h.left, ec (x := i1) h.right]
  | ix n1 z1 rd1 x1 i1 => show qIx n1 z1 rd1 x1 i1 fr m c = qIx n1 z1 rd1 x1 i1 fr' m c; simp only [qIx, ec (x := x1) h.left, ec (x := i1) h.right]
  | ixs x1 i1 => show qIxs x1 i1 fr m c = qIxs x1 i1 fr' m c; simp only [qIxs, ec (x := x1) h.left, ec (x := i1) h.right]
  | lens x1 => show qLens x1 fr m c = qLens x1 fr' m c; simp only [qLens, ec (x := x1) h]
  | lent x1 => show qLent x1 fr m c = qLent x1 fr' m c; simp only [qLent, ec (x := x1) h]
  | lenc n1 => rfl
  | capv x1 => show qCapv x1 fr m c = qCapv x1 fr' m c; simp only [qCapv, ec (x := x1) h]
  | mm mx1 x1 y1 => show qMm mx1 x1 y1 fr m c = qMm mx1 x1 y1 fr' m c; simp only [qMm, ec (x := x1) h.left, ec (x := y1) h.right]
  | arr n1 x1 => show qArr n1 x1 fr m c = qArr n1 x1 fr' m c; simp only [qArr, ec (x := x1) h]
  | load rd1 x1 => show qLoad rd1 x1 fr m c = qLoad rd1 x1 fr' m c; simp only [qLoad, ec (x := x1) h]
  | slc t1 x1 lo1 hi1 mx1 => show qSlc t1 x1 lo1 hi1 mx1 fr m c = qSlc t1 x1 lo1 hi1 mx1 fr' m c; simp only [qSlc, ec (x := x1) h.left, slK_cut h.right.left h.right.right.left h.right.right.right]
  | lkp t1 z1 ok1 x1 k1 => show qLkp t1 z1 ok1 x1 k1 fr m c = qLkp t1 z1 ok1 x1 k1 fr' m c; simp only [qLkp, ec (x := x1) h.left, ec (x := k1) h.right]
  | lenm x1 => show qLenm x1 fr m c = qLenm x1 fr' m c; simp only [qLenm, ec (x := x1) h]
  | txt x1 => show qTxt x1 fr m c = qTxt x1 fr' m c; simp only [qTxt, ec (x := x1) h]
  | ent x1 => show qEnt x1 fr m c = qEnt x1 fr' m c; simp only [qEnt, ec (x := x1) h]
  | alloc _ => rfl
  | box _ => rfl
  | bsl _ _ _ => rfl
  | mkm => rfl
  | mks _ _ _ _ _ => rfl
  | byts _ => rfl
  | store _ _ _ => rfl
  | mput _ _ _ _ => rfl
  | app _ _ _ _ => rfl
  | appz _ _ _ _ _ => rfl
  | cpy _ _ _ => rfl
  | clr _ _ _ => rfl
  | call _ _ => rfl
  | rng _ _ => rfl
  | nxt _ _ => rfl
  | ment _ _ _ _ => rfl
  | mset _ _ _ => rfl
  | mdel _ _ _ => rfl
  | rec_ => rfl
  | dfr _ _ => rfl
theorem aK_cut {o : LO} (h : Agr o.nm fr fr') (c : SO → SV → Prop) : aK o fr n c = aK o fr' n c := by
  cases o with
  | mv _ => rfl
  | pick _ _ _ => rfl
  | chk _ => rfl
  | bin _ _ _ => rfl
  | eq _ _ _ _ => rfl
  | un _ _ => rfl
  | conv _ _ => rfl
  | sid _ => rfl
  | ifc _ _ => rfl
  | fun_ _ _ _ => rfl
  | ext _ _ => rfl
  | build _ _ => rfl
  | fa _ _ => rfl
  | fld _ _ _ => rfl
  | ia _ _ _ => rfl
  | ix _ _ _ _ _ => rfl
  | ixs _ _ => rfl
  | lens _ => rfl
  | lent _ => rfl
  | lenc _ => rfl
  | capv _ => rfl
  | mm _ _ _ => rfl
  | arr _ _ => rfl
  | load _ _ => rfl
  | slc _ _ _ _ _ => rfl
  | lkp _ _ _ _ _ => rfl
  | lenm _ => rfl
  | txt _ => rfl
  | ent _ => rfl
  | alloc z1 => rfl
  | box x1 => show aBox x1 fr n c = aBox x1 fr' n c; simp only [aBox, ec (x := x1) h]
  | bsl n1 z1 ps1 => show aBsl n1 z1 ps1 fr n c = aBsl n1 z1 ps1 fr' n c; simp only [aBsl, ecp (l := ps1) h]
  | mkm => rfl
  | mks z1 b1 zc1 x1 y1 => show aMks z1 b1 zc1 x1 y1 fr n c = aMks z1 b1 zc1 x1 y1 fr' n c; simp only [aMks, ec (x := x1) h.left, ec (x := y1) h.right]
  | byts x1 => show aByts x1 fr n c = aByts x1 fr' n c; simp only [aByts, ec (x := x1) h]
  | store _ _ _ => rfl
  | mput _ _ _ _ => rfl
  | app _ _ _ _ => rfl
  | appz _ _ _ _ _ => rfl
  | cpy _ _ _ => rfl
  | clr _ _ _ => rfl
  | call _ _ => rfl
  | rng _ _ => rfl
  | nxt _ _ => rfl
  | ment _ _ _ _ => rfl
  | mset _ _ _ => rfl
  | mdel _ _ _ => rfl
  | rec_ => rfl
  | dfr _ _ => rfl
theorem sK_cut {fst : Bool} {cl : Cl} {rl : Rl} {cx : Cx} {o : LO} (h : Agr o.nm fr fr') {ld : LD} (c : SV → Mem → Pos → LD → Prop → Prop) (k0 : Prop) : sK fst cl rl cx o fr m n ld c k0 = sK fst cl rl cx o fr' m n ld c k0 := by
  cases o with
  | mv _ => rfl
  | pick _ _ _ => rfl
  | chk _ => rfl
  | bin _ _ _ => rfl
  | eq _ _ _ _ => rfl
  | un _ _ => rfl
  | conv _ _ => rfl
  | sid _ => rfl
  | ifc _ _ => rfl
  | fun_ _ _ _ => rfl
  | ext _ _ => rfl
  | build _ _ => rfl
  | fa _ _ => rfl
  | fld _ _ _ => rfl
  | ia _ _ _ => rfl
  | ix _ _ _ _ _ => rfl
  | ixs _ _ => rfl
  | lens _ => rfl
  | lent _ => rfl
  | lenc _ => rfl
  | capv _ => rfl
  | mm _ _ _ => rfl
  | arr _ _ => rfl
  | load _ _ => rfl
  | slc _ _ _ _ _ => rfl
  | lkp _ _ _ _ _ => rfl
  | lenm _ => rfl
  | txt _ => rfl
  | ent _ => rfl
  | alloc _ => rfl
  | box _ => rfl
  | bsl _ _ _ => rfl
  | mkm => rfl
  | mks _ _ _ _ _ => rfl
  | byts _ => rfl
  | store k1 x1 y1 => show up (sStore k1 x1 y1) fr m n ld c k0 = up (sStore k1 x1 y1) fr' m n ld c k0; simp only [sStore, up, ec (x := x1) h.left, ec (x := y1) h.right]
  | mput t1 x1 k1 y1 => show up (sMput t1 x1 k1 y1) fr m n ld c k0 = up (sMput t1 x1 k1 y1) fr' m n ld c k0; simp only [sMput, up, ec (x := x1) h.left, ec (x := k1) h.right.left, ec (x := y1) h.right.right]
  | app z1 b1 x1 y1 => show up (sApp z1 b1 x1 y1) fr m n ld c k0 = up (sApp z1 b1 x1 y1) fr' m n ld c k0; simp only [sApp, up, ec (x := x1) h.left, ec (x := y1) h.right]
  | appz z1 b1 zc1 x1 y1 => show up (sAppz z1 b1 zc1 x1 y1) fr m n ld c k0 = up (sAppz z1 b1 zc1 x1 y1) fr' m n ld c k0; simp only [sAppz, up, ec (x := x1) h.left, ec (x := y1) h.right]
  | cpy z1 x1 y1 => show up (sCpy z1 x1 y1) fr m n ld c k0 = up (sCpy z1 x1 y1) fr' m n ld c k0; simp only [sCpy, up, ec (x := x1) h.left, ec (x := y1) h.right]
  | clr z1 zc1 x1 => show up (sClr z1 zc1 x1) fr m n ld c k0 = up (sClr z1 zc1 x1) fr' m n ld c k0; simp only [sClr, up, ec (x := x1) h]
  | call f1 l1 => show sCall cl rl f1 l1 fr m n ld c k0 = sCall cl rl f1 l1 fr' m n ld c k0; simp only [sCall, ec (x := f1) h.left, ecs (l := l1) h.right]
  | rng st1 x1 => show up (sRng st1 x1) fr m n ld c k0 = up (sRng st1 x1) fr' m n ld c k0; simp only [sRng, up, ec (x := x1) h]
  | nxt st1 x1 => show sNxt fst st1 x1 fr m n ld c k0 = sNxt fst st1 x1 fr' m n ld c k0; simp only [sNxt, ec (x := x1) h]
  | ment t1 z1 x1 k1 => show up (sMent t1 z1 x1 k1) fr m n ld c k0 = up (sMent t1 z1 x1 k1) fr' m n ld c k0; simp only [sMent, up, ec (x := x1) h.left, ec (x := k1) h.right]
  | mset x1 s1 y1 => show up (sMset x1 s1 y1) fr m n ld c k0 = up (sMset x1 s1 y1) fr' m n ld c k0; simp only [sMset, up, ec (x := x1) h.left, ec (x := s1) h.right.left, ec (x := y1) h.right.right]
  | mdel t1 x1 k1 => show up (sMdel t1 x1 k1) fr m n ld c k0 = up (sMdel t1 x1 k1) fr' m n ld c k0; simp only [sMdel, up, ec (x := x1) h.left, ec (x := k1) h.right]
  | rec_ => rfl
  | dfr f1 l1 => show up (sDfr cx f1 l1) fr m n ld c k0 = up (sDfr cx f1 l1) fr' m n ld c k0; simp only [sDfr, up, ec (x := f1) h.left, ecs (l := l1) h.right]

/-- A frame with some names alone. -/
def cutF : List Nat → Fm → Fm
  | [], _ => .leaf
  | k :: l, fr => match Tr.get (Pos.of k) fr with
    | some v => Tr.put (Pos.of k) (cutF l fr) v
    | none => cutF l fr
theorem cut_get : ∀ (l : List Nat) (fr : Fm) (p : Pos), Tr.get p (cutF l fr) = if p.nat ∈ l then Tr.get p fr else none
  | [], fr, p => by simp [cutF, get_leaf]
  | k :: l, fr, p => by
    simp only [cutF]
    by_cases e : Pos.of k = p
    · have e1 : p.nat = k := by rw [← e, Pos.nat_of]
      subst e
      rw [if_pos (by simp [e1])]
      split
      · rename_i v hv; rw [get_put_same, hv]
      · rename_i hv; rw [cut_get l fr, hv]; split <;> rfl
    · have e1 : p.nat ≠ k := fun h => e (Pos.nat_inj (by rw [Pos.nat_of, h]))
      have e2 : (p.nat ∈ k :: l) = (p.nat ∈ l) := by simp [e1]
      simp only [e2]
      split
      · rename_i v hv; rw [get_put_ne _ _ _ _ e, cut_get l fr]
      · rw [cut_get l fr]
theorem cut_agr (l : List Nat) (fr : Fm) : Agr l fr (cutF l fr) := fun p hp => by rw [cut_get, if_pos hp]
theorem cut_sub {l : List Nat} {fr : Fm} {p : Pos} {v : SV} (h : Tr.get p (cutF l fr) = some v) : p.nat ∈ l ∧ Tr.get p fr = some v := by
  rw [cut_get] at h
  split at h
  · rename_i h1; exact ⟨h1, h⟩
  · cases h
end
end Go.Ev
end
section
set_option linter.all false
set_option linter.unusedVariables false
set_option linter.unusedSimpArgs false
namespace Go.Ev
open Go
section
variable {P : Program}

/-- Effects that need more than themselves: calls, walks over maps, what is deferred. -/
def restS : LO → Bool
  | .call .. | .nxt .. | .rec_ | .dfr .. => true
  | _ => false
theorem kd_s {lo : LO} (h : kd lo = .s) : selfS lo = true ∨ restS lo = true := by cases lo <;> first | (cases h; done) | exact .inl rfl | exact .inr rfl
theorem inv_s {op : Op} {lo : LO} (hl : lowO P op = some lo) (hk : restS lo = true) :
    (∃ F args tys f l, op = .call ⟨.value F, args, tys⟩ ∧ lo = .call f l ∧ lowX F = some f ∧ lowXs args.toList = some l) ∨ (∃ X st x, op = .next X st ∧ lo = .nxt st x ∧ lowX X = some x) ∨
    (∃ tys, op = .call ⟨.builtin .recover, #[], tys⟩ ∧ lo = .rec_) ∨ ∃ F args tys f l, op = .defer ⟨.value F, args, tys⟩ ∧ lo = .dfr f l ∧ lowX F = some f ∧ lowXs args.toList = some l := by
  cases op
  case call c0 =>
    obtain ⟨callee, args, argTypes⟩ := c0
    simp only [lowO] at hl
    unfold lowCall at hl
    dsimp only at hl
    split at hl
    · split at hl
      · rename_i f l hf hx; injection hl with hl; subst hl; exact .inl ⟨_, _, _, _, _, rfl, rfl, hf, hx⟩
      · cases hl
    · cases hl
    · rename_i b
      obtain ⟨args⟩ := args
      obtain ⟨tys⟩ := argTypes
      dsimp only at hl
      split at hl
      · exfalso; (try simp only [lowO, lowBin, lowCall, lowApp, lowLen, lowConv] at hl); (repeat' (first | (cases hl; done) | (injection hl with e; subst e; cases hk; done) | (obtain ⟨_, _, e⟩ := map_some hl; subst e; cases hk; done) | (obtain ⟨_, _, e⟩ := Option.bind_eq_some_iff.1 hl; clear hl; have hl := e; clear e; try simp only [lowLen, lowConv] at hl) | split at hl))
      · exfalso; (try simp only [lowO, lowBin, lowCall, lowApp, lowLen, lowConv] at hl); (repeat' (first | (cases hl; done) | (injection hl with e; subst e; cases hk; done) | (obtain ⟨_, _, e⟩ := map_some hl; subst e; cases hk; done) | (obtain ⟨_, _, e⟩ := Option.bind_eq_some_iff.1 hl; clear hl; have hl := e; clear e; try simp only [lowLen, lowConv] at hl) | split at hl))
      · exfalso; (try simp only [lowO, lowBin, lowCall, lowApp, lowLen, lowConv] at hl); (repeat' (first | (cases hl; done) | (injection hl with e; subst e; cases hk; done) | (obtain ⟨_, _, e⟩ := map_some hl; subst e; cases hk; done) | (obtain ⟨_, _, e⟩ := Option.bind_eq_some_iff.1 hl; clear hl; have hl := e; clear e; try simp only [lowLen, lowConv] at hl) | split at hl))
      · exfalso; (try simp only [lowO, lowBin, lowCall, lowApp, lowLen, lowConv] at hl); (repeat' (first | (cases hl; done) | (injection hl with e; subst e; cases hk; done) | (obtain ⟨_, _, e⟩ := map_some hl; subst e; cases hk; done) | (obtain ⟨_, _, e⟩ := Option.bind_eq_some_iff.1 hl; clear hl; have hl := e; clear e; try simp only [lowLen, lowConv] at hl) | split at hl))
      · exfalso; (try simp only [lowO, lowBin, lowCall, lowApp, lowLen, lowConv] at hl); (repeat' (first | (cases hl; done) | (injection hl with e; subst e; cases hk; done) | (obtain ⟨_, _, e⟩ := map_some hl; subst e; cases hk; done) | (obtain ⟨_, _, e⟩ := Option.bind_eq_some_iff.1 hl; clear hl; have hl := e; clear e; try simp only [lowLen, lowConv] at hl) | split at hl))
      · exfalso; (try simp only [lowO, lowBin, lowCall, lowApp, lowLen, lowConv] at hl); (repeat' (first | (cases hl; done) | (injection hl with e; subst e; cases hk; done) | (obtain ⟨_, _, e⟩ := map_some hl; subst e; cases hk; done) | (obtain ⟨_, _, e⟩ := Option.bind_eq_some_iff.1 hl; clear hl; have hl := e; clear e; try simp only [lowLen, lowConv] at hl) | split at hl))
      · exfalso; (try simp only [lowO, lowBin, lowCall, lowApp, lowLen, lowConv] at hl); (repeat' (first | (cases hl; done) | (injection hl with e; subst e; cases hk; done) | (obtain ⟨_, _, e⟩ := map_some hl; subst e; cases hk; done) | (obtain ⟨_, _, e⟩ := Option.bind_eq_some_iff.1 hl; clear hl; have hl := e; clear e; try simp only [lowLen, lowConv] at hl) | split at hl))
      · exfalso; (try simp only [lowO, lowBin, lowCall, lowApp, lowLen, lowConv] at hl); (repeat' (first | (cases hl; done) | (injection hl with e; subst e; cases hk; done) | (obtain ⟨_, _, e⟩ := map_some hl; subst e; cases hk; done) | (obtain ⟨_, _, e⟩ := Option.bind_eq_some_iff.1 hl; clear hl; have hl := e; clear e; try simp only [lowLen, lowConv] at hl) | split at hl))
      · injection hl with hl; subst hl; exact .inr (.inr (.inl ⟨_, rfl, rfl⟩))
      · cases hl
  case next X st => obtain ⟨a, hx, rfl⟩ := map_some hl; exact .inr (.inl ⟨_, _, _, rfl, rfl, hx⟩)
  case defer c0 =>
    obtain ⟨callee, args, argTypes⟩ := c0
    simp only [lowO] at hl
    split at hl
    · split at hl
      · rename_i f l hf hx
        injection hl with hl; subst hl
        exact .inr (.inr (.inr ⟨_, _, _, _, _, rfl, rfl, hf, hx⟩))
      · cases hl
    · cases hl
  case binOp f t x y u =>
    exfalso
    simp only [lowO] at hl
    split at hl
    · unfold lowBin at hl
      (try simp only [lowO, lowBin, lowCall, lowApp, lowLen, lowConv] at hl); (repeat' (first | (cases hl; done) | (injection hl with e; subst e; cases hk; done) | (obtain ⟨_, _, e⟩ := map_some hl; subst e; cases hk; done) | (obtain ⟨_, _, e⟩ := Option.bind_eq_some_iff.1 hl; clear hl; have hl := e; clear e; try simp only [lowLen, lowConv] at hl) | split at hl))
    · cases hl
  case makeFunc f l q => exfalso; cases f <;> (try simp only [lowO, lowBin, lowCall, lowApp, lowLen, lowConv] at hl); (repeat' (first | (cases hl; done) | (injection hl with e; subst e; cases hk; done) | (obtain ⟨_, _, e⟩ := map_some hl; subst e; cases hk; done) | (obtain ⟨_, _, e⟩ := Option.bind_eq_some_iff.1 hl; clear hl; have hl := e; clear e; try simp only [lowLen, lowConv] at hl) | split at hl))
  case makeMap t r => exfalso; cases r <;> (try simp only [lowO, lowBin, lowCall, lowApp, lowLen, lowConv] at hl); (repeat' (first | (cases hl; done) | (injection hl with e; subst e; cases hk; done) | (obtain ⟨_, _, e⟩ := map_some hl; subst e; cases hk; done) | (obtain ⟨_, _, e⟩ := Option.bind_eq_some_iff.1 hl; clear hl; have hl := e; clear e; try simp only [lowLen, lowConv] at hl) | split at hl))
  all_goals (exfalso; (try simp only [lowO, lowBin, lowCall, lowApp, lowLen, lowConv] at hl); (repeat' (first | (cases hl; done) | (injection hl with e; subst e; cases hk; done) | (obtain ⟨_, _, e⟩ := map_some hl; subst e; cases hk; done) | (obtain ⟨_, _, e⟩ := Option.bind_eq_some_iff.1 hl; clear hl; have hl := e; clear e; try simp only [lowLen, lowConv] at hl) | split at hl)))
theorem not_defer {op : Op} {lo : LO} (hl : lowO P op = some lo) (hk : selfS lo = true ∨ kd lo ≠ .s) : ∀ c, op ≠ .defer c := fun c e => by
  subst e
  simp only [lowO] at hl
  split at hl
  · split at hl
    · injection hl with hl; subst hl; rcases hk with hk | hk
      · cases hk
      · exact hk rfl
    · cases hl
  · cases hl

/-! Steps of the machine. -/
variable {b : Frame} {a : Act} {cs : List Frame} {w w' : World} {ops : Array Oper} {i : Nat} {rest : List Nat} {kk : List Item} {o : Oper}
theorem fin_at (hi : ops[i]? = some o) (a : Act) (v : Value) : (b.atR a (.inRegion ops (i :: rest) :: kk)).finish v = b.atR (a.put o.dst v) (.inRegion ops rest :: kk) := by
  rw [Frame.finish_atR, hi]; rfl
theorem st_val (hi : ops[i]? = some o) (hw : Region.wanted o (yielded ops a.tmps) = true) {nx : Next} {x : Value} (hr : (o.semAt b.roundOf a.eval).run P w = .ok nx w') (hn : nx = .value x ∨ nx = .skip ∧ x = undef) :
    step P (lone (b.atR a (.inRegion ops (i :: rest) :: kk)) cs w) = .next (lone (b.atR (a.put o.dst x) (.inRegion ops rest :: kk)) cs w') := by
  have hg := stepGR_op (P := P) (b := b) (k := kk) (cs := cs) (w := w) (rest := rest) hi hw
  refine step_lone_go ?_
  rw [hg, ← fin_at hi]
  rcases hn with rfl | ⟨rfl, rfl⟩ <;> simp [stepG.apply, hr]
theorem st_off (hi : ops[i]? = some o) (hw : Region.wanted o (yielded ops a.tmps) = false) :
    step P (lone (b.atR a (.inRegion ops (i :: rest) :: kk)) cs w) = .next (lone (b.atR (a.put o.dst undef) (.inRegion ops rest :: kk)) cs w) := by
  have := stepR_op_skip (P := P) (b := b) (a := a) (k := kk) (cs := cs) (w := w) (ops := ops) (i := i) (rest := rest) (by simp [hi, hw])
  rw [hi] at this; exact this
theorem st_dfr (hi : ops[i]? = some o) (hw : Region.wanted o (yielded ops a.tmps) = true) {d : Deferred} (hr : (o.semAt b.roundOf a.eval).run P w = .ok (.defer d) w') :
    step P (lone (b.atR a (.inRegion ops (i :: rest) :: kk)) cs w) = .next (lone (b.atR ({ a with defers := d :: a.defers }.put o.dst undef) (.inRegion ops rest :: kk)) cs w') := by
  have hg := stepGR_op (P := P) (b := b) (k := kk) (cs := cs) (w := w) (rest := rest) hi hw
  refine step_lone_go ?_
  have : ({ b.atR a (.inRegion ops (i :: rest) :: kk) with defers := d :: a.defers } : Frame).finish undef =
      b.atR ({ a with defers := d :: a.defers }.put o.dst undef) (.inRegion ops rest :: kk) := by
    have := Frame.finish_atR b { a with defers := d :: a.defers } ops i rest kk undef
    rw [hi] at this; exact this
  rw [hg]; simp only [stepG.apply, Sem.runT_eq, hr, GStep.bare_after]
  exact congrArg (fun fr => GStep.go { frame := fr, callers := cs, status := .running, dying := none } w') this
theorem st_enter (hi : ops[i]? = some o) (hw : Region.wanted o (yielded ops a.tmps) = true) {f : Nat} {args : Array Value} (hr : (o.semAt b.roundOf a.eval).run P w = .ok (.enter f args) w') :
    step P (lone (b.atR a (.inRegion ops (i :: rest) :: kk)) cs w) = .next (lone (Frame.enter P f args .normal) (b.atR a (.inRegion ops (i :: rest) :: kk) :: cs) w') := by
  have hg := stepGR_op (P := P) (b := b) (k := kk) (cs := cs) (w := w) (rest := rest) hi hw
  exact step_lone_go (by rw [hg]; simp [stepG.apply, hr, Frame.atR])
theorem st_round (hi : ops[i]? = some o) (hw : Region.wanted o (yielded ops a.tmps) = true) {l f : Nat} {tmps : Array Value} {as bo : Code} (hr : (o.semAt b.roundOf a.eval).run P w = .ok (.round l f tmps as bo) w') :
    step P (lone (b.atR a (.inRegion ops (i :: rest) :: kk)) cs w) = .next (lone (Frame.round l f tmps as bo .normal) (b.atR a (.inRegion ops (i :: rest) :: kk) :: cs) w') := by
  have hg := stepGR_op (P := P) (b := b) (k := kk) (cs := cs) (w := w) (rest := rest) hi hw
  exact step_lone_go (by rw [hg]; simp [stepG.apply, hr, Frame.atR])
theorem st_rec (hi : ops[i]? = some o) (hw : Region.wanted o (yielded ops a.tmps) = true) (hr : (o.semAt b.roundOf a.eval).run P w = .ok .recover w') (hb : b.roundOf = none) (hno : ∀ todo, tryRecover (b.atR a todo) cs = none) :
    step P (lone (b.atR a (.inRegion ops (i :: rest) :: kk)) cs w) = .next (lone (b.atR (a.put o.dst .nilIface) (.inRegion ops rest :: kk)) cs w') := by
  have hg := stepGR_op (P := P) (b := b) (k := kk) (cs := cs) (w := w) (rest := rest) hi hw
  refine step_lone_go ?_
  have h1 : (b.atR a (.inRegion ops (i :: rest) :: kk)).roundOf = none := hb
  rw [hg, ← fin_at hi]
  simp only [stepG.apply, Sem.runT_eq, hr, GStep.bare_after, h1, hno]
  rfl

/-- Where code runs. -/
def CxR (ρ : Env) : Cx → Frame → List Frame → Prop
  | .plain, b, _ => b.roundOf = none ∧ b.kind = .normal
  | .dfr, b, cs => b.roundOf = none ∧ b.kind = .deferred ∧ ∃ c cs', cs = c :: cs' ∧ c.mode = .returning
  | .round p, b, _ => b.kind = .normal ∧ ∃ l k, ρ p = some (l, k) ∧ b.roundOf = some l
theorem CxR.mono {ρ ρ' : Env} {cx : Cx} {b : Frame} {cs : List Frame} (h : CxR ρ cx b cs) (he : Ext ρ ρ') : CxR ρ' cx b cs := by
  cases cx with
  | plain => exact h
  | dfr => exact h
  | round p => obtain ⟨h1, l, k, h2, h3⟩ := h; exact ⟨h1, l, k, he _ _ h2, h3⟩
/-- A way to evaluate rounds is sound. -/
def RlOk (P : Program) (rl : Rl) : Prop := ∀ bp l m n (c : Co) k, (∀ v m n, c v m n False = False) → rl bp l m n c k → ∀ ρ w vs a j, Rel P ρ n m w → Fre ρ n → LV ρ l vs → ρ bp = some (a, j) →
  ∃ f tmps as bo, (Instr.yield a vs.toArray).run P w = .ok (.round a f tmps as bo) w ∧ ∀ c0 cs, ∃ v m' n' k' ρ' w' x, c v m' n' k' ∧ Gon P ρ n m w ρ' n' m' w' ∧ VR ρ' v x ∧
    Steps P (lone (Frame.round a f tmps as bo .normal) (c0 :: cs) w) (lone (c0.finish x) cs w')
theorem run_enter {f : Nat} (h : Ent P f) (args : Array Value) : (callFunc f args).run P w = .ok (.enter f args) w := by
  obtain ⟨fn, h1, h2, h3⟩ := h
  have h4 : fn.body ≠ none := fun hb => by rw [hb] at h2; cases h2
  have h5 : fn.name ≠ "runtime.NumGoroutine" := by simpa using h3
  simp [callFunc, program, Sem.run, h1, h5, h4]
theorem LV_func {ρ : Env} {fn : Nat} {g q : SV} {x : Value} (h : VR ρ (.func fn g q) x) : ∃ vs ws, LV ρ g vs ∧ LV ρ q ws ∧ x = .func (.func fn) vs.toArray ws.toArray := by simpa only [VR] using h
/-- What an effect does, and that the machine does it. -/
theorem ef_ok {cl : Cl} {rl : Rl} {cx : Cx} (hcl : ClOk P cl) (hrl : RlOk P rl) (fcl : FCl cl) (frl : FRl rl) {lo : LO} {fr : Fm} {m : Mem} {n : Pos} {ld : LD} {C : SV → Mem → Pos → LD → Prop → Prop} {k : Prop}
    (hl : lowO P o.op = some lo) (hk : kd lo = .s) (hC : ∀ v m n ld, C v m n ld False = False) (h : sK false cl rl cx lo fr m n ld C k) {ρ : Env} (hm : Rel P ρ n m w) (hf : Fre ρ n) (he : EvR ρ fr a.eval) (hd : LDR ρ ld a.defers)
    (hcx : CxR ρ cx b cs) (hi : ops[i]? = some o) (hw : Region.wanted o (yielded ops a.tmps) = true) :
    ∃ v m' n' ld' k' ρ' w' x D, C v m' n' ld' k' ∧ Gon P ρ n m w ρ' n' m' w' ∧ VR ρ' v x ∧ LDR ρ' ld' D ∧
      Steps P (lone (b.atR a (.inRegion ops (i :: rest) :: kk)) cs w) (lone (b.atR ({ a with defers := D }.put o.dst x) (.inRegion ops rest :: kk)) cs w') := by
  obtain ⟨dst, op, ty, pos, af, gd⟩ := o
  dsimp only at hl
  rcases kd_s hk with hs | hs
  · obtain ⟨v, m', n', h1, h2, h3, h4⟩ := s_self hl hs h
    obtain ⟨ρ', w', x, nx, g1, g2, g3, g4⟩ := h4 ρ w a.eval dst ty pos af gd hm hf.free he
    have hg := g1.gon h2 hf
    refine ⟨v, m', n', ld, k, ρ', w', x, a.defers, h1, hg, g2, hd.mono hg.ext, Steps.one (st_val hi hw ?_ g4)⟩
    rw [Oper.semAt_eq _ _ _ (not_defer hl (.inl hs))]; exact g3
  · rcases inv_s hl hs with ⟨F, args, tys, f, l, rfl, rfl, hF, hA⟩ | ⟨X, st, x, rfl, rfl, hx⟩ | ⟨tys, rfl, rfl⟩ | ⟨F, args, tys, f, l, rfl, rfl, hF, hA⟩
    · -- a call
      obtain ⟨v, h1, h2⟩ := evK_ok hF h
      obtain ⟨lv, h3, h4⟩ := evsK_ok _ _ _ _ hA h1
      have e1 := h2 ρ _ he
      have e2 := h4 ρ _ he
      have hno : ∀ c, (Op.call ⟨.value F, args, tys⟩) ≠ .defer c := fun c e => by cases e
      cases v with
      | func fn g q =>
        obtain ⟨vs, ws, e3, e4, e5⟩ := LV_func e1
        obtain ⟨l1, h5, h6⟩ := appK_ok _ _ _ h3
        obtain ⟨l2, h7, h8⟩ := appK_ok _ _ _ h5
        have e6 := h8 ρ _ _ e3 (h6 ρ _ _ e2 e4)
        obtain ⟨hent, hcall⟩ := hcl fn l2 m n (fun r m n k => C r m n ld k) k (fun v m n => hC v m n ld) h7 ρ w _ hm hf e6
        have hrun : (Oper.semAt b.roundOf a.eval ⟨dst, .call ⟨.value F, args, tys⟩, ty, pos, af, gd⟩).run P w = .ok (.enter fn (vs ++ (args.toList.map a.eval ++ ws)).toArray) w := by
          rw [Oper.semAt_eq _ _ _ hno]
          simp only [execOp, resolve, e5, Deferred.ofValue, invoke, Sem.run_bind, Sem.run_pure, Result.andThen_ok]
          rw [run_enter hent]
          congr 2
          apply Array.ext'
          simp
        obtain ⟨e, w', frx, hR, hsteps, hfn, hleave⟩ := hcall (b.atR a (.inRegion ops (i :: rest) :: kk) :: cs)
        obtain ⟨v', m', n', k', ρ', x, g1, rfl, g2, g3⟩ := hR
        refine ⟨v', m', n', ld, k', ρ', w', x, a.defers, g1, g2, g3, hd.mono g2.ext, ?_⟩
        refine Steps.trans (Steps.one (st_enter hi hw hrun)) (Steps.trans hsteps (Steps.one ?_))
        rw [step_leave_returned hleave, fin_at hi]
      | yld bp =>
        simp only [VR] at e1
        obtain ⟨aa, j, e3, e4⟩ := e1
        obtain ⟨f', tmps, as, bo, g1, g2⟩ := hrl bp lv m n (fun r m n k => C r m n ld k) k (fun v m n => hC v m n ld) h3 ρ w _ aa j hm hf e2 e3
        have hrun : (Oper.semAt b.roundOf a.eval ⟨dst, .call ⟨.value F, args, tys⟩, ty, pos, af, gd⟩).run P w = .ok (.round aa f' tmps as bo) w := by
          rw [Oper.semAt_eq _ _ _ hno]
          simp only [execOp, resolve, e4, Deferred.ofValue, invoke, Sem.run_bind, Sem.run_pure, Result.andThen_ok]
          rw [← g1]
          congr 2
          apply Array.ext'
          simp
        obtain ⟨v', m', n', k', ρ', w', x, g3, g4, g5, g6⟩ := g2 (b.atR a (.inRegion ops (i :: rest) :: kk)) cs
        refine ⟨v', m', n', ld, k', ρ', w', x, a.defers, g3, g4, g5, hd.mono g4.ext, ?_⟩
        rw [fin_at hi] at g6
        exact Steps.trans (Steps.one (st_round hi hw hrun)) g6
      | _ => exact h3.elim
    · -- the next entry
      obtain ⟨v, m', k', w', y, g1, g2, g3, g4⟩ := s_nxt hC hx h dst ty pos af gd hm he
      have hno : ∀ c, (Op.next X st) ≠ .defer c := fun c e => by cases e
      refine ⟨v, m', n, ld, k', ρ, w', y, a.defers, g1, g2.gon (Nat.le_refl _) hf, g3, hd, Steps.one (st_val hi hw (nx := .value y) ?_ (.inl rfl))⟩
      rw [Oper.semAt_eq _ _ _ hno]; exact g4
    · -- recover
      have hno : ∀ c, (Op.call ⟨.builtin .recover, #[], tys⟩) ≠ .defer c := fun c e => by cases e
      have hrun : (Oper.semAt b.roundOf a.eval ⟨dst, .call ⟨.builtin .recover, #[], tys⟩, ty, pos, af, gd⟩).run P w = .ok .recover w := by
        rw [Oper.semAt_eq _ _ _ hno]
        simp [execOp, resolve, invoke, builtin]
      have h1 : b.roundOf = none ∧ (∀ todo, tryRecover (b.atR a todo) cs = none) ∧ C .nili m n ld k := by
        cases cx with
        | plain => exact ⟨hcx.1, fun todo => by simp [tryRecover, Frame.atR, hcx.2], h⟩
        | dfr =>
          obtain ⟨q1, q2, c, cs', rfl, q3⟩ := hcx
          exact ⟨q1, fun todo => by simp [tryRecover, Frame.atR, q2, q3], h⟩
        | round bp => exact h.elim
      obtain ⟨q1, q2, q3⟩ := h1
      exact ⟨.nili, m, n, ld, k, ρ, w, .nilIface, a.defers, q3, .refl hm hf, by simp only [VR], hd, Steps.one (st_rec hi hw hrun q1 q2)⟩
    · -- defer
      obtain ⟨v, h1, h2⟩ := evK_ok hF h
      obtain ⟨lv, h3, h4⟩ := evsK_ok _ _ _ _ hA h1
      have e1 := h2 ρ _ he
      have e2 := h4 ρ _ he
      obtain ⟨fn, g, q, rfl, h5⟩ := onFunc_ok h3
      obtain ⟨vs, ws, e3, e4, e5⟩ := LV_func e1
      obtain ⟨l1, h6, h7⟩ := appK_ok _ _ _ h5
      obtain ⟨l2, h8, h9⟩ := appK_ok _ _ _ h6
      have e6 := h9 ρ _ _ e3 (h7 ρ _ _ e2 e4)
      have h10 : b.roundOf = none ∧ C undef_ m n (.call fn l2 ld) k := by
        cases cx with
        | plain => exact ⟨hcx.1, h8⟩
        | dfr => exact ⟨hcx.1, h8⟩
        | round bp => exact h8.elim
      obtain ⟨q1, q2⟩ := h10
      have hrun : (Oper.semAt b.roundOf a.eval ⟨dst, .defer ⟨.value F, args, tys⟩, ty, pos, af, gd⟩).run P w = .ok (.defer { target := .fn (.func fn) ws.toArray, args := (vs ++ args.toList.map a.eval).toArray }) w := by
        rw [q1, Oper.semAt_none]
        simp only [execOp, resolve, e5, Deferred.ofValue, Sem.run_bind, Sem.run_pure, Result.andThen_ok]
        congr 2
        congr 1
        apply Array.ext'
        simp
      refine ⟨undef_, m, n, .call fn l2 ld, k, ρ, w, undef, _, q2, .refl hm hf, undef_ok ρ, ?_, Steps.one (st_dfr hi hw hrun)⟩
      exact ⟨vs ++ args.toList.map a.eval, ws, a.defers, by rw [List.append_assoc]; exact e6, hd, rfl⟩
end
end Go.Ev
end
section
set_option linter.all false
set_option linter.unusedVariables false
set_option linter.unusedSimpArgs false
namespace Go.Ev
open Go

/-! The order that is drawn. -/
def Sched (ops : Array Oper) : List Nat → List Nat → Prop
  | dn, [] => ∀ i, i < ops.size → i ∈ dn
  | dn, i :: r => i < ops.size ∧ i ∉ dn ∧ (∀ o, ops[i]? = some o → ∀ e ∈ o.after, Region.binds .any e = true → e.on ∈ dn) ∧ Sched ops (i :: dn) r
theorem sched_go {ops : Array Oper} (hedge : ∀ i o, ops[i]? = some o → ∀ e ∈ o.after, Region.binds .any e = true → e.on < i) : ∀ (fuel t : Nat) (listed : Array Bool) (dn : List Nat), listed.size = ops.size →
    (∀ i, i < ops.size → (listed.getD i false = true ↔ i ∈ dn)) → ((List.range ops.size).filter fun i => !listed.getD i false).length ≤ fuel → Sched ops dn (Region.linearise.go .any ops fuel t listed [])
  | 0, t, listed, dn, hs, hd, hn => by
    simp only [Region.linearise.go, List.reverse_nil, Sched]
    intro i hi
    have h0 := List.eq_nil_of_length_eq_zero (Nat.le_zero.1 hn)
    rw [List.filter_eq_nil_iff] at h0
    have := h0 i (List.mem_range.2 hi)
    exact (hd i hi).1 (by simpa using this)
  | fuel + 1, t, listed, dn, hs, hd, hn => by
    simp only [Region.linearise.go]
    change Sched ops dn (match (Region.ready .any ops listed)[t % (Region.ready .any ops listed).length]? with
      | some i => Region.linearise.go .any ops fuel (t / (Region.ready .any ops listed).length) (listed.setIfInBounds i true) [i]
      | none => [].reverse)
    cases hi : (Region.ready .any ops listed)[t % (Region.ready .any ops listed).length]? with
    | none =>
      have hnil : Region.ready .any ops listed = [] := by
        cases hr : Region.ready .any ops listed with
        | nil => rfl
        | cons x xs =>
          rw [hr] at hi
          have hlt : t % (x :: xs).length < (x :: xs).length := Nat.mod_lt _ (by simp)
          simp at hi
          simp at hlt
          omega
      simp only [List.reverse_nil, Sched]
      have key : ∀ i, i < ops.size → listed.getD i false = true := fun i => by
        induction i using Nat.strongRecOn with
        | _ i ih =>
          intro hi
          cases hl : listed.getD i false with
          | true => rfl
          | false =>
            have : i ∈ Region.ready .any ops listed := mem_ready.2 ⟨by
              have hlt : i < listed.size := by omega
              simp [hlt] at hl ⊢; exact hl, ops[i], by simp [hi], fun e he hb => ih e.on (hedge i _ (by simp [hi]) e he hb) (by have := hedge i _ (by simp [hi]) e he hb; omega)⟩
            rw [hnil] at this; cases this
      exact fun i hi => (hd i hi).1 (key i hi)
    | some i =>
      simp only []
      rw [linearise_go_acc, List.reverse_singleton, List.singleton_append]
      obtain ⟨hun, o, ho, hall⟩ := mem_ready.1 (List.mem_of_getElem? hi)
      have hlt : i < ops.size := (Array.getElem?_eq_some_iff.1 ho).1
      have hlt' : i < listed.size := by omega
      have hun' : listed.getD i false = false := by simp [hlt'] at hun ⊢; exact hun
      refine ⟨hlt, fun h => ?_, fun o' ho' e he hb => ?_, ?_⟩
      · rw [(hd i hlt).2 h] at hun'; cases hun'
      · rw [ho] at ho'; injection ho' with ho'; subst ho'
        have h1 := hedge i o ho e he hb
        exact (hd e.on (by omega)).1 (hall e he hb)
      · refine sched_go hedge fuel _ _ _ (by simp [hs]) (fun j hj => ?_) ?_
        · by_cases e : i = j
          · subst e; simp [hlt']
          · simp only [Array.getD_eq_getD_getElem?, Array.getElem?_setIfInBounds_ne e, List.mem_cons]
            have := hd j hj
            simp only [Array.getD_eq_getD_getElem?] at this
            rw [this]
            simp [Ne.symm e]
        · have h1 : ((List.range ops.size).filter fun j => !(listed.setIfInBounds i true).getD j false) = ((List.range ops.size).filter fun j => !listed.getD j false).filter fun j => !(j == i) := by
            rw [List.filter_filter]
            apply List.filter_congr
            intro j hj
            by_cases e : i = j
            · subst e; simp [hlt']
            · simp [Array.getElem?_setIfInBounds_ne e, Ne.symm e]
          have h2 : ((List.range ops.size).filter fun j => !(listed.setIfInBounds i true).getD j false).length < ((List.range ops.size).filter fun j => !listed.getD j false).length := by
            rw [h1, List.length_filter_lt_length_iff_exists]
            exact ⟨i, List.mem_filter.2 ⟨List.mem_range.2 hlt, by simp only [hun']; rfl⟩, by simp⟩
          omega
theorem sched_ok {ops : Array Oper} (hedge : ∀ i o, ops[i]? = some o → ∀ e ∈ o.after, Region.binds .any e = true → e.on < i) (t : Nat) : Sched ops [] (Region.schedule true ops t) := by
  simp only [Region.schedule, Bool.true_or, if_true]
  refine sched_go hedge _ _ _ _ (by simp) (fun i hi => by simp [hi]) ?_
  have := List.length_filter_le (fun i => !(Array.replicate ops.size false).getD i false) (List.range ops.size)
  simpa using this

/-! Guards, places. -/
def GdOn (g : Gd) (fr : Fm) : Prop := match g with
  | .no => True
  | .on p t => Tr.get p fr = some (.bool t)
def GdOff (g : Gd) (fr : Fm) : Prop := match g with
  | .no => False
  | .on p t => Tr.get p fr = some (.bool (!t)) ∨ ∃ l, Tr.get p fr = some (.tup l)
theorem gdK_ok {g : Gd} {fr : Fm} {A B : Prop} (h : gdK g fr A B) : (GdOn g fr ∧ A) ∨ (GdOff g fr ∧ B) := by
  cases g with
  | no => exact .inl ⟨trivial, h⟩
  | on p t =>
    obtain ⟨v, h1, h2⟩ := getK_ok p fr _ h
    cases v <;> first | exact h2.elim | skip
    · rename_i b
      have h3 : bK b (bK t A B) (bK t B A) := h2
      cases b <;> cases t <;> first | exact .inl ⟨h1, h3⟩ | exact .inr ⟨.inl h1, h3⟩
    · exact .inr ⟨.inr ⟨_, h1⟩, h2⟩
/-- A frame holds, at some names, what the temporaries hold. -/
def RTl (ρ : Env) (l : List Nat) (fr : Fm) (t : Array Value) : Prop := ∀ p v, p.nat ∈ l → Tr.get p fr = some v → ∃ x, t[p.nat]? = some x ∧ VR ρ v x
theorem RT.l {ρ : Env} {N : Nat} {fr : Fm} {t : Array Value} (h : RT ρ N fr t) (l : List Nat) : RTl ρ l fr t := fun p v _ hp => h.2 p v hp
theorem RTl.sub {ρ : Env} {l l' : List Nat} {fr : Fm} {t : Array Value} (h : RTl ρ l fr t) (hs : ∀ k ∈ l', k ∈ l) : RTl ρ l' fr t := fun p v hp => h p v (hs _ hp)
theorem RTl.evR {ρ : Env} {l : List Nat} {fr : Fm} {a : Act} (h : RTl ρ l fr a.tmps) : EvR ρ (cutF l fr) a.eval := by
  refine ⟨fun p v hp => ?_, fun v => rfl, fun f => rfl⟩
  obtain ⟨h1, h2⟩ := cut_sub hp
  obtain ⟨x, h3, h4⟩ := h p v h1 h2
  simpa [Act.eval, h3] using h4
theorem RT.evR {ρ : Env} {N : Nat} {fr : Fm} {a : Act} (h : RT ρ N fr a.tmps) : EvR ρ fr a.eval := by
  refine ⟨fun p v hp => ?_, fun v => rfl, fun f => rfl⟩
  obtain ⟨x, h3, h4⟩ := h.2 p v hp
  simpa [Act.eval, h3] using h4
section
variable {P : Program} {N : Nat} {ops : Array Oper} {o : Oper} {x : RO}
theorem lowR_parts (h : lowR P N ops o = some x) : lowG ops o.guard = some x.g ∧ lowD N o.dst = some x.d ∧ lowO P o.op = some x.o := by
  unfold lowR at h
  split at h
  · rename_i g d y h1 h2 h3; injection h with h; subst h; exact ⟨h1, h2, h3⟩
  · cases h
theorem yield_is {g : Gd} {j : Nat} {t : Bool} (hg : lowG ops (some (j, t)) = some g) : ∃ u, g = .on (Pos.of u) t ∧ (ops[j]?).bind (·.dst) = some u := by
  simp only [lowG] at hg
  split at hg
  · rename_i u hu; injection hg with hg; exact ⟨u, hg.symm, hu⟩
  · cases hg
theorem on_ok {fr : Fm} {ρ : Env} {t : Array Value} {g : Gd} (hg : lowG ops o.guard = some g) (h : GdOn g fr) (hr : RTl ρ g.nm fr t) : Region.wanted o (yielded ops t) = true := by
  cases ho : o.guard with
  | none => simp [Region.wanted, ho]
  | some jb =>
    obtain ⟨j, b⟩ := jb
    rw [ho] at hg
    obtain ⟨u, rfl, hu⟩ := yield_is hg
    have h1 : Tr.get (Pos.of u) fr = some (.bool b) := h
    obtain ⟨y, h2, h3⟩ := hr _ _ (by simp [Gd.nm]) h1
    rw [Pos.nat_of] at h2
    simp only [VR] at h3; subst h3
    simp [Region.wanted, ho, yielded, hu, h2]
theorem off_ok {fr : Fm} {ρ : Env} {t : Array Value} {g : Gd} (hg : lowG ops o.guard = some g) (h : GdOff g fr) (hr : RTl ρ g.nm fr t) : Region.wanted o (yielded ops t) = false := by
  cases ho : o.guard with
  | none =>
    rw [ho] at hg
    simp only [lowG, Option.some.injEq] at hg; subst hg; exact h.elim
  | some jb =>
    obtain ⟨j, b⟩ := jb
    rw [ho] at hg
    obtain ⟨u, rfl, hu⟩ := yield_is hg
    rcases h with h1 | ⟨l, h1⟩
    · obtain ⟨y, h2, h3⟩ := hr _ _ (by simp [Gd.nm]) h1
      rw [Pos.nat_of] at h2
      simp only [VR] at h3; subst h3
      simp only [Region.wanted, ho, yielded, hu, Option.bind_some, h2]
      cases b <;> rfl
    · obtain ⟨y, h2, h3⟩ := hr _ _ (by simp [Gd.nm]) h1
      rw [Pos.nat_of] at h2
      simp only [VR] at h3; obtain ⟨vs, _, rfl⟩ := h3
      simp only [Region.wanted, ho, yielded, hu, Option.bind_some, h2]
      rfl
/-- Where an operation's value goes. -/
def putD (d : Ds) (fr : Fm) (v : SV) : Fm := match d with
  | .no => fr
  | .to p => Tr.put p fr v
theorem dsK_ok {d : Ds} {fr : Fm} {v : SV} {c : Fm → Prop} (h : dsK d fr v c) : c (putD d fr v) := by
  cases d with
  | no => exact h
  | to p => exact putK_ok p fr v c h
theorem dst_is {D : Option Tmp} {d : Ds} (h : lowD N D = some d) : (D = none ∧ d = .no) ∨ ∃ t, D = some t ∧ t < N ∧ d = .to (Pos.of t) := by
  cases D with
  | none => simp only [lowD, Option.some.injEq] at h; exact .inl ⟨rfl, h.symm⟩
  | some t =>
    simp only [lowD] at h
    split at h
    · rename_i hlt; injection h with h; exact .inr ⟨t, rfl, hlt, h.symm⟩
    · cases h
theorem RT.put {ρ : Env} {fr : Fm} {a : Act} (h : RT ρ N fr a.tmps) {D : Option Tmp} {d : Ds} (hd : lowD N D = some d) {v : SV} {y : Value} (hv : VR ρ v y) : RT ρ N (putD d fr v) (a.put D y).tmps := by
  rcases dst_is hd with ⟨rfl, rfl⟩ | ⟨t, rfl, hlt, rfl⟩
  · exact h
  · refine ⟨by simp [Act.put, h.1], fun p u hp => ?_⟩
    by_cases e : Pos.of t = p
    · subst e
      simp only [putD] at hp
      rw [get_put_same] at hp; injection hp with hp; subst hp
      exact ⟨y, by simp [Act.put, Pos.nat_of, h.1, hlt], hv⟩
    · simp only [putD] at hp
      rw [get_put_ne _ _ _ _ e] at hp
      obtain ⟨z, h1, h2⟩ := h.2 p u hp
      have e2 : t ≠ p.nat := fun e2 => e (Pos.nat_inj (by rw [Pos.nat_of, e2]))
      exact ⟨z, by simp [Act.put, Array.getElem?_setIfInBounds_ne e2, h1], h2⟩
theorem put_ld (a : Act) (D : Option Tmp) (y : Value) : (a.put D y).defers = a.defers := by cases D <;> rfl
/-- An activation is what the evaluator holds. -/
structure ActR (ρ : Env) (N : Nat) (fr : Fm) (ld : LD) (a : Act) : Prop where
  rt : RT ρ N fr a.tmps
  ld : LDR ρ ld a.defers
theorem Rel.push {ρ : Env} {n : Pos} {m : Mem} {w : World} (h : Rel P ρ n m w) (ob : Obj) (dr : Nat) : Rel P ρ n m { w with heap := w.heap.push ob, drawn := dr } :=
  ⟨h.inj, fun p o hp => by
    obtain ⟨a, k, r, h1, h2, h3⟩ := h.mem p o hp
    have := (Array.getElem?_eq_some_iff.1 h2).1
    exact ⟨a, k, r, h1, by simp [Array.getElem?_push, Nat.ne_of_lt this, h2], h3⟩⟩
section
variable {cl : Cl} {rl : Rl} {cx : Cx} {b : Frame} {cs : List Frame} {w : World} {i : Nat} {rest : List Nat} {kk : List Item} {fr : Fm} {m : Mem} {n : Pos} {ld : LD} {c : Fm → Mem → Pos → LD → Prop → Prop} {k : Prop} {ρ : Env} {a : Act} {r : LR}
theorem op_line (hcl : ClOk P cl) (hrl : RlOk P rl) (fcl : FCl cl) (frl : FRl rl) (hx : lowR P N ops o = some x) (hc : ∀ fr m n ld, c fr m n ld False = False) (h : regK false cl rl cx (addR x .nil .nil r) fr m n ld c k)
    (hm : Rel P ρ n m w) (hf : Fre ρ n) (ha : ActR ρ N fr ld a) (hcx : CxR ρ cx b cs) (hi : ops[i]? = some o) :
    ∃ fr' m' n' ld' k' ρ' w' a', regK false cl rl cx r fr' m' n' ld' c k' ∧ Gon P ρ n m w ρ' n' m' w' ∧ ActR ρ' N fr' ld' a' ∧
      Steps P (lone (b.atR a (.inRegion ops (i :: rest) :: kk)) cs w) (lone (b.atR a' (.inRegion ops rest :: kk)) cs w') := by
  obtain ⟨hg, hd, hl⟩ := lowR_parts hx
  have off : ∀ {A : Prop} {C : Fm → Prop}, GdOff x.g fr → dsK x.d fr undef_ C → C (putD x.d fr undef_) ∧ ActR ρ N (putD x.d fr undef_) ld (a.put o.dst undef) ∧
      Steps P (lone (b.atR a (.inRegion ops (i :: rest) :: kk)) cs w) (lone (b.atR (a.put o.dst undef) (.inRegion ops rest :: kk)) cs w) := fun h1 h2 =>
    ⟨dsK_ok h2, ⟨ha.rt.put hd (undef_ok ρ), by rw [put_ld]; exact ha.ld⟩, Steps.one (st_off hi (off_ok hg h1 (ha.rt.l _)))⟩
  unfold addR at h
  cases hk : kd x.o with
  | q =>
    rw [hk] at h
    rcases gdK_ok h with ⟨h1, h2⟩ | ⟨h1, h2⟩
    · obtain ⟨v, h3, h4⟩ := q_all hl hk h2
      obtain ⟨y, h5, h6⟩ := h4 ρ n w a.eval o.dst o.type o.pos o.after o.guard hm ha.rt.evR
      refine ⟨_, m, n, ld, k, ρ, w, _, dsK_ok h3, .refl hm hf, ⟨ha.rt.put hd h5, by rw [put_ld]; exact ha.ld⟩, Steps.one (st_val hi (on_ok hg h1 (ha.rt.l _)) (nx := .value y) ?_ (.inl rfl))⟩
      rw [Oper.semAt_eq _ _ _ (not_defer hl (.inr (by rw [hk]; simp)))]; exact h6
    · obtain ⟨g1, g2, g3⟩ := off (A := True) h1 h2
      exact ⟨_, m, n, ld, k, ρ, w, _, g1, .refl hm hf, g2, g3⟩
  | a =>
    rw [hk] at h
    rcases gdK_ok h with ⟨h1, h2⟩ | ⟨h1, h2⟩
    · obtain ⟨ob, v, h3, h4⟩ := a_all hl hk h2
      have h5 := succK_ok n _ (putK_ok n m ob _ h3)
      obtain ⟨j, real, y, dr, g1, g2, g3⟩ := h4 ρ w a.eval o.dst o.type o.pos o.after o.guard ha.rt.evR
      have hn := hf n (Nat.le_refl _)
      obtain ⟨g4, g5⟩ := g2 (upd ρ n (w.heap.size, j)) (upd_ext hn) upd_same
      have hev := evo_new hm hn g1 g5
      have hgo := hev.gon (by rw [Pos.nat_succ]; omega) hf
      refine ⟨_, _, n.succ, ld, k, _, _, _, dsK_ok h5, hgo, ⟨(ha.rt.mono hgo.ext).put hd g4, by rw [put_ld]; exact ha.ld.mono hgo.ext⟩, Steps.one (st_val hi (on_ok hg h1 (ha.rt.l _)) (nx := .value y) ?_ (.inl rfl))⟩
      rw [Oper.semAt_eq _ _ _ (not_defer hl (.inr (by rw [hk]; simp)))]; exact g3
    · obtain ⟨g1, g2, g3⟩ := off (A := True) h1 h2
      exact ⟨_, m, n, ld, k, ρ, w, _, g1, .refl hm hf, g2, g3⟩
  | s =>
    rw [hk] at h
    rcases gdK_ok h with ⟨h1, h2⟩ | ⟨h1, h2⟩
    · obtain ⟨v, m', n', ld', k', ρ', w', y, D, g1, g2, g3, g4, g5⟩ := ef_ok (kk := kk) (rest := rest) hcl hrl fcl frl hl hk (C := fun v m n ld k => reK .nil fr m (dsK x.d fr v fun fr => regK false cl rl cx r fr m n ld c k))
        (fun v m n ld => by simp only [f_regK fcl frl r _ _ _ _ c hc, f_dsK, f_reK]) h2 hm hf ha.rt.evR ha.ld hcx hi (on_ok hg h1 (ha.rt.l _))
      have g6 : dsK x.d fr v fun fr => regK false cl rl cx r fr m' n' ld' c k' := g1
      refine ⟨_, m', n', ld', k', ρ', w', _, dsK_ok g6, g2, ⟨?_, ?_⟩, g5⟩
      · exact RT.put (a := { a with defers := D }) (ha.rt.mono g2.ext) hd g3
      · rw [put_ld]; exact g4
    · obtain ⟨g1, g2, g3⟩ := off (A := True) h1 h2
      exact ⟨_, m, n, ld, k, ρ, w, _, g1, .refl hm hf, g2, g3⟩
theorem line_ok (hcl : ClOk P cl) (hrl : RlOk P rl) (fcl : FCl cl) (frl : FRl rl) (hc : ∀ fr m n ld, c fr m n ld False = False) : ∀ (l : List Oper) (i : Nat) (rs : List RO), ops.toList.drop i = l → lowRs P N ops l = some rs →
    ∀ fr m n ld k ρ w a, regK false cl rl cx (lineR rs) fr m n ld c k → Rel P ρ n m w → Fre ρ n → ActR ρ N fr ld a → CxR ρ cx b cs →
    ∃ fr' m' n' ld' k' ρ' w' a', c fr' m' n' ld' k' ∧ Gon P ρ n m w ρ' n' m' w' ∧ ActR ρ' N fr' ld' a' ∧
      Steps P (lone (b.atR a (.inRegion ops (List.range' i l.length) :: kk)) cs w) (lone (b.atR a' kk) cs w')
  | [], i, rs, hl, hr, fr, m, n, ld, k, ρ, w, a, h, hm, hf, ha, hcx => by
    simp only [lowRs, Option.some.injEq] at hr; subst hr
    exact ⟨fr, m, n, ld, k, ρ, w, a, h, .refl hm hf, ha, Steps.one stepR_region_end⟩
  | o :: l, i, rs, hl, hr, fr, m, n, ld, k, ρ, w, a, h, hm, hf, ha, hcx => by
    simp only [lowRs] at hr
    split at hr
    · rename_i x rs' hx hrs
      injection hr with hr; subst hr
      have hi : ops[i]? = some o := by
        have h1 : (ops.toList.drop i)[0]? = some o := by rw [hl]; rfl
        simpa using h1
      have hl' : ops.toList.drop (i + 1) = l := by
        rw [← List.drop_drop, hl]; rfl
      obtain ⟨fr1, m1, n1, ld1, k1, ρ1, w1, a1, g1, g2, g3, g4⟩ := op_line (kk := kk) (rest := List.range' (i + 1) l.length) hcl hrl fcl frl hx hc h hm hf ha hcx hi
      obtain ⟨fr2, m2, n2, ld2, k2, ρ2, w2, a2, q1, q2, q3, q4⟩ := line_ok hcl hrl fcl frl hc l (i + 1) rs' hl' hrs fr1 m1 n1 ld1 k1 ρ1 w1 a1 g1 g2.rel g2.fre g3 (hcx.mono g2.ext)
      exact ⟨fr2, m2, n2, ld2, k2, ρ2, w2, a2, q1, g2.trans q2, q3, Steps.trans g4 q4⟩
    · cases hr
end
end
end Go.Ev
end
section
set_option linter.all false
set_option linter.unusedVariables false
set_option linter.unusedSimpArgs false
namespace Go.Ev
open Go

theorem sameK_ok : ∀ (a b : SV) (c : Prop), sameK a b c → a = b ∧ c
  | .bool a, b, c, h => by
    obtain ⟨b, rfl, h⟩ := onBool_ok h
    cases a <;> cases b <;> first | exact h.elim | exact ⟨rfl, h⟩
  | .int k a, b, c, h => by
    obtain ⟨j, b, rfl, h⟩ := onInt_ok h
    obtain ⟨rfl, h1⟩ := kK_ok h
    obtain ⟨h3, h4⟩ := bK_t (eqK_ok h1)
    have h5 := of_decide_eq_true h3; subst h5
    exact ⟨rfl, h4⟩
  | .str a, b, c, h => by
    obtain ⟨b, rfl, h⟩ := onStr_ok h
    obtain ⟨h3, h4⟩ := bK_t (teqK_ok _ _ _ h)
    have h5 := of_decide_eq_true h3; subst h5
    exact ⟨rfl, h4⟩
  | .ptr p o, b, c, h => by
    obtain ⟨q, u, rfl, h⟩ := onPtr_ok h
    obtain ⟨rfl, h2⟩ := posK_ok _ _ _ h
    obtain ⟨h3, h4⟩ := bK_t h2
    have h5 := Nat.eq_of_beq_eq_true h3; subst h5
    exact ⟨rfl, h4⟩
  | .nilp, b, c, h => by cases b <;> first | exact h.elim | exact ⟨rfl, h⟩
  | .slice p o n q, b, c, h => by
    obtain ⟨q', u, m, d, rfl, h⟩ := onSlice_ok h
    obtain ⟨rfl, h2⟩ := posK_ok _ _ _ h
    obtain ⟨h3, h4⟩ := bK_t h2
    have h5 := Nat.eq_of_beq_eq_true h3; subst h5
    obtain ⟨h6, h7⟩ := bK_t h4
    have h8 := Nat.eq_of_beq_eq_true h6; subst h8
    obtain ⟨rfl, h9⟩ := capK_ok h7
    exact ⟨rfl, h9⟩
  | .emp _ _, b, c, h => h.elim
  | .nils, b, c, h => by cases b <;> first | exact h.elim | exact ⟨rfl, h⟩
  | .map p, b, c, h => by
    obtain ⟨q, rfl, h⟩ := onMap_ok h
    obtain ⟨rfl, h2⟩ := posK_ok _ _ _ h
    exact ⟨rfl, h2⟩
  | .nilm, b, c, h => by cases b <;> first | exact h.elim | exact ⟨rfl, h⟩
  | .func n g q, b, c, h => by
    obtain ⟨m, g', q', rfl, h⟩ := onFunc_ok h
    obtain ⟨h1, h2⟩ := bK_t h
    have h3 := Nat.eq_of_beq_eq_true h1; subst h3
    obtain ⟨rfl, h5⟩ := sameK_ok g g' _ h2
    obtain ⟨rfl, h7⟩ := sameK_ok q q' _ h5
    exact ⟨rfl, h7⟩
  | .yld p, b, c, h => by
    obtain ⟨q, rfl, h⟩ := onYld_ok h
    obtain ⟨rfl, h2⟩ := posK_ok _ _ _ h
    exact ⟨rfl, h2⟩
  | .nilf, b, c, h => by cases b <;> first | exact h.elim | exact ⟨rfl, h⟩
  | .iface n v, b, c, h => by
    obtain ⟨m, v', rfl, h⟩ := onIface_ok h
    obtain ⟨h1, h2⟩ := bK_t h
    have h3 := Nat.eq_of_beq_eq_true h1; subst h3
    obtain ⟨rfl, h5⟩ := sameK_ok v v' _ h2
    exact ⟨rfl, h5⟩
  | .nili, b, c, h => by cases b <;> first | exact h.elim | exact ⟨rfl, h⟩
  | .agg l, b, c, h => by
    obtain ⟨l', rfl, h⟩ := onAgg_ok h
    obtain ⟨rfl, h5⟩ := sameK_ok l l' _ h
    exact ⟨rfl, h5⟩
  | .tup l, b, c, h => by
    obtain ⟨l', rfl, h⟩ := onTup_ok h
    obtain ⟨rfl, h5⟩ := sameK_ok l l' _ h
    exact ⟨rfl, h5⟩
  | .nil, b, c, h => by
    obtain ⟨rfl, h⟩ := onNil_ok h
    exact ⟨rfl, h⟩
  | .cons a r, b, c, h => by
    obtain ⟨a', r', rfl, h⟩ := onCons_ok h
    obtain ⟨rfl, h5⟩ := sameK_ok a a' _ h
    obtain ⟨rfl, h7⟩ := sameK_ok r r' _ h5
    exact ⟨rfl, h7⟩

/-! Blocks out of sight. -/
def SV.nm : SV → Option Pos
  | .ptr b _ => some b
  | .slice b _ _ _ => some b
  | .map b => some b
  | _ => none
theorem nameK_ok {v : SV} {A : Pos → Prop} {B : Prop} (h : nameK v A B) : (∃ b, SV.nm v = some b ∧ A b) ∨ (SV.nm v = none ∧ B) := by
  cases v <;> first | exact h.elim | exact .inl ⟨_, rfl, h⟩ | exact .inr ⟨rfl, h⟩
def Ps.list : Ps → List Pos
  | .nil => []
  | .cons p r => p :: r.list
theorem hideK_ok : ∀ (hd : Ps) (fr : Fm) (m : Mem) (c : Mem → Bk → Prop), hideK hd fr m c → ∃ (X : List Pos) (m1 : Mem) (bk : Bk), c m1 bk ∧ (∀ p, Tr.get p m1 = if p ∈ X then none else Tr.get p m) ∧
    (∀ m2 C, bk m2 C → ∃ m3, C m3 ∧ ∀ p, Tr.get p m3 = if p ∈ X then Tr.get p m else Tr.get p m2) ∧ (∀ m, bk m (fun _ => False) = False) ∧ (∀ p ∈ hd.list, ∀ v q, Tr.get p fr = some v → SV.nm v = some q → q ∈ X) ∧ ∀ q ∈ X, Tr.get q m ≠ none
  | .nil, fr, m, c, h => ⟨[], m, fun m c => c m, h, fun p => by simp, fun m2 C hC => ⟨m2, hC, fun p => by simp⟩, fun _ => rfl, fun p hp => by simp [Ps.list] at hp, fun q hq => by cases hq⟩
  | .cons p r, fr, m, c, h => by
    obtain ⟨v, h1, h2⟩ := getK_ok p fr _ h
    rcases nameK_ok h2 with ⟨q, h3, h4⟩ | ⟨h3, h4⟩
    · obtain ⟨ob, h5, h6⟩ := getK_ok q m _ h4
      have h7 := delK_ok q m _ h6
      obtain ⟨X, m1, bk, g1, g2, g3, g4, g5, g6⟩ := hideK_ok r fr _ _ h7
      refine ⟨q :: X, m1, _, g1, fun p' => ?_, fun m2 C hC => ?_, fun m' => by simp only [f_putK, g4], fun p' hp' v' q' e1 e2 => ?_, fun q' hq' => ?_⟩
      · rw [g2]
        by_cases e : q = p'
        · subst e; simp [get_del_same]
        · rw [get_del_ne q p' m e]; simp [Ne.symm e]
      · obtain ⟨m3, e1, e2⟩ := g3 m2 _ hC
        refine ⟨_, putK_ok q m3 ob C e1, fun p' => ?_⟩
        by_cases e : q = p'
        · subst e; rw [get_put_same]; simp [h5]
        · rw [get_put_ne q p' m3 ob e, e2, get_del_ne q p' m e]; simp [Ne.symm e]
      · simp only [Ps.list, List.mem_cons] at hp'
        rcases hp' with rfl | hp'
        · rw [h1] at e1; injection e1 with e1; subst e1; rw [h3] at e2; injection e2 with e2; simp [e2]
        · exact List.mem_cons_of_mem _ (g5 p' hp' v' q' e1 e2)
      · by_cases e : q = q'
        · subst e; rw [h5]; simp
        · rcases List.mem_cons.1 hq' with rfl | hq'
          · exact absurd rfl e
          · have := g6 q' hq'; rwa [get_del_ne q q' m e] at this
    · obtain ⟨X, m1, bk, g1, g2, g3, g4, g5, g6⟩ := hideK_ok r fr m c h4
      refine ⟨X, m1, bk, g1, g2, g3, g4, fun p' hp' v' q' e1 e2 => ?_, g6⟩
      simp only [Ps.list, List.mem_cons] at hp'
      rcases hp' with rfl | hp'
      · rw [h1] at e1; injection e1 with e1; subst e1; rw [h3] at e2; cases e2
      · exact g5 p' hp' v' q' e1 e2
theorem aK_nm {o : LO} {fr : Fm} {n : Pos} {C : SO → SV → Prop} : aK o fr n (fun ob v => SV.nm v = some n ∧ C ob v) = aK o fr n C := by
  cases o with
  | alloc z => show aAlloc z fr n (fun ob v => SV.nm v = some n ∧ C ob v) = aAlloc z fr n C; simp only [aAlloc, SV.nm, true_and]
  | box x => show aBox x fr n (fun ob v => SV.nm v = some n ∧ C ob v) = aBox x fr n C; simp only [aBox, SV.nm, true_and]
  | bsl k z ps => show aBsl k z ps fr n (fun ob v => SV.nm v = some n ∧ C ob v) = aBsl k z ps fr n C; simp only [aBsl, SV.nm, true_and]
  | mkm => show aMkm fr n (fun ob v => SV.nm v = some n ∧ C ob v) = aMkm fr n C; simp only [aMkm, SV.nm, true_and]
  | mks z b zc x y => show aMks z b zc x y fr n (fun ob v => SV.nm v = some n ∧ C ob v) = aMks z b zc x y fr n C; simp only [aMks, SV.nm, true_and]
  | byts x => show aByts x fr n (fun ob v => SV.nm v = some n ∧ C ob v) = aByts x fr n C; simp only [aByts, SV.nm, true_and]
  | _ => rfl
theorem pure_leaf {o : LO} (h : pureQ o = true) {fr : Fm} {m : Mem} {c : SV → Prop} : qK o fr m c = qK o fr .leaf c := by
  cases o <;> first | rfl | (cases h)

/-! What is checked. -/
structure Sta (P : Program) (N : Nat) (ops : Array Oper) (rs : Array RO) (bf : Array Nat) : Prop where
  size : rs.size = ops.size
  low : ∀ {i : Nat} {o}, ops[i]? = some o → ∃ x, rs[i]? = some x ∧ lowR P N ops o = some x
  one : ∀ {i j : Nat} {x y p}, rs[i]? = some x → rs[j]? = some y → x.d = .to p → y.d = .to p → i = j
  self : ∀ {i : Nat} {x p}, rs[i]? = some x → x.d = .to p → p.nat ∉ x.look
  ord : ∀ {i j : Nat} {x y p}, rs[i]? = some x → rs[j]? = some y → x.d = .to p → p.nat ∈ y.look → befB bf i j = true ∨ befB bf j i = true
  eff : ∀ {i j : Nat} {x y}, rs[i]? = some x → rs[j]? = some y → kd x.o = .s → kd y.o = .s → i ≠ j → befB bf i j = true ∨ befB bf j i = true
  edge : ∀ (i : Nat) o, ops[i]? = some o → ∀ e ∈ o.after, Region.binds .any e = true → e.on < i
  via : ∀ {i : Nat} {o} {j : Nat}, ops[i]? = some o → j < ops.size → befB bf j i = true → ∃ e ∈ o.after, Region.binds .any e = true ∧ (e.on = j ∨ befB bf j e.on = true)
section
variable {P : Program} {N : Nat} {ops : Array Oper}
theorem lowRs_at : ∀ (l : List Oper) (rs : List RO), lowRs P N ops l = some rs → rs.length = l.length ∧ ∀ (i : Nat) o, l[i]? = some o → ∃ x, rs[i]? = some x ∧ lowR P N ops o = some x
  | [], rs, h => by
    simp only [lowRs, Option.some.injEq] at h; subst h
    exact ⟨rfl, fun i o hi => by simp at hi⟩
  | o :: l, rs, h => by
    simp only [lowRs] at h
    split at h
    · rename_i x rs' hx hrs
      injection h with h; subst h
      obtain ⟨h1, h2⟩ := lowRs_at l rs' hrs
      refine ⟨by simp [h1], fun i o' hi => ?_⟩
      cases i with
      | zero => simp at hi; subst hi; exact ⟨x, rfl, hx⟩
      | succ i => exact h2 i o' (by simpa using hi)
    · cases h
theorem nm_to {d : Ds} {p : Pos} (h : d = .to p) : d.nm = [p.nat] := by subst h; rfl
theorem sta_of {rs : List RO} {bf : Array Nat} (h1 : lowRs P N ops ops.toList = some rs) (h2 : pairR rs.toArray bf = true) (h3 : edgeR ops bf = true) : Sta P N ops rs.toArray bf := by
  obtain ⟨e1, e2⟩ := lowRs_at _ _ h1
  have hsz : rs.toArray.size = ops.size := by simpa using e1
  have lt : ∀ {i : Nat} {x}, rs.toArray[i]? = some x → i < rs.toArray.size := fun hi => (Array.getElem?_eq_some_iff.1 hi).1
  have pr : ∀ {i j : Nat} {x y}, rs.toArray[i]? = some x → rs.toArray[j]? = some y → (if i = j then x.d.nm.all (fun t => !x.look.contains t) else
      x.d.nm.all (fun t => !y.d.nm.contains t) && (befB bf i j || befB bf j i || (!(kd x.o == .s && kd y.o == .s) && x.d.nm.all fun t => !y.look.contains t))) = true := fun {i j x y} hi hj => by
    unfold pairR at h2
    rw [List.all_eq_true] at h2
    have h4 := h2 j (List.mem_range.2 (lt hj))
    rw [List.all_eq_true] at h4
    have h5 := h4 i (List.mem_range.2 (lt hi))
    rw [hi, hj] at h5
    exact h5
  refine ⟨hsz, fun {i o} hi => ?_, fun {i j x y p} hi hj hp hq => ?_, fun {i x p} hi hp => ?_, fun {i j x y p} hi hj hp hq => ?_, fun {i j x y} hi hj hk hl hne => ?_, fun i o hi e he hb => ?_, fun {i o j} hi hj hb => ?_⟩
  · obtain ⟨x, h4, h5⟩ := e2 i o (by simpa using hi)
    exact ⟨x, by simpa using h4, h5⟩
  · refine Classical.byContradiction fun hne => ?_
    have h4 := pr hi hj
    rw [if_neg hne, nm_to hp, nm_to hq] at h4
    simp at h4
  · have h4 := pr hi hi
    rw [if_pos rfl, nm_to hp] at h4
    simpa using h4
  · by_cases e : i = j
    · subst e
      rw [hi] at hj; injection hj with hj; subst hj
      have h4 := pr hi hi
      rw [if_pos rfl, nm_to hp] at h4
      simp at h4; exact absurd hq h4
    · have h4 := pr hi hj
      rw [if_neg e, nm_to hp] at h4
      simp only [Bool.and_eq_true, Bool.or_eq_true] at h4
      rcases h4.2 with h5 | ⟨_, h5⟩
      · exact h5
      · simp at h5; exact absurd hq h5
  · have h4 := pr hi hj
    rw [if_neg hne, hk, hl] at h4
    simp only [Bool.and_eq_true, Bool.or_eq_true] at h4
    rcases h4.2 with h5 | ⟨h5, _⟩
    · exact h5
    · simp at h5
  · unfold edgeR at h3
    rw [List.all_eq_true] at h3
    have h4 := h3 i (List.mem_range.2 (Array.getElem?_eq_some_iff.1 hi).1)
    rw [hi] at h4
    simp only [Bool.and_eq_true] at h4
    have h5 := Array.all_eq_true_iff_forall_mem.1 h4.1 e he
    simpa [hb] using h5
  · unfold edgeR at h3
    rw [List.all_eq_true] at h3
    have h4 := h3 i (List.mem_range.2 (Array.getElem?_eq_some_iff.1 hi).1)
    rw [hi] at h4
    simp only [Bool.and_eq_true] at h4
    have h5 := List.all_eq_true.1 h4.2 j (List.mem_range.2 hj)
    rw [hb] at h5
    simp only [Bool.not_true, Bool.false_or] at h5
    obtain ⟨e, he, h6⟩ := Array.any_eq_true'.1 h5
    simp only [Bool.and_eq_true, Bool.or_eq_true, beq_iff_eq] at h6
    exact ⟨e, he, h6.1, h6.2⟩
end
end Go.Ev
end
section
set_option linter.all false
set_option linter.unusedVariables false
set_option linter.unusedSimpArgs false
namespace Go.Ev
open Go

theorem putD_ne {d : Ds} {fr : Fm} {v : SV} {p : Pos} (h : d ≠ .to p) : Tr.get p (putD d fr v) = Tr.get p fr := by
  cases d with
  | no => rfl
  | to q => exact get_put_ne q p fr v (fun e => h (by rw [e]))
theorem putD_eq {d : Ds} {fr : Fm} {v : SV} {p : Pos} (h : d = .to p) : Tr.get p (putD d fr v) = some v := by
  subst h; exact get_put_same p fr v
section
variable {N : Nat}
theorem tm_ne {D : Option Tmp} {d : Ds} (h : lowD N D = some d) {p : Pos} (hp : d ≠ .to p) (a : Act) (y : Value) : (a.put D y).tmps[p.nat]? = a.tmps[p.nat]? := by
  rcases dst_is h with ⟨rfl, rfl⟩ | ⟨t, rfl, hlt, rfl⟩
  · rfl
  · have e2 : t ≠ p.nat := fun e2 => hp (by rw [e2, Pos.of_nat])
    simp [Act.put, Array.getElem?_setIfInBounds_ne e2]
theorem tm_eq {D : Option Tmp} {d : Ds} (h : lowD N D = some d) {p : Pos} (hp : d = .to p) {a : Act} (ha : a.tmps.size = N) (y : Value) : (a.put D y).tmps[p.nat]? = some y := by
  rcases dst_is h with ⟨rfl, rfl⟩ | ⟨t, rfl, hlt, rfl⟩
  · cases hp
  · injection hp with hp
    have e2 : p.nat = t := by rw [← hp, Pos.nat_of]
    simp [Act.put, e2, ha, hlt]
theorem tm_size (a : Act) (D : Option Tmp) (y : Value) : (a.put D y).tmps.size = a.tmps.size := by
  cases D <;> simp [Act.put]
end
/-- A temporary that an operation looks at is written by one that is ahead of it. -/
def Wr (rs : Array RO) (bf : Array Nat) (p : Pos) (i : Nat) : Prop := ∃ j z, rs[j]? = some z ∧ z.d = .to p ∧ befB bf j i = true
def Look (rs : Array RO) (bf : Array Nat) (fr : Fm) (ρ : Env) (t : Array Value) (i : Nat) (x : RO) (frj : Fm) : Prop := ∀ p u, p.nat ∈ x.look → Tr.get p frj = some u →
  (Wr rs bf p i ∧ Tr.get p fr = some u) ∨ (¬ Wr rs bf p i ∧ ∃ y, t[p.nat]? = some y ∧ VR ρ u y)
/-- What the evaluator has done and the machine has not. -/
def Late (P : Program) (rs : Array RO) (bf : Array Nat) (lt : List (Nat × Pos)) (fr : Fm) (m : Mem) (ρ : Env) (t : Array Value) (i : Nat) (x : RO) (op : Op) : Prop := kd x.o ≠ .s ∧ ∃ frj, Look rs bf fr ρ t i x frj ∧
  ((GdOff x.g frj ∧ (∀ p, (i, p) ∉ lt) ∧ ∀ p, x.d = .to p → Tr.get p fr = some undef_) ∨
   (GdOn x.g frj ∧ kd x.o = .q ∧ (∀ p, (i, p) ∉ lt) ∧ ∃ v mj, (∀ p, x.d = .to p → Tr.get p fr = some v) ∧ QOk P (cutF x.o.nm frj) mj op v ∧ (pureQ x.o = true → mj = .leaf) ∧
     ∀ q ob, Tr.get q mj = some ob → Tr.get q m = some ob ∧ ∀ j, (j, q) ∈ lt → befB bf j i = true) ∨
   (GdOn x.g frj ∧ kd x.o = .a ∧ ∃ v nm ob, (i, nm) ∈ lt ∧ SV.nm v = some nm ∧ (∀ p, x.d = .to p → Tr.get p fr = some v) ∧ AOk P (cutF x.o.nm frj) op nm ob v ∧ Tr.get nm m = some ob))
structure Inv (P : Program) (N : Nat) (ops : Array Oper) (rs : Array RO) (bf : Array Nat) (ρ0 : Env) (n0 : Pos) (m0 : Mem) (w0 : World) (pre dn : List Nat) (lt : List (Nat × Pos)) (fr : Fm) (m : Mem) (n : Pos) (ld : LD) (ρ : Env) (w : World) (a : Act) : Prop where
  md : ∃ mD, (∀ p, Tr.get p mD = if p ∈ lt.map (·.2) then none else Tr.get p m) ∧ Gon P ρ0 n0 m0 w0 ρ n mD w
  size : a.tmps.size = N
  ldr : LDR ρ ld a.defers
  rt : ∀ p v, Tr.get p fr = some v → (∀ (i : Nat) x, rs[i]? = some x → x.d = .to p → i ∈ pre → i ∈ dn) → ∃ y, a.tmps[p.nat]? = some y ∧ VR ρ v y
  sub : ∀ i ∈ dn, i ∈ pre
  dcl : ∀ i j, i ∈ dn → j < ops.size → befB bf j i = true → j ∈ dn
  pcl : ∀ i j, i ∈ pre → j < ops.size → befB bf j i = true → j ∈ pre
  bnd : ∀ i ∈ pre, i < ops.size
  late : ∀ (i : Nat) x o, rs[i]? = some x → ops[i]? = some o → i ∈ pre → i ∉ dn → Late P rs bf lt fr m ρ a.tmps i x o.op
  ltok : ∀ (i : Nat) p, (i, p) ∈ lt → i ∈ pre ∧ i ∉ dn ∧ ρ p = none ∧ n0.nat ≤ p.nat ∧ p.nat < n.nat ∧ ∃ x, rs[i]? = some x ∧ kd x.o = .a
  ltinj : ∀ i j p q, (i, p) ∈ lt → (j, q) ∈ lt → (i = j ↔ p = q)
section
variable {P : Program} {N : Nat} {ops : Array Oper} {rs : Array RO} {bf : Array Nat} {ρ0 : Env} {n0 : Pos} {m0 : Mem} {w0 : World} {pre dn : List Nat} {lt : List (Nat × Pos)} {fr : Fm} {m : Mem} {n : Pos} {ld : LD} {ρ : Env} {w : World} {a : Act}
theorem at_lt (hs : Sta P N ops rs bf) {j : Nat} {z : RO} (h : rs[j]? = some z) : j < ops.size := by rw [← hs.size]; exact (Array.getElem?_eq_some_iff.1 h).1
theorem Look.rtl (hs : Sta P N ops rs bf) (I : Inv P N ops rs bf ρ0 n0 m0 w0 pre dn lt fr m n ld ρ w a) {i : Nat} {x : RO} {frj : Fm} (h : Look rs bf fr ρ a.tmps i x frj) (hbef : ∀ j, j < ops.size → befB bf j i = true → j ∈ dn) : RTl ρ x.look frj a.tmps := fun p u hp hu => by
  rcases h p u hp hu with ⟨⟨j, z, h1, h2, h3⟩, h4⟩ | ⟨_, h4⟩
  · refine I.rt p u h4 fun i' x' h5 h6 _ => ?_
    have := hs.one h5 h1 h6 h2; subst this
    exact hbef i' (at_lt hs h1) h3
  · exact h4
theorem Look.mono {ρ' : Env} {t : Array Value} {i : Nat} {x : RO} {frj : Fm} (h : Look rs bf fr ρ t i x frj) (he : Ext ρ ρ') : Look rs bf fr ρ' t i x frj := fun p u hp hu => by
  rcases h p u hp hu with h1 | ⟨h1, y, h2, h3⟩
  · exact .inl h1
  · exact .inr ⟨h1, y, h2, VR.mono he _ _ h3⟩
/-- The machine has turned a temporary. -/
theorem Look.tm {t t' : Array Value} {i : Nat} {x : RO} {frj : Fm} (h : Look rs bf fr ρ t i x frj) (ht : ∀ p : Pos, p.nat ∈ x.look → ¬ Wr rs bf p i → t'[p.nat]? = t[p.nat]?) : Look rs bf fr ρ t' i x frj := fun p u hp hu => by
  rcases h p u hp hu with h1 | ⟨h1, y, h2, h3⟩
  · exact .inl h1
  · exact .inr ⟨h1, y, by rw [ht p hp h1]; exact h2, h3⟩
/-- The evaluator has turned a temporary. -/
theorem Look.frm {fr' : Fm} {t : Array Value} {i : Nat} {x : RO} {frj : Fm} (h : Look rs bf fr ρ t i x frj) (ht : ∀ p : Pos, Wr rs bf p i → Tr.get p fr' = Tr.get p fr) : Look rs bf fr' ρ t i x frj := fun p u hp hu => by
  rcases h p u hp hu with ⟨h1, h2⟩ | h1
  · exact .inl ⟨h1, by rw [ht p h1]; exact h2⟩
  · exact .inr h1
theorem nm_look {x : RO} {k : Nat} (h : k ∈ x.o.nm) : k ∈ x.look := List.mem_append_right _ h
theorem g_look {x : RO} {k : Nat} (h : k ∈ x.g.nm) : k ∈ x.look := List.mem_append_left _ h
/-- The world goes on, and a name that was kept back stands for a new block. -/
theorem Gon.real {nm : Pos} {ob : SO} {k dr : Nat} {rl : Obj} {mD mD' : Mem} (h : Gon P ρ0 n0 m0 w0 ρ n mD w) (hn : ρ nm = none) (h1 : n0.nat ≤ nm.nat) (h2 : nm.nat < n.nat) (hd : w.drawn ≤ dr) (ho : OR P (upd ρ nm (w.heap.size, k)) k ob rl)
    (hm : ∀ p, Tr.get p mD' = if p = nm then some ob else Tr.get p mD) : Gon P ρ0 n0 m0 w0 (upd ρ nm (w.heap.size, k)) n mD' { w with heap := w.heap.push rl, drawn := dr } := by
  have hx : Ext ρ (upd ρ nm (w.heap.size, k)) := upd_ext hn
  have old : ∀ {p : Pos}, p ≠ nm → Tr.get p mD' = Tr.get p mD := fun hp => by rw [hm, if_neg hp]
  refine ⟨h.le, fun p hp => by rw [upd_ne (fun e => by subst e; omega)]; exact h.fre p hp, ⟨h.ext.trans hx, fun p hp => ?_, ⟨fun p q x j j' hp hq e1 e2 => ?_, fun p o hp => ?_⟩, h.evo.os, h.evo.tape, h.evo.output, Nat.le_trans h.evo.drawn hd, ?_, fun x hx' hn' => ?_, fun p x j hp hj => ?_⟩⟩
  · rw [upd_ne (fun e => by subst e; omega)]; exact h.evo.out p hp
  · by_cases e3 : p = nm
    · subst e3
      by_cases e4 : q = p
      · exact e4.symm
      · rw [upd_same] at e1; rw [upd_ne e4] at e2
        injection e1 with e1; injection e1 with e1 _
        have := h.rel.lt (by rw [← old e4]; exact hq) e2
        omega
    · by_cases e4 : q = nm
      · subst e4
        rw [upd_same] at e2; rw [upd_ne e3] at e1
        injection e2 with e2; injection e2 with e2 _
        have := h.rel.lt (by rw [← old e3]; exact hp) e1
        omega
      · rw [upd_ne e3] at e1; rw [upd_ne e4] at e2
        exact h.rel.inj p q x j j' (by rw [← old e3]; exact hp) (by rw [← old e4]; exact hq) e1 e2
  · by_cases e3 : p = nm
    · subst e3
      rw [hm, if_pos rfl] at hp; injection hp with hp; subst hp
      exact ⟨_, k, rl, upd_same, by simp, ho⟩
    · rw [old e3] at hp
      obtain ⟨x, j, r, e4, e5, e6⟩ := h.rel.mem p o hp
      have hlt := h.rel.lt (by rw [hp]; simp) e4
      exact ⟨x, j, r, by rw [upd_ne e3]; exact e4, by simp [Array.getElem?_push, Nat.ne_of_lt hlt, e5], e6.mono P hx⟩
  · have := h.evo.size; simp; omega
  · have := h.evo.size
    rw [← h.evo.frame x hx' hn']
    simp [Array.getElem?_push, Nat.ne_of_lt (Nat.lt_of_lt_of_le hx' this)]
  · by_cases e3 : p = nm
    · subst e3
      rw [upd_same] at hj; injection hj with hj; injection hj with hj _
      have := h.evo.size; exact .inl (by omega)
    · rw [upd_ne e3] at hj; exact h.evo.news p x j (by rw [← old e3]; exact hp) hj
theorem Gon.same {mD mD' : Mem} (h : Gon P ρ0 n0 m0 w0 ρ n mD w) (hm : ∀ p o, Tr.get p mD' = some o → Tr.get p mD = some o) : Gon P ρ0 n0 m0 w0 ρ n mD' w := ⟨h.le, h.fre, h.evo.sub hm⟩
section
variable {b : Frame} {cs : List Frame} {i : Nat} {rest : List Nat} {kk : List Item} {o : Oper} {x : RO}
/-- The machine does what the evaluator has done. -/
theorem late_ok (hs : Sta P N ops rs bf) (I : Inv P N ops rs bf ρ0 n0 m0 w0 pre dn lt fr m n ld ρ w a) (hi : ops[i]? = some o) (hx : rs[i]? = some x) (hlow : lowR P N ops o = some x) (hp : i ∈ pre) (hd : i ∉ dn) (hbef : ∀ j, j < ops.size → befB bf j i = true → j ∈ dn) :
    ∃ lt' ρ' w' a', Inv P N ops rs bf ρ0 n0 m0 w0 pre (i :: dn) lt' fr m n ld ρ' w' a' ∧ Ext ρ ρ' ∧ Steps P (lone (b.atR a (.inRegion ops (i :: rest) :: kk)) cs w) (lone (b.atR a' (.inRegion ops rest :: kk)) cs w') := by
  obtain ⟨hg, hdl, hl⟩ := lowR_parts hlow
  obtain ⟨hns, frj, hlook, hcase⟩ := I.late i x o hx hi hp hd
  have hrt := hlook.rtl hs I hbef
  have hnd : ∀ c, o.op ≠ .defer c := not_defer hl (.inr hns)
  have hev : EvR ρ (cutF x.o.nm frj) a.eval := (hrt.sub fun k hk => nm_look hk).evR
  -- what stays with the others
  have keepT : ∀ (y : Value) (i' : Nat) (x' : RO), rs[i']? = some x' → i' ∉ i :: dn → ∀ p : Pos, p.nat ∈ x'.look → ¬ Wr rs bf p i' → (a.put o.dst y).tmps[p.nat]? = a.tmps[p.nat]? := fun y i' x' h1 h2 p h3 h4 => by
    refine tm_ne hdl (fun e => ?_) a y
    rcases hs.ord hx h1 e h3 with h5 | h5
    · exact h4 ⟨i, x, hx, e, h5⟩
    · exact h2 (List.mem_cons_of_mem _ (hbef i' (at_lt hs h1) h5))
  have keepR : ∀ {ρ' : Env} (y : Value) (v : SV), Ext ρ ρ' → (∀ p, x.d = .to p → Tr.get p fr = some v) → VR ρ' v y → ∀ p u, Tr.get p fr = some u → (∀ (i' : Nat) x', rs[i']? = some x' → x'.d = .to p → i' ∈ pre → i' ∈ i :: dn) → ∃ z, (a.put o.dst y).tmps[p.nat]? = some z ∧ VR ρ' u z := fun {ρ'} y v he hv hvy p u hu hcond => by
    by_cases e : x.d = .to p
    · rw [hv p e] at hu; injection hu with hu; subst hu
      exact ⟨y, tm_eq hdl e I.size y, hvy⟩
    · obtain ⟨z, h1, h2⟩ := I.rt p u hu fun i' x' h3 h4 h5 => by
        rcases List.mem_cons.1 (hcond i' x' h3 h4 h5) with rfl | h6
        · rw [hx] at h3; injection h3 with h3; subst h3; exact absurd h4 e
        · exact h6
      exact ⟨z, by rw [tm_ne hdl e]; exact h1, VR.mono he _ _ h2⟩
  have cl : ∀ i' j, i' ∈ i :: dn → j < ops.size → befB bf j i' = true → j ∈ i :: dn := fun i' j h1 h2 h3 => by
    rcases List.mem_cons.1 h1 with rfl | h1
    · exact List.mem_cons_of_mem _ (hbef j h2 h3)
    · exact List.mem_cons_of_mem _ (I.dcl i' j h1 h2 h3)
  have sb : ∀ i' ∈ i :: dn, i' ∈ pre := fun i' h1 => by
    rcases List.mem_cons.1 h1 with rfl | h1
    · exact hp
    · exact I.sub i' h1
  have plain : ∀ (y : Value) (v : SV), (∀ p, (i, p) ∉ lt) → (∀ p, x.d = .to p → Tr.get p fr = some v) → VR ρ v y → Inv P N ops rs bf ρ0 n0 m0 w0 pre (i :: dn) lt fr m n ld ρ w (a.put o.dst y) := fun y v hno hv hvy =>
    { md := I.md, size := by rw [tm_size]; exact I.size, ldr := by rw [put_ld]; exact I.ldr, rt := keepR y v (.refl _) hv hvy, sub := sb, dcl := cl, pcl := I.pcl, bnd := I.bnd,
      late := fun i' x' o' h1 h2 h3 h4 => by
        obtain ⟨h5, frj', h6, h7⟩ := I.late i' x' o' h1 h2 h3 (fun h => h4 (List.mem_cons_of_mem _ h))
        exact ⟨h5, frj', h6.tm (keepT y i' x' h1 h4), h7⟩,
      ltok := fun i' p h1 => by
        obtain ⟨h2, h3, h4⟩ := I.ltok i' p h1
        refine ⟨h2, fun h => ?_, h4⟩
        rcases List.mem_cons.1 h with rfl | h
        · exact hno p h1
        · exact h3 h,
      ltinj := I.ltinj }
  rcases hcase with ⟨h1, h2, h3⟩ | ⟨h1, h2, h3, v, mj, h4, h5, _, h6⟩ | ⟨h1, h2, v, nm, ob, h3, h4, h5, h6, h7⟩
  · exact ⟨lt, ρ, w, _, plain undef undef_ h2 h3 (undef_ok ρ), .refl _, Steps.one (st_off hi (off_ok hg h1 (hrt.sub fun k hk => g_look hk)))⟩
  · obtain ⟨mD, g1, g2⟩ := I.md
    have hrel : Rel P ρ n mj w := g2.rel.sub fun q oq hq => by
      obtain ⟨e1, e2⟩ := h6 q oq hq
      rw [g1, if_neg, e1]
      intro hmem
      obtain ⟨⟨j, q'⟩, e3, rfl⟩ := List.mem_map.1 hmem
      obtain ⟨_, e4, _, _, _, z, e5, _⟩ := I.ltok j q' e3
      exact e4 (hbef j (at_lt hs e5) (e2 j e3))
    obtain ⟨y, e1, e2⟩ := h5 ρ n w a.eval o.dst o.type o.pos o.after o.guard hrel hev
    refine ⟨lt, ρ, w, _, plain y v h3 h4 e1, .refl _, Steps.one (st_val hi (on_ok hg h1 (hrt.sub fun k hk => g_look hk)) (nx := .value y) ?_ (.inl rfl))⟩
    rw [Oper.semAt_eq _ _ _ hnd]; exact e2
  · obtain ⟨mD, g1, g2⟩ := I.md
    obtain ⟨k, rl, y, dr, e1, e2, e3⟩ := h6 ρ w a.eval o.dst o.type o.pos o.after o.guard hev
    obtain ⟨_, _, hnn, hn0, hn1, _⟩ := I.ltok i nm h3
    have hext : Ext ρ (upd ρ nm (w.heap.size, k)) := upd_ext hnn
    obtain ⟨e4, e5⟩ := e2 _ hext upd_same
    have hname : ∀ j q, (j, q) ∈ lt → (j = i ↔ q = nm) := fun j q hq => I.ltinj j i q nm hq h3
    let lt' := lt.filter fun e => !(e.1 == i)
    have hlt' : ∀ j q, (j, q) ∈ lt' ↔ (j, q) ∈ lt ∧ j ≠ i := fun j q => by simp [lt']
    have hgon := g2.real (mD' := Tr.put nm mD ob) hnn hn0 hn1 e1 e5 fun p => by
      by_cases e : nm = p
      · subst e; rw [get_put_same, if_pos rfl]
      · rw [get_put_ne nm p mD ob e, if_neg (Ne.symm e)]
    refine ⟨lt', upd ρ nm (w.heap.size, k), { w with heap := w.heap.push rl, drawn := dr }, a.put o.dst y, ?_, hext, Steps.one (st_val hi (on_ok hg h1 (hrt.sub fun k hk => g_look hk)) (nx := .value y) ?_ (.inl rfl))⟩
    · refine { md := ⟨_, fun p => ?_, hgon⟩, size := by rw [tm_size]; exact I.size, ldr := by rw [put_ld]; exact I.ldr.mono hext, rt := keepR y v hext h5 e4, sub := sb, dcl := cl, pcl := I.pcl, bnd := I.bnd, late := fun i' x' o' q1 q2 q3 q4 => ?_, ltok := fun i' p q1 => ?_, ltinj := fun i' j p q q1 q2 => I.ltinj i' j p q ((hlt' _ _).1 q1).1 ((hlt' _ _).1 q2).1 }
      · by_cases e : nm = p
        · subst e
          rw [get_put_same, if_neg, h7]
          intro hmem
          obtain ⟨⟨j, q⟩, q1, rfl⟩ := List.mem_map.1 hmem
          obtain ⟨q2, q3⟩ := (hlt' j q).1 q1
          exact q3 ((hname j q q2).2 rfl)
        · rw [get_put_ne nm p mD ob e, g1]
          have : p ∈ lt.map (·.2) ↔ p ∈ lt'.map (·.2) := by
            constructor
            · intro hmem
              obtain ⟨⟨j, q⟩, q1, rfl⟩ := List.mem_map.1 hmem
              exact List.mem_map.2 ⟨(j, q), (hlt' j q).2 ⟨q1, fun q2 => e ((hname j q q1).1 q2).symm⟩, rfl⟩
            · intro hmem
              obtain ⟨⟨j, q⟩, q1, rfl⟩ := List.mem_map.1 hmem
              exact List.mem_map.2 ⟨(j, q), ((hlt' j q).1 q1).1, rfl⟩
          by_cases e2 : p ∈ lt.map (·.2)
          · rw [if_pos e2, if_pos (this.1 e2)]
          · rw [if_neg e2, if_neg (fun h => e2 (this.2 h))]
      · have hne : i' ≠ i := fun e => q4 (by simp [e])
        obtain ⟨r1, frj', r2, r3⟩ := I.late i' x' o' q1 q2 q3 (fun h => q4 (List.mem_cons_of_mem _ h))
        refine ⟨r1, frj', (r2.tm (keepT y i' x' q1 q4)).mono hext, ?_⟩
        rcases r3 with ⟨r4, r5, r6⟩ | ⟨r4, r5, r6, v', mj, r7, r8, r9, r10⟩ | ⟨r4, r5, v', nm', ob', r6, r7⟩
        · exact .inl ⟨r4, fun p hp => r5 p ((hlt' _ _).1 hp).1, r6⟩
        · exact .inr (.inl ⟨r4, r5, fun p hp => r6 p ((hlt' _ _).1 hp).1, v', mj, r7, r8, r9, fun q oq hq => ⟨(r10 q oq hq).1, fun j hj => (r10 q oq hq).2 j ((hlt' _ _).1 hj).1⟩⟩)
        · exact .inr (.inr ⟨r4, r5, v', nm', ob', (hlt' _ _).2 ⟨r6, hne⟩, r7⟩)
      · obtain ⟨q2, q3⟩ := (hlt' i' p).1 q1
        obtain ⟨r1, r2, r3, r4⟩ := I.ltok i' p q2
        refine ⟨r1, fun h => ?_, ?_, r4⟩
        · rcases List.mem_cons.1 h with rfl | h
          · exact q3 rfl
          · exact r2 h
        · rw [upd_ne (fun e => q3 ((hname i' p q2).2 e))]; exact r3
    · rw [Oper.semAt_eq _ _ _ hnd]; exact e3
end
end
end Go.Ev
end
section
set_option linter.all false
set_option linter.unusedVariables false
set_option linter.unusedSimpArgs false
namespace Go.Ev
open Go
section
variable {P : Program} {N : Nat} {ops : Array Oper} {rs : Array RO} {bf : Array Nat} {ρ0 : Env} {n0 : Pos} {m0 : Mem} {w0 : World} {pre dn : List Nat} {lt : List (Nat × Pos)} {fr : Fm} {m : Mem} {n : Pos} {ld : LD} {ρ : Env} {w : World} {a : Act}
variable {o : Oper} {x : RO} {j : Nat}
/-- What an operation looks at is what the machine holds, or was written by one ahead of it. -/
theorem look_now (hs : Sta P N ops rs bf) (I : Inv P N ops rs bf ρ0 n0 m0 w0 pre dn lt fr m n ld ρ w a) (hx : rs[j]? = some x) (hj : j ∉ pre) (v : SV) : Look rs bf (putD x.d fr v) ρ a.tmps j x fr := fun p u hp hu => by
  have hne : x.d ≠ .to p := fun e => hs.self hx e hp
  by_cases hw : Wr rs bf p j
  · exact .inl ⟨hw, by rw [putD_ne hne]; exact hu⟩
  · refine .inr ⟨hw, I.rt p u hu fun i y hi hy hpre => ?_⟩
    rcases hs.ord hi hx hy hp with h | h
    · exact absurd ⟨i, y, hi, hy, h⟩ hw
    · exact absurd (I.pcl i j hpre (at_lt hs hx) h) hj
/-- What the evaluator had done ahead stays ahead. -/
theorem Late.go (hs : Sta P N ops rs bf) (I : Inv P N ops rs bf ρ0 n0 m0 w0 pre dn lt fr m n ld ρ w a) (hx : rs[j]? = some x) (hj : j ∉ pre) {v : SV} {lt' : List (Nat × Pos)} {m' : Mem} {i : Nat} {y : RO} {op : Op} (hi : rs[i]? = some y) (hp : i ∈ pre)
    (hlt : ∀ k q, (k, q) ∈ lt' → (k, q) ∈ lt ∨ k = j ∧ Tr.get q m = none) (hlt2 : ∀ k q, (k, q) ∈ lt → (k, q) ∈ lt') (hm : ∀ q ob, Tr.get q m = some ob → Tr.get q m' = some ob) (h : Late P rs bf lt fr m ρ a.tmps i y op) :
    Late P rs bf lt' (putD x.d fr v) m' ρ a.tmps i y op := by
  have hne : i ≠ j := fun e => hj (e ▸ hp)
  obtain ⟨h1, frj, h2, h3⟩ := h
  have hd : ∀ p, y.d = .to p → Tr.get p (putD x.d fr v) = Tr.get p fr := fun p e => putD_ne fun e2 => hne (hs.one hi hx e e2)
  refine ⟨h1, frj, h2.frm fun p hw => putD_ne fun e => ?_, ?_⟩
  · obtain ⟨k, z, hk, hz, hb⟩ := hw
    have := hs.one hk hx hz e; subst this
    exact hj (I.pcl i k hp (at_lt hs hk) hb)
  · rcases h3 with ⟨r4, r5, r6⟩ | ⟨r4, r5, r6, v', mj, r7, r8, r9, r10⟩ | ⟨r4, r5, v', nm', ob', r6, r7, r8, r9, r10⟩
    · refine .inl ⟨r4, fun p hp => ?_, fun p e => by rw [hd p e]; exact r6 p e⟩
      rcases hlt _ _ hp with h | ⟨h, _⟩
      · exact r5 p h
      · exact hne h
    · refine .inr (.inl ⟨r4, r5, fun p hp => ?_, v', mj, fun p e => by rw [hd p e]; exact r7 p e, r8, r9, fun q oq hq => ⟨hm q oq (r10 q oq hq).1, fun k hk => ?_⟩⟩)
      · rcases hlt _ _ hp with h | ⟨h, _⟩
        · exact r6 p h
        · exact hne h
      · rcases hlt _ _ hk with h | ⟨_, h⟩
        · exact (r10 q oq hq).2 k h
        · rw [(r10 q oq hq).1] at h; cases h
    · exact .inr (.inr ⟨r4, r5, v', nm', ob', hlt2 _ _ r6, r7, fun p e => by rw [hd p e]; exact r8 p e, r9, hm _ _ r10⟩)
theorem Evo.up {n' : Pos} {mD : Mem} (h : Gon P ρ0 n0 m0 w0 ρ n mD w) (hn : n.nat ≤ n'.nat) : Gon P ρ0 n0 m0 w0 ρ n' mD w :=
  ⟨Nat.le_trans h.le hn, fun p hp => h.fre p (by omega), ⟨h.ext, fun p hp => h.evo.out p (by rcases hp with hp | hp; exact .inl hp; exact .inr (by omega)), ⟨h.rel.inj, h.rel.mem⟩, h.evo.os, h.evo.tape, h.evo.output, h.evo.drawn, h.evo.size, h.evo.frame, h.evo.news⟩⟩
/-- The evaluator does one more; the machine has not done it. -/
theorem Inv.step (hs : Sta P N ops rs bf) (I : Inv P N ops rs bf ρ0 n0 m0 w0 pre dn lt fr m n ld ρ w a) (hx : rs[j]? = some x) (ho : ops[j]? = some o) (hj : j ∉ pre) (hlin : ∀ i, i < ops.size → befB bf i j = true → i ∈ pre) {v : SV}
    (hl : Late P rs bf lt (putD x.d fr v) m ρ a.tmps j x o.op) : Inv P N ops rs bf ρ0 n0 m0 w0 (j :: pre) dn lt (putD x.d fr v) m n ld ρ w a where
  md := I.md
  size := I.size
  ldr := I.ldr
  rt := fun p u hu hc => by
    have hne : x.d ≠ .to p := fun e => hj (I.sub j (hc j x hx e (by simp)))
    rw [putD_ne hne] at hu
    exact I.rt p u hu fun i y hi hy hp => hc i y hi hy (List.mem_cons_of_mem _ hp)
  sub := fun i hi => List.mem_cons_of_mem _ (I.sub i hi)
  dcl := I.dcl
  pcl := fun i k hi hk hb => by
    rcases List.mem_cons.1 hi with rfl | hi
    · exact List.mem_cons_of_mem _ (hlin k hk hb)
    · exact List.mem_cons_of_mem _ (I.pcl i k hi hk hb)
  bnd := fun i hi => by
    rcases List.mem_cons.1 hi with rfl | hi
    · exact at_lt hs hx
    · exact I.bnd i hi
  late := fun i y o' hi ho' hp hd => by
    rcases List.mem_cons.1 hp with rfl | hp
    · rw [hx] at hi; injection hi with hi; subst hi
      rw [ho] at ho'; injection ho' with ho'; subst ho'
      exact hl
    · exact (I.late i y o' hi ho' hp hd).go hs I hx hj hi hp (fun k q h => .inl h) (fun k q h => h) fun q ob h => h
  ltok := fun i p h => by
    obtain ⟨h1, h2⟩ := I.ltok i p h
    exact ⟨List.mem_cons_of_mem _ h1, h2⟩
  ltinj := I.ltinj
/-- The evaluator makes a block; the machine has not made it. -/
theorem Inv.make (hs : Sta P N ops rs bf) (I : Inv P N ops rs bf ρ0 n0 m0 w0 pre dn lt fr m n ld ρ w a) (hx : rs[j]? = some x) (ho : ops[j]? = some o) (hj : j ∉ pre) (hlin : ∀ i, i < ops.size → befB bf i j = true → i ∈ pre) (hk : kd x.o = .a) {v : SV} {ob : SO}
    (hon : GdOn x.g fr) (hv : SV.nm v = some n) (ha : AOk P (cutF x.o.nm fr) o.op n ob v) : Inv P N ops rs bf ρ0 n0 m0 w0 (j :: pre) dn ((j, n) :: lt) (putD x.d fr v) (Tr.put n m ob) n.succ ld ρ w a := by
  obtain ⟨mD, hmD, hgo⟩ := I.md
  have hsn : n.succ.nat = n.nat + 1 := Pos.nat_succ n
  have hnD : Tr.get n mD = none := by
    cases h : Tr.get n mD with
    | none => rfl
    | some z =>
      obtain ⟨_, _, _, h1, _⟩ := hgo.rel.mem n z h
      rw [hgo.fre n (Nat.le_refl _)] at h1; cases h1
  have hnl : n ∉ lt.map (·.2) := fun h => by
    obtain ⟨⟨i, q⟩, h1, rfl⟩ := List.mem_map.1 h
    have := (I.ltok i q h1).2.2.2.2.1
    simp only at this; omega
  have hnm : Tr.get n m = none := by rw [← hnD, hmD, if_neg hnl]
  have hm : ∀ q ob', Tr.get q m = some ob' → Tr.get q (Tr.put n m ob) = some ob' := fun q ob' h => by
    rw [get_put_ne n q m ob (fun e => by subst e; rw [hnm] at h; cases h)]; exact h
  refine { md := ⟨mD, fun p => ?_, Evo.up hgo (by omega)⟩, size := I.size, ldr := I.ldr, rt := fun p u hu hc => ?_, sub := fun i hi => List.mem_cons_of_mem _ (I.sub i hi), dcl := I.dcl, pcl := fun i k hi hk hb => ?_, bnd := fun i hi => ?_, late := fun i y o' hi ho' hp hd => ?_, ltok := fun i p h => ?_, ltinj := fun i k p q h1 h2 => ?_ }
  · by_cases e : n = p
    · subst e; rw [hnD, if_pos (by simp)]
    · rw [hmD, get_put_ne n p m ob e]
      have : p ∈ ((j, n) :: lt).map (·.2) ↔ p ∈ lt.map (·.2) := by simp [Ne.symm e]
      by_cases e2 : p ∈ lt.map (·.2)
      · rw [if_pos e2, if_pos (this.2 e2)]
      · rw [if_neg e2, if_neg (fun h => e2 (this.1 h))]
  · have hne : x.d ≠ .to p := fun e => hj (I.sub j (hc j x hx e (by simp)))
    rw [putD_ne hne] at hu
    exact I.rt p u hu fun i y hi hy hp => hc i y hi hy (List.mem_cons_of_mem _ hp)
  · rcases List.mem_cons.1 hi with rfl | hi
    · exact List.mem_cons_of_mem _ (hlin k hk hb)
    · exact List.mem_cons_of_mem _ (I.pcl i k hi hk hb)
  · rcases List.mem_cons.1 hi with rfl | hi
    · exact at_lt hs hx
    · exact I.bnd i hi
  · rcases List.mem_cons.1 hp with rfl | hp
    · rw [hx] at hi; injection hi with hi; subst hi
      rw [ho] at ho'; injection ho' with ho'; subst ho'
      exact ⟨by rw [hk]; simp, fr, look_now hs I hx hj v, .inr (.inr ⟨hon, hk, v, n, ob, by simp, hv, fun p e => putD_eq e, ha, get_put_same n m ob⟩)⟩
    · exact (I.late i y o' hi ho' hp hd).go hs I hx hj hi hp (fun k q h => by
        rcases List.mem_cons.1 h with h | h
        · injection h with h3 h4; subst h3 h4; exact .inr ⟨rfl, hnm⟩
        · exact .inl h) (fun k q h => List.mem_cons_of_mem _ h) hm
  · rcases List.mem_cons.1 h with h | h
    · injection h with h3 h4; subst h3 h4
      exact ⟨by simp, fun h => hj (I.sub _ h), hgo.fre p (Nat.le_refl _), hgo.le, by omega, x, hx, hk⟩
    · obtain ⟨h1, h2, h3, h4, h5, h6⟩ := I.ltok i p h
      exact ⟨List.mem_cons_of_mem _ h1, h2, h3, h4, by omega, h6⟩
  · have key : ∀ i p, (i, p) ∈ lt → i ≠ j ∧ p ≠ n := fun i p h => ⟨fun e => hj (e ▸ (I.ltok i p h).1), fun e => hnl (List.mem_map.2 ⟨(i, p), h, e⟩)⟩
    rcases List.mem_cons.1 h1 with g1 | g1
    · injection g1 with e1 e2
      rcases List.mem_cons.1 h2 with g2 | g2
      · injection g2 with e3 e4; rw [e1, e2, e3, e4]; simp
      · have := key k q g2; rw [e1, e2]; exact ⟨fun e => absurd e.symm this.1, fun e => absurd e.symm this.2⟩
    · rcases List.mem_cons.1 h2 with g2 | g2
      · injection g2 with e3 e4
        have := key i p g1; rw [e3, e4]; exact ⟨fun e => absurd e this.1, fun e => absurd e this.2⟩
      · exact I.ltinj i k p q g1 g2
/-- The evaluator goes on to the next effect. -/
theorem ahead {cl : Cl} {rl : Rl} {cx : Cx} {c : Fm → Mem → Pos → LD → Prop → Prop} {k : Prop} (hs : Sta P N ops rs bf) : ∀ (suf pre : List Nat) (lt : List (Nat × Pos)) (fr : Fm) (m : Mem) (n : Pos) (r : LR), Inv P N ops rs bf ρ0 n0 m0 w0 pre dn lt fr m n ld ρ w a →
    mixR rs bf pre suf = some r → linR bf ops.size pre suf = true → restR rs bf pre suf = true → regK false cl rl cx r fr m n ld c k →
    ∃ suf' pre' lt' fr' m' n' r', Inv P N ops rs bf ρ0 n0 m0 w0 pre' dn lt' fr' m' n' ld ρ w a ∧ mixR rs bf pre' suf' = some r' ∧ linR bf ops.size pre' suf' = true ∧ restR rs bf pre' suf' = true ∧ regK false cl rl cx r' fr' m' n' ld c k ∧
      (suf' = [] ∨ ∃ s r x, suf' = s :: r ∧ rs[s]? = some x ∧ kd x.o = .s)
  | [], pre, lt, fr, m, n, r, I, h1, h2, h3, h => ⟨[], pre, lt, fr, m, n, r, I, h1, h2, h3, h, .inl rfl⟩
  | j :: suf, pre, lt, fr, m, n, r, I, h1, h2, h3, h => by
    have h1' := h1
    simp only [mixR] at h1
    split at h1
    · cases h1
    · rename_i x hx
      split at h1
      · rename_i re hd r' hre hhd hr'
        injection h1 with h1; subst h1
        have h2' := h2
        simp only [linR, Bool.and_eq_true, decide_eq_true_eq] at h2
        obtain ⟨hlt, hnp, hall, hlin'⟩ := h2
        have hj : j ∉ pre := by simpa using hnp
        have hlin : ∀ i, i < ops.size → befB bf i j = true → i ∈ pre := fun i hi hb => by
          have := List.all_eq_true.1 hall i (List.mem_range.2 hi)
          simpa [hb] using this
        have h3' := h3
        simp only [restR, hx, Bool.and_eq_true] at h3
        obtain ⟨hrest, hrest'⟩ := h3
        obtain ⟨o, ho⟩ : ∃ o, ops[j]? = some o := ⟨ops[j], by simp [hlt]⟩
        obtain ⟨x', hx', hlow⟩ := hs.low ho
        rw [hx] at hx'; injection hx' with hx'; subst hx'
        obtain ⟨_, _, hl⟩ := lowR_parts hlow
        have off : kd x.o ≠ .s → (∀ p, (j, p) ∉ lt) → GdOff x.g fr → Inv P N ops rs bf ρ0 n0 m0 w0 (j :: pre) dn lt (putD x.d fr undef_) m n ld ρ w a := fun e1 e2 e3 =>
          I.step hs hx ho hj hlin ⟨e1, fr, look_now hs I hx hj undef_, .inl ⟨e3, e2, fun p e => putD_eq e⟩⟩
        have hno : ∀ p, (j, p) ∉ lt := fun p hp => hj (I.ltok j p hp).1
        cases hk : kd x.o with
        | s => exact ⟨j :: suf, pre, lt, fr, m, n, _, I, h1', h2', h3', h, .inr ⟨j, suf, x, rfl, hx, hk⟩⟩
        | q =>
          unfold addR at h
          rw [hk] at h hrest
          rcases gdK_ok h with ⟨e1, e2⟩ | ⟨e1, e2⟩
          · have e3 : qK x.o (cutF x.o.nm fr) (if pureQ x.o then .leaf else m) (fun v => dsK x.d fr v fun fr => regK false cl rl cx r' fr m n ld c k) := by
              rw [← qK_cut (cut_agr x.o.nm fr)]
              split
              · rename_i hp; rw [← pure_leaf hp]; exact e2
              · exact e2
            obtain ⟨v, e4, e5⟩ := q_all hl hk e3
            have I' := I.step hs hx ho hj hlin (v := v) ⟨by rw [hk]; simp, fr, look_now hs I hx hj v, .inr (.inl ⟨e1, hk, hno, v, _, fun p e => putD_eq e, e5, fun hp => by rw [if_pos hp], fun q ob hq => ?_⟩)⟩
            · exact ahead hs suf (j :: pre) lt _ m n r' I' hr' hlin' hrest' (dsK_ok e4)
            · split at hq
              · rw [get_leaf] at hq; cases hq
              · rename_i hp
                refine ⟨hq, fun i hi => ?_⟩
                obtain ⟨g1, _, _, _, _, z, g2, g3⟩ := I.ltok i q hi
                simp only [hp, Bool.false_or] at hrest
                have := List.all_eq_true.1 hrest i g1
                simpa [isA, g2, g3] using this
          · exact ahead hs suf (j :: pre) lt _ m n r' (off (by rw [hk]; simp) hno e1) hr' hlin' hrest' (dsK_ok e2)
        | a =>
          unfold addR at h
          rw [hk] at h
          rcases gdK_ok h with ⟨e1, e2⟩ | ⟨e1, e2⟩
          · rw [aK_cut (cut_agr x.o.nm fr), ← aK_nm] at e2
            obtain ⟨ob, v, ⟨e3, e4⟩, e5⟩ := a_all hl hk e2
            have e6 := succK_ok n _ (putK_ok n m ob _ e4)
            exact ahead hs suf (j :: pre) _ _ _ _ r' (I.make hs hx ho hj hlin hk e1 e3 e5) hr' hlin' hrest' (dsK_ok e6)
          · exact ahead hs suf (j :: pre) lt _ m n r' (off (by rw [hk]; simp) hno e1) hr' hlin' hrest' (dsK_ok e2)
      · cases h1
end
end Go.Ev
end
