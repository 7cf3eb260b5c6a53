/-
  The evaluator's memory among the things that a call owns. Calls that the evaluator has run, in the logic of the walks; blocks of a call go over to the evaluator. Calls that read alone, known by a walk, in the evaluator's table. A look-up by a row of bytes that no entry bears. Names of blocks, and shorthands for values under names. Calls with known outcomes: what they are. The store of the law's example. Calls for a prime: what is to be shown. No condition.
-/
import Derived.Test.YtbfeggodaaojgaaGreatDoorBa01
import Derived.Test.YtbfeggodaaojgaaGreatDoorBa08
import Derived.Test.YtbfeggodaaojgaaGreatDoorBa03
import Derived.Test.YtbfeggodaaojgaaGreatDoorProg
set_option linter.all false
section
set_option linter.all false
set_option linter.unusedVariables false
set_option linter.unusedSimpArgs false
namespace Go.Sy
open Go Go.Ev

/-- The blocks of a memory under names. -/
def lives : Mem → List (Pos × Ev.SO)
  | .leaf => []
  | .nodeN l r => ((lives l).map fun x => (Pos.l x.1, x.2)) ++ (lives r).map fun x => (Pos.r x.1, x.2)
  | .nodeS l v r => (Pos.e, v) :: (((lives l).map fun x => (Pos.l x.1, x.2)) ++ (lives r).map fun x => (Pos.r x.1, x.2))
theorem mem_lives : ∀ (m : Mem) (p : Pos) (o : Ev.SO), (p, o) ∈ lives m ↔ Tr.get p m = some o
  | .leaf, p, o => by rw [get_leaf]; simp [lives]
  | .nodeN l r, p, o => by
    cases p with
    | e => simp [lives, Tr.get]
    | l p => have := mem_lives l p o; simp only [lives, List.mem_append, List.mem_map]; rw [show Tr.get (Pos.l p) (Tr.nodeN l r) = Tr.get p l from rfl, ← this]
             constructor
             · rintro (⟨x, h1, h2⟩ | ⟨x, h1, h2⟩)
               · injection h2 with h3 h4; injection h3 with h3; subst h3 h4; exact h1
               · injection h2 with h3 h4; cases h3
             · exact fun h => .inl ⟨_, h, rfl⟩
    | r p => have := mem_lives r p o; simp only [lives, List.mem_append, List.mem_map]; rw [show Tr.get (Pos.r p) (Tr.nodeN l r) = Tr.get p r from rfl, ← this]
             constructor
             · rintro (⟨x, h1, h2⟩ | ⟨x, h1, h2⟩)
               · injection h2 with h3 h4; cases h3
               · injection h2 with h3 h4; injection h3 with h3; subst h3 h4; exact h1
             · exact fun h => .inr ⟨_, h, rfl⟩
  | .nodeS l v r, p, o => by
    cases p with
    | e =>
      rw [show Tr.get Pos.e (Tr.nodeS l v r) = some v from rfl]
      simp only [lives, List.mem_cons, List.mem_append, List.mem_map]
      constructor
      · rintro (h | ⟨x, h1, h2⟩ | ⟨x, h1, h2⟩)
        · injection h with _ h; subst h; rfl
        · injection h2 with h3 h4; cases h3
        · injection h2 with h3 h4; cases h3
      · intro h; injection h with h; subst h; exact .inl rfl
    | l p => have := mem_lives l p o; simp only [lives, List.mem_cons, List.mem_append, List.mem_map]; rw [show Tr.get (Pos.l p) (Tr.nodeS l v r) = Tr.get p l from rfl, ← this]
             constructor
             · rintro (h | ⟨x, h1, h2⟩ | ⟨x, h1, h2⟩)
               · injection h with h _; cases h
               · injection h2 with h3 h4; injection h3 with h3; subst h3 h4; exact h1
               · injection h2 with h3 h4; cases h3
             · exact fun h => .inr (.inl ⟨_, h, rfl⟩)
    | r p => have := mem_lives r p o; simp only [lives, List.mem_cons, List.mem_append, List.mem_map]; rw [show Tr.get (Pos.r p) (Tr.nodeS l v r) = Tr.get p r from rfl, ← this]
             constructor
             · rintro (h | ⟨x, h1, h2⟩ | ⟨x, h1, h2⟩)
               · injection h with h _; cases h
               · injection h2 with h3 h4; cases h3
               · injection h2 with h3 h4; injection h3 with h3; subst h3 h4; exact h1
             · exact fun h => .inr (.inr ⟨_, h, rfl⟩)
theorem nodup_lives : ∀ (m : Mem), (lives m).Pairwise fun x y => x.1 ≠ y.1
  | .leaf => .nil
  | .nodeN l r => by
    refine List.pairwise_append.2 ⟨List.pairwise_map.2 ((nodup_lives l).imp fun h e => h (by injection e)), List.pairwise_map.2 ((nodup_lives r).imp fun h e => h (by injection e)), fun x hx y hy e => ?_⟩
    obtain ⟨_, _, rfl⟩ := List.mem_map.1 hx; obtain ⟨_, _, rfl⟩ := List.mem_map.1 hy; cases e
  | .nodeS l v r => by
    refine List.pairwise_cons.2 ⟨fun y hy e => ?_, List.pairwise_append.2 ⟨List.pairwise_map.2 ((nodup_lives l).imp fun h e => h (by injection e)), List.pairwise_map.2 ((nodup_lives r).imp fun h e => h (by injection e)), fun x hx y hy e => ?_⟩⟩
    · rcases List.mem_append.1 hy with hy | hy <;> (obtain ⟨_, _, rfl⟩ := List.mem_map.1 hy; cases e)
    · obtain ⟨_, _, rfl⟩ := List.mem_map.1 hx; obtain ⟨_, _, rfl⟩ := List.mem_map.1 hy; cases e

section
variable (P : Program)
def entE (ρ : Env) (x : Pos × Ev.SO) : Ent := ⟨(ρ x.1).map (·.1), fun h => ∃ a k ob, ρ x.1 = some (a, k) ∧ h = some ob ∧ OR P ρ k x.2 ob⟩
/-- The evaluator's memory. -/
def ents (ρ : Env) (m : Mem) : Own := (lives m).map (entE P ρ)
end
section
variable {P : Program} {E : World} {g : PH}
theorem mem_ents {ρ : Env} {m : Mem} {p : Pos} {o : Ev.SO} (h : Tr.get p m = some o) : entE P ρ (p, o) ∈ ents P ρ m := List.mem_map.2 ⟨_, (mem_lives m p o).2 h, rfl⟩
theorem At.rel {ρ : Env} {n : Pos} {m : Mem} {w : World} {s1 s2 : Own} (h : At E g (s1 ++ (ents P ρ m ++ s2)) w) : Rel P ρ n m w := by
  have hown : ∀ p o, Tr.get p m = some o → ∃ a k ob, ρ p = some (a, k) ∧ w.heap[a]? = some ob ∧ OR P ρ k o ob := fun p o hp => by
    obtain ⟨a, k, ob, h1, h2, h3⟩ := h.own (entE P ρ (p, o)) (by simp [mem_ents hp])
    refine ⟨a, k, ob, h1, ?_, h3⟩
    simpa [entE, h1] using h2
  refine ⟨fun p q a k k' hp hq h1 h2 => ?_, hown⟩
  obtain ⟨o, ho⟩ := Option.ne_none_iff_exists'.1 hp
  obtain ⟨o', ho'⟩ := Option.ne_none_iff_exists'.1 hq
  have hap : (ents P ρ m).Pairwise Apart := (List.pairwise_append.1 (List.pairwise_append.1 h.apart).2.1).1
  refine Classical.byContradiction fun hne => ?_
  have key := List.pairwise_map.1 hap
  have hx := (mem_lives m p o).2 ho
  have hy := (mem_lives m q o').2 ho'
  have hall : ∀ (l : List (Pos × Ev.SO)), l.Pairwise (fun x y => Apart (entE P ρ x) (entE P ρ y)) → (p, o) ∈ l → (q, o') ∈ l → False := by
    intro l hl
    induction hl with
    | nil => intro h; cases h
    | cons h3 _ ih =>
      intro h4 h5
      rcases List.mem_cons.1 h4 with h6 | h6
      · subst h6
        rcases List.mem_cons.1 h5 with h7 | h7
        · injection h7 with h7; exact hne h7.symm
        · exact h3 _ h7 a (by simp [entE, h1]) (by simp [entE, h2])
      · rcases List.mem_cons.1 h5 with h7 | h7
        · subst h7; exact h3 _ h6 a (by simp [entE, h2]) (by simp [entE, h1])
        · exact ih h6 h7
  exact hall _ key hx hy
/-- The evaluator's memory goes on; nothing else is touched. -/
theorem At.gon {ρ ρ' : Env} {n n' : Pos} {m m' : Mem} {w w' : World} {s1 s2 : Own} (h : At E g (s1 ++ (ents P ρ m ++ s2)) w) (hg : Gon P ρ n m w ρ' n' m' w') : At E g (s1 ++ (ents P ρ' m' ++ s2)) w' := by
  have hapart := h.apart
  have hmid : ∀ e ∈ s1 ++ s2, ∀ p o, Tr.get p m = some o → Apart e (entE P ρ (p, o)) := fun e he p o hp => by
    have h1 := List.pairwise_append.1 h.apart
    rcases List.mem_append.1 he with h2 | h2
    · exact h1.2.2 e h2 _ (List.mem_append.2 (.inl (mem_ents hp)))
    · exact ((List.pairwise_append.1 h1.2.1).2.2 _ (mem_ents hp) e h2).symm
  have hkeep : ∀ e ∈ s1 ++ s2, ∀ b, e.blk = some b → b < w.heap.size ∧ w'.heap[b]? = w.heap[b]? := fun e he b hb => by
    have hlt := (h.fresh e (by rcases List.mem_append.1 he with h2 | h2 <;> simp [h2]) b hb).2
    refine ⟨hlt, hg.evo.frame b hlt fun p k hp hk => ?_⟩
    obtain ⟨o, ho⟩ := Option.ne_none_iff_exists'.1 hp
    exact hmid e he p o ho b hb (by simp [entE, hk])
  have hold : ∀ p o b, Tr.get p m = some o → (ρ p).map (·.1) = some b → g b = none := fun p o b hp hb => (h.fresh (entE P ρ (p, o)) (by simp [mem_ents hp]) b hb).1
  have hnew : ∀ x ∈ lives m', ∀ b, (entE P ρ' x).blk = some b → w.heap.size ≤ b ∨ ∃ p o, Tr.get p m = some o ∧ (ρ p).map (·.1) = some b := fun x hx b hb => by
    obtain ⟨⟨b', k⟩, h1, h2⟩ := Option.map_eq_some_iff.1 hb
    simp only at h2; subst h2
    have hx' := (mem_lives m' x.1 x.2).1 hx
    rcases hg.evo.news x.1 b' k (by rw [hx']; simp) h1 with h3 | ⟨q, j, h3, h4⟩
    · exact .inl h3
    · obtain ⟨o, ho⟩ := Option.ne_none_iff_exists'.1 h3
      exact .inr ⟨q, o, ho, by rw [h4]; rfl⟩
  refine ⟨hg.evo.os.trans h.os, ⟨hg.evo.tape.trans h.tape.1, Nat.le_trans h.tape.2 hg.evo.drawn⟩, hg.evo.output.trans h.output, fun b o hb => ?_, fun e he => ?_, fun e he b hb => ?_, ?_⟩
  · have hlt := h.lt hb
    rw [hg.evo.frame b hlt fun p k hp hk => ?_]
    · exact h.known b o hb
    · obtain ⟨o', ho⟩ := Option.ne_none_iff_exists'.1 hp
      have := hold p o' b ho (by rw [hk]; rfl)
      rw [hb] at this; cases this
  · have h1 : e ∈ s1 ++ s2 ∨ e ∈ ents P ρ' m' := by
      simp only [List.mem_append] at he ⊢
      rcases he with he | he | he
      · exact .inl (.inl he)
      · exact .inr he
      · exact .inl (.inr he)
    rcases h1 with h1 | h1
    · have h2 := h.own e (by rcases List.mem_append.1 h1 with h2 | h2 <;> simp [h2])
      cases hb : e.blk with
      | none => rw [hb] at h2; exact h2
      | some b => rw [hb] at h2; simpa [(hkeep e h1 b hb).2] using h2
    · obtain ⟨x, hx, rfl⟩ := List.mem_map.1 h1
      obtain ⟨a, k, ob, h2, h3, h4⟩ := hg.rel.mem x.1 x.2 ((mem_lives m' x.1 x.2).1 hx)
      refine ⟨a, k, ob, h2, ?_, h4⟩
      simpa [entE, h2] using h3
  · have h1 : e ∈ s1 ++ s2 ∨ e ∈ ents P ρ' m' := by
      simp only [List.mem_append] at he ⊢
      rcases he with he | he | he
      · exact .inl (.inl he)
      · exact .inr he
      · exact .inl (.inr he)
    rcases h1 with h1 | h1
    · have h2 := h.fresh e (by rcases List.mem_append.1 h1 with h2 | h2 <;> simp [h2]) b hb
      exact ⟨h2.1, Nat.lt_of_lt_of_le h2.2 hg.evo.size⟩
    · obtain ⟨x, hx, rfl⟩ := List.mem_map.1 h1
      constructor
      · rcases hnew x hx b hb with h3 | ⟨p, o, h3, h4⟩
        · cases h5 : g b with
          | none => rfl
          | some o => have := h.lt h5; omega
        · exact hold p o b h3 h4
      · obtain ⟨a, k, ob, h2, h3, h4⟩ := hg.rel.mem x.1 x.2 ((mem_lives m' x.1 x.2).1 hx)
        have : a = b := by simpa [entE, h2] using hb
        subst this
        exact (Array.getElem?_eq_some_iff.1 h3).1
  · have h1 := List.pairwise_append.1 h.apart
    have h2 := List.pairwise_append.1 h1.2.1
    have hx : ∀ e ∈ s1 ++ s2, ∀ e' ∈ ents P ρ' m', Apart e e' := fun e he e' he' b hb hb' => by
      obtain ⟨x, hx, rfl⟩ := List.mem_map.1 he'
      rcases hnew x hx b hb' with h3 | ⟨p, o, h3, h4⟩
      · have := (hkeep e he b hb).1; omega
      · exact hmid e he p o h3 b hb h4
    refine List.pairwise_append.2 ⟨h1.1, List.pairwise_append.2 ⟨?_, h2.2.1, fun e he e' he' => (hx e' (by simp [he']) e he).symm⟩, fun e he e' he' => ?_⟩
    · refine List.pairwise_map.2 ((nodup_lives m').imp_of_mem fun {x y} hx hy hne b hb hb' => ?_)
      obtain ⟨⟨b1, k⟩, h3, h4⟩ := Option.map_eq_some_iff.1 hb
      obtain ⟨⟨b2, k'⟩, h5, h6⟩ := Option.map_eq_some_iff.1 hb'
      simp only at h4 h6; rw [← h4] at h6
      exact hne (hg.rel.inj x.1 y.1 b1 k k' (by rw [(mem_lives m' x.1 x.2).1 hx]; simp) (by rw [(mem_lives m' y.1 y.2).1 hy]; simp) h3 (h6 ▸ h5))
    · rcases List.mem_append.1 he' with he' | he'
      · exact hx e (by simp [he]) e' he'
      · exact h1.2.2 e he e' (List.mem_append.2 (.inr he'))
/-- A call that the evaluator has run. -/
theorem Ctr.ev {cl : Cl} (h0 : ClOk P cl) {fn : Nat} {l : SV} {m : Mem} {n : Pos} {c : Co} {k : Prop} (hc : ∀ v m n, c v m n False = False) (h : cl fn l m n c k) {ρ : Env} (hf : Fre ρ n) {vs : List Value} (hl : LV ρ l vs) (s1 s2 : Own) :
    Ctr P E fn vs.toArray g (s1 ++ (ents P ρ m ++ s2)) fun x g' s' => g' = g ∧ ∃ v m' n' k' ρ', c v m' n' k' ∧ VR ρ' v x ∧ Ext ρ ρ' ∧ Fre ρ' n' ∧ s' = s1 ++ (ents P ρ' m' ++ s2) := fun w hw =>
  Calls.imp (h0 fn l m n c k hc h ρ w vs hw.rel hf hl).2 fun e w' ⟨v, m', n', k', ρ', x, h1, h2, h3, h4⟩ => ⟨x, g, _, h2, hw.gon h3, rfl, v, m', n', k', ρ', h1, h4, h3.ext, h3.fre, rfl⟩
end
end Go.Sy
end
section
set_option linter.all false
set_option linter.unusedVariables false
set_option linter.unusedSimpArgs false
namespace Go.Sy
open Go Go.Ev

section
variable {P : Program} {E : World} {g : PH}
theorem at_ents {ρ : Env} {m : Mem} {w : World} {s1 s2 : Own} (n : Pos) : At E g (s1 ++ (ents P ρ m ++ s2)) w ↔ At E g (s1 ++ s2) w ∧ Rel P ρ n m w ∧ ∀ p o a k, Tr.get p m = some o → ρ p = some (a, k) → g a = none ∧ ∀ e ∈ s1 ++ s2, e.blk ≠ some a := by
  constructor
  · intro h
    refine ⟨h.sublist (List.Sublist.append (.refl _) (List.sublist_append_right _ _)), h.rel, fun p o a k hp hk => ?_⟩
    have hb : (entE P ρ (p, o)).blk = some a := by simp [entE, hk]
    refine ⟨(h.fresh (entE P ρ (p, o)) (by simp [mem_ents hp]) a hb).1, fun e he h2 => ?_⟩
    have h1 := List.pairwise_append.1 h.apart
    rcases List.mem_append.1 he with h3 | h3
    · exact h1.2.2 e h3 _ (List.mem_append.2 (.inl (mem_ents hp))) a h2 hb
    · exact (List.pairwise_append.1 h1.2.1).2.2 _ (mem_ents hp) e h3 a hb h2
  · rintro ⟨h, hr, ha⟩
    have hx : ∀ x ∈ lives m, ∃ a k ob, ρ x.1 = some (a, k) ∧ w.heap[a]? = some ob ∧ OR P ρ k x.2 ob ∧ (entE P ρ x).blk = some a ∧ g a = none ∧ ∀ e ∈ s1 ++ s2, e.blk ≠ some a := fun x hx => by
      have hg := (mem_lives m x.1 x.2).1 hx
      obtain ⟨a, k, ob, h1, h2, h3⟩ := hr.mem x.1 x.2 hg
      obtain ⟨h4, h5⟩ := ha x.1 x.2 a k hg h1
      exact ⟨a, k, ob, h1, h2, h3, by simp [entE, h1], h4, h5⟩
    have hin : ∀ e, e ∈ s1 ++ (ents P ρ m ++ s2) → e ∈ s1 ++ s2 ∨ e ∈ ents P ρ m := fun e he => by
      simp only [List.mem_append] at he ⊢
      rcases he with he | he | he
      · exact .inl (.inl he)
      · exact .inr he
      · exact .inl (.inr he)
    have hap := List.pairwise_append.1 h.apart
    have hax : ∀ e ∈ s1 ++ s2, ∀ e' ∈ ents P ρ m, Apart e e' := fun e he e' he' b hb hb' => by
      obtain ⟨x, hxl, rfl⟩ := List.mem_map.1 he'
      obtain ⟨a, k, ob, h1, h2, h3, h4, h5, h6⟩ := hx x hxl
      rw [h4] at hb'; injection hb' with hb'; subst hb'
      exact h6 e he hb
    refine ⟨h.os, h.tape, h.output, h.known, fun e he => ?_, fun e he b hb => ?_, ?_⟩
    · rcases hin e he with he | he
      · exact h.own e he
      · obtain ⟨x, hxl, rfl⟩ := List.mem_map.1 he
        obtain ⟨a, k, ob, h1, h2, h3, h4, _⟩ := hx x hxl
        exact ⟨a, k, ob, h1, by rw [h4]; simpa using h2, h3⟩
    · rcases hin e he with he | he
      · exact h.fresh e he b hb
      · obtain ⟨x, hxl, rfl⟩ := List.mem_map.1 he
        obtain ⟨a, k, ob, h1, h2, h3, h4, h5, _⟩ := hx x hxl
        rw [h4] at hb; injection hb with hb; subst hb
        exact ⟨h5, (Array.getElem?_eq_some_iff.1 h2).1⟩
    · refine List.pairwise_append.2 ⟨hap.1, List.pairwise_append.2 ⟨?_, hap.2.1, fun e he e' he' => (hax e' (by simp [he']) e he).symm⟩, fun e he e' he' => ?_⟩
      · refine List.pairwise_map.2 ((nodup_lives m).imp_of_mem fun {x y} hxm hym hne b hb hb' => ?_)
        obtain ⟨a, k, ob, h1, h2, h3, h4, _⟩ := hx x hxm
        obtain ⟨a', k', ob', h1', h2', h3', h4', _⟩ := hx y hym
        rw [h4] at hb; injection hb with hb; subst hb
        rw [h4'] at hb'; injection hb' with hb'; subst hb'
        exact hne (hr.inj x.1 y.1 _ k k' (by rw [(mem_lives m x.1 x.2).1 hxm]; simp) (by rw [(mem_lives m y.1 y.2).1 hym]; simp) h1 h1')
      · rcases List.mem_append.1 he' with he' | he'
        · exact hax e (by simp [he]) e' he'
        · exact hap.2.2 e he e' he'
/-- A call that is known. -/
theorem Ctr.kn {e : Kn} (he : KnOk P e) {ρ : Env} (hf : Fre ρ e.n) {vs : List Value} (hl : LV ρ e.l vs) (s1 s2 : Own) :
    Ctr P E e.fn vs.toArray g (s1 ++ (ents P ρ e.r ++ s2)) fun x g' s' => g' = g ∧ ∃ ρ', VR ρ' e.v x ∧ Ext ρ ρ' ∧ Fre ρ' e.n' ∧ s' = s1 ++ (ents P ρ' e.m ++ s2) := fun w hw =>
  Calls.imp (he.calls hw.rel hf hl).2 fun e0 w' ⟨ρ', x, h1, h2, h3⟩ => ⟨x, g, _, h1, hw.gon h2, rfl, ρ', h3, h2.ext, h2.fre, rfl⟩
/-- What is said of a call's end, in other words. -/
theorem Ctr.re {n : FuncId} {args : Array Value} {s : Own} {R R' : Value → PH → Own → Prop} (h : Ctr P E n args g s R) (hr : ∀ v g' s' w, R v g' s' → At E g' s' w → ∃ s'', At E g' s'' w ∧ R' v g' s'') : Ctr P E n args g s R' := fun w hw =>
  Calls.imp (h w hw) fun e w' ⟨v, g', s', h1, h2, h3⟩ => let ⟨s'', h4, h5⟩ := hr v g' s' w' h3 h2; ⟨v, g', s'', h1, h4, h5⟩
theorem Ctr.pre {n : FuncId} {args : Array Value} {s s1 : Own} {R : Value → PH → Own → Prop} (h : Ctr P E n args g s R) (hs : ∀ w, At E g s1 w → At E g s w) : Ctr P E n args g s1 R := fun w hw => h w (hs w hw)
/-- The names below q as they are; q stands for x. -/
def envQ (ρ : Env) (q : Pos) (x : Option (Nat × Nat)) : Env := fun p => if p.nat < q.nat then ρ p else if p = q then x else none
theorem envQ_lt {ρ : Env} {q p : Pos} {x : Option (Nat × Nat)} (h : p.nat < q.nat) : envQ ρ q x p = ρ p := by simp [envQ, h]
theorem envQ_at {ρ : Env} {q : Pos} {x : Option (Nat × Nat)} : envQ ρ q x q = x := by simp [envQ]
theorem fre_envN {ρ : Env} {q : Pos} : Fre (envQ ρ q none) q := fun p hp => by
  unfold envQ; rw [if_neg (by omega)]; split <;> rfl
theorem fre_envQ {ρ : Env} {q : Pos} {x : Option (Nat × Nat)} : Fre (envQ ρ q x) q.succ := fun p hp => by
  rw [Pos.nat_succ] at hp
  unfold envQ; rw [if_neg (by omega), if_neg fun h => by subst h; omega]
/-- Part of the evaluator's memory, whose names all are below q. -/
theorem At.part {ρ : Env} {m M : Mem} {w : World} {s1 s2 : Own} {q : Pos} {t : Tr Pos} (h : At E g (s1 ++ (ents P ρ m ++ s2)) w) (hs : Ev.Sub M m) (ht : vrfP q.nat q.nat t (fun p => p) .leaf fun _ => vrfM t M M t True) :
    At E g (s1 ++ (ents P (envQ ρ q none) M ++ s2)) w := by
  obtain ⟨_, h1, _, h2, _⟩ := vrfP_ok _ _ _ _ ht
  obtain ⟨_, h3⟩ := vrfM_ok (P := P) _ _ _ h1
  obtain ⟨h4, h5, h6⟩ := (at_ents (P := P) .e).1 h
  have hid : ∀ p p', Tr.get p t = some p' → p = p' ∧ p.nat < q.nat := fun p p' hp => by
    obtain ⟨h7, h8⟩ := (h2 p p' hp).2.2
    exact ⟨h8 h7, h7⟩
  have hnam : Nam t (envQ ρ q none) ρ := fun p p' hp => by
    obtain ⟨rfl, h7⟩ := hid p p' hp
    exact envQ_lt h7
  have hM : ∀ p o, Tr.get p M = some o → p.nat < q.nat ∧ ∀ k ob, OR P ρ k o ob → OR P (envQ ρ q none) k o ob := fun p o hp => by
    obtain ⟨p', o', h7, h8, h9⟩ := h3 p o hp
    obtain ⟨rfl, h10⟩ := hid p p' h7
    rw [hp] at h8; injection h8 with h8; subst h8
    exact ⟨h10, h9 _ _ hnam⟩
  refine (at_ents (P := P) .e).2 ⟨h4, ⟨fun p p' a k k' hp hp' e1 e2 => ?_, fun p o hp => ?_⟩, fun p o a k hp e1 => ?_⟩
  · obtain ⟨o, ho⟩ := Option.ne_none_iff_exists'.1 hp
    obtain ⟨o', ho'⟩ := Option.ne_none_iff_exists'.1 hp'
    rw [envQ_lt (hM p o ho).1] at e1; rw [envQ_lt (hM p' o' ho').1] at e2
    exact h5.inj p p' a k k' (hs.live hp) (hs.live hp') e1 e2
  · obtain ⟨a, k, ob, e1, e2, e3⟩ := h5.mem p o (hs p o hp)
    exact ⟨a, k, ob, by rw [envQ_lt (hM p o hp).1]; exact e1, e2, (hM p o hp).2 k ob e3⟩
  · rw [envQ_lt (hM p o hp).1] at e1
    exact h6 p o a k (hs p o hp) e1
/-- A row of cells goes over to the evaluator. -/
theorem At.take {ρ : Env} {M : Mem} {w : World} {s1 s2 : Own} {q : Pos} {b k : Nat} {vs : List Value} {T : TypeId} {f : Nat × Nat} {L : SV} (h : At E g (pt b (.cells vs.toArray T f) :: (s1 ++ (ents P ρ M ++ s2))) w) (hf : Fre ρ q) (hl : LV ρ L vs) (ht : Thaw vs.length f) :
    At E g (s1 ++ (ents P (envQ ρ q (some (b, k))) (Tr.put q M (.cells L)) ++ s2)) w := by
  obtain ⟨h4, h5, h6⟩ := (at_ents (P := P) (s1 := pt b (.cells vs.toArray T f) :: s1) .e).1 h
  have hext : Ext ρ (envQ ρ q (some (b, k))) := fun p x hp => by
    by_cases h7 : p.nat < q.nat
    · rw [envQ_lt h7]; exact hp
    · rw [hf p (by omega)] at hp; cases hp
  have hlt : ∀ p o, Tr.get p M = some o → p.nat < q.nat := fun p o hp => by
    obtain ⟨a, j, ob, e1, _⟩ := h5.mem p o hp
    refine Classical.byContradiction fun h7 => ?_
    rw [hf p (by omega)] at e1; cases e1
  have hget : ∀ p o, Tr.get p (Tr.put q M (.cells L)) = some o → (p = q ∧ o = .cells L) ∨ (p.nat < q.nat ∧ Tr.get p M = some o) := fun p o hp => by
    by_cases h7 : q = p
    · subst h7; rw [get_put_same] at hp; injection hp with hp; exact .inl ⟨rfl, hp.symm⟩
    · rw [get_put_ne _ _ _ _ h7] at hp; exact .inr ⟨hlt p o hp, hp⟩
  have hb := h4.own (pt b (.cells vs.toArray T f)) (by simp)
  have hbf := h4.fresh (pt b (.cells vs.toArray T f)) (by simp) b rfl
  have hap := (List.pairwise_cons.1 h4.apart).1
  refine (at_ents (P := P) .e).2 ⟨h4.sublist (List.sublist_cons_self _ _), ⟨fun p p' a j j' hp hp' e1 e2 => ?_, fun p o hp => ?_⟩, fun p o a j hp e1 => ?_⟩
  · obtain ⟨o, ho⟩ := Option.ne_none_iff_exists'.1 hp
    obtain ⟨o', ho'⟩ := Option.ne_none_iff_exists'.1 hp'
    rcases hget p o ho with ⟨rfl, _⟩ | ⟨l1, g1⟩
    · rcases hget p' o' ho' with ⟨rfl, _⟩ | ⟨l2, g2⟩
      · rfl
      · rw [envQ_at] at e1; injection e1 with e1; injection e1 with e1 _; subst e1
        rw [envQ_lt l2] at e2
        exact absurd rfl ((h6 p' o' _ j' g2 e2).2 (pt b (.cells vs.toArray T f)) (by simp))
    · rcases hget p' o' ho' with ⟨rfl, _⟩ | ⟨l2, g2⟩
      · rw [envQ_at] at e2; injection e2 with e2; injection e2 with e2 _; subst e2
        rw [envQ_lt l1] at e1
        exact absurd rfl ((h6 p o _ j g1 e1).2 (pt b (.cells vs.toArray T f)) (by simp))
      · rw [envQ_lt l1] at e1; rw [envQ_lt l2] at e2
        exact h5.inj p p' a j j' (by rw [g1]; simp) (by rw [g2]; simp) e1 e2
  · rcases hget p o hp with ⟨rfl, rfl⟩ | ⟨l1, g1⟩
    · exact ⟨b, k, _, envQ_at, by simpa [pt] using hb, vs, T, f, rfl, LV.mono hext _ _ hl, ht⟩
    · obtain ⟨a, j, ob, e1, e2, e3⟩ := h5.mem p o g1
      exact ⟨a, j, ob, hext _ _ e1, e2, e3.mono P hext⟩
  · rcases hget p o hp with ⟨rfl, _⟩ | ⟨l1, g1⟩
    · rw [envQ_at] at e1; injection e1 with e1; injection e1 with e1 _; subst e1
      exact ⟨hbf.1, fun e he => hap e he b rfl⟩
    · rw [envQ_lt l1] at e1
      obtain ⟨h7, h8⟩ := h6 p o a j g1 e1
      exact ⟨h7, fun e he => h8 e (by simp only [List.cons_append, List.mem_cons]; exact .inr he)⟩
/-- A call that is known, of which an argument lies in a row of the caller. -/
theorem Ctr.knT {e : Kn} (he : KnOk P e) {ρ : Env} {M : Mem} {q : Pos} {L : SV} {b k : Nat} {vs us : List Value} {T : TypeId} {f : Nat × Nat} (hr : Tr.put q M (.cells L) = e.r) (hn : q.succ = e.n) (hf : Fre ρ q) (hl : LV ρ L us) (ht : Thaw us.length f)
    (ha : LV (envQ ρ q (some (b, k))) e.l vs) (s1 s2 : Own) :
    Ctr P E e.fn vs.toArray g (pt b (.cells us.toArray T f) :: (s1 ++ (ents P ρ M ++ s2))) fun x g' s' => g' = g ∧ ∃ ρ', VR ρ' e.v x ∧ Ext (envQ ρ q (some (b, k))) ρ' ∧ Fre ρ' e.n' ∧ s' = s1 ++ (ents P ρ' e.m ++ s2) :=
  Ctr.pre (Ctr.kn he (hn ▸ fre_envQ) ha s1 s2) fun w hw => hr ▸ hw.take hf hl ht
/-- A cell of a row that the evaluator holds. -/
theorem CellAt.ev {ρ : Env} {m : Mem} {s1 s2 : Own} {p : Pos} {L : SV} {b k o : Nat} {vs : List Value} {v : Value} (hp : Tr.get p m = some (.cells L)) (hk : ρ p = some (b, k)) (hl : ∀ us, LV ρ L us → us = vs) (hv : vs[o]? = some v) :
    CellAt g (s1 ++ (ents P ρ m ++ s2)) ⟨b, o, none⟩ v := fun E w hw => by
  obtain ⟨a, j, ob, e1, e2, us, T, f, rfl, e3, _⟩ := (hw.rel (n := .e)).mem p _ hp
  rw [hk] at e1; injection e1 with e1; injection e1 with e1 _; subst e1
  have := hl us e3; subst this
  simp [World.cell?, e2, hv]
end

/-! Rows of bytes. -/
/-- Bytes under names. -/
def U : List Nat → SV
  | [] => .nil
  | a :: l => .cons (.int .u8 (.ofNat a)) (U l)
def vU (l : List Nat) : List Value := l.map fun a : Nat => .int .u8 (.ofNat a)
theorem LV_U {ρ : Env} : ∀ (l : List Nat) (vs : List Value), LV ρ (U l) vs ↔ vs = vU l
  | [], vs => by simp [U, vU, LV]
  | a :: l, vs => by
    simp only [U, vU, List.map_cons, LV]
    constructor
    · rintro ⟨v, r, h1, h2, rfl⟩
      simp only [VR] at h1; subst h1
      rw [(LV_U l r).1 h2]; rfl
    · rintro rfl
      exact ⟨_, _, by simp only [VR], (LV_U l _).2 rfl, rfl⟩
theorem nth_U : ∀ (l : List Nat) (o : Nat) (c : SV → Prop) (h : o < l.length), nthK (U l) o c = c (.int .u8 (.ofNat l[o]))
  | a :: l, 0, c, _ => rfl
  | a :: l, o + 1, c, h => nth_U l o c (by simpa using h)
theorem rec_U {A B : List Nat} (c : Bool → Prop) : ∀ (k o : Nat), A.length = o + k → B.length = o + k →
    @Nat.rec (fun _ => Nat → Prop) (fun _ => c true) (fun _ ih o => partK .one (U A) o fun x => partK .one (U B) o fun y => eqI x y fun t => bK t (natK (Nat.add o 1) ih) (c false)) k o = c (decide (A.drop o = B.drop o))
  | 0, o, ha, hb => by
    rw [List.drop_of_length_le (by omega), List.drop_of_length_le (by omega), decide_eq_true rfl]; rfl
  | k + 1, o, ha, hb => by
    show nthK (U A) o (fun x => nthK (U B) o fun y => eqI x y fun t => bK t (natK (Nat.add o 1) (@Nat.rec (fun _ => Nat → Prop) (fun _ => c true) (fun _ ih o => partK .one (U A) o fun x => partK .one (U B) o fun y => eqI x y fun t => bK t (natK (Nat.add o 1) ih) (c false)) k)) (c false)) = _
    rw [nth_U A o _ (by omega), nth_U B o _ (by omega)]
    show bK (Nat.beq A[o] B[o]) (natK (Nat.add o 1) (@Nat.rec (fun _ => Nat → Prop) (fun _ => c true) (fun _ ih o => partK .one (U A) o fun x => partK .one (U B) o fun y => eqI x y fun t => bK t (natK (Nat.add o 1) ih) (c false)) k)) (c false) = _
    have ea := List.drop_eq_getElem_cons (show o < A.length by omega)
    have eb := List.drop_eq_getElem_cons (show o < B.length by omega)
    by_cases h : A[o] = B[o]
    · rw [ea, eb, h, Nat.beq_refl]
      have := rec_U (A := A) (B := B) c k (o + 1) (by omega) (by omega)
      show @Nat.rec (fun _ => Nat → Prop) (fun _ => c true) (fun _ ih o => partK .one (U A) o fun x => partK .one (U B) o fun y => eqI x y fun t => bK t (natK (Nat.add o 1) ih) (c false)) k (o + 1) = _
      rw [this]
      by_cases h1 : List.drop (o + 1) A = List.drop (o + 1) B
      · rw [decide_eq_true h1, decide_eq_true (by rw [h1, ← eb, eb])]
      · rw [decide_eq_false h1, decide_eq_false fun e => h1 (by injection e)]
    · rw [show Nat.beq A[o] B[o] = false from Bool.eq_false_iff.2 fun e => h (Nat.eq_of_beq_eq_true e), ea, eb]
      show c false = _
      rw [decide_eq_false fun e => h (by injection e)]
theorem eqT_U {A B : List Nat} (c : Bool → Prop) {n : Nat} (ha : A.length = n) (hb : B.length = n) : eqT (.ar n 1 .one .sci) (.agg (U A)) (.agg (U B)) c = c (decide (A = B)) := by
  have := rec_U (A := A) (B := B) c n 0 (by omega) (by omega)
  rw [List.drop_zero, List.drop_zero] at this
  exact this
end Go.Sy
end
section
set_option linter.all false
set_option linter.unusedVariables false
set_option linter.unusedSimpArgs false
namespace Go.Sy
open Go Go.Ev

/-- The world's blocks stay. -/
def Stay (w w' : World) : Prop := w'.os = w.os ∧ w'.tape = w.tape ∧ w'.output = w.output ∧ w.drawn ≤ w'.drawn ∧ ∀ (b : Nat) (o : Obj), w.heap[b]? = some o → w'.heap[b]? = some o
theorem Stay.size {w w' : World} (h : Stay w w') : w.heap.size ≤ w'.heap.size := by
  by_cases h0 : w.heap.size = 0
  · omega
  · have h1 := h.2.2.2.2 (w.heap.size - 1) _ (Array.getElem?_eq_getElem (by omega))
    have := (Array.getElem?_eq_some_iff.1 h1).1
    omega
theorem Stay.frame {w w' : World} (h : Stay w w') {b : Nat} (hb : b < w.heap.size) : w'.heap[b]? = w.heap[b]? := by
  rw [h.2.2.2.2 b _ (Array.getElem?_eq_getElem hb), Array.getElem?_eq_getElem hb]
theorem at_all (w : World) : At w (fun b => w.heap[b]?) [] w := ⟨rfl, ⟨rfl, Nat.le_refl _⟩, rfl, fun _ _ h => h, (fun _ h => by cases h), (fun _ h => by cases h), .nil⟩
theorem stay_at {w w' : World} {g : PH} {s : Own} (h : At w g s w') (hg : Le (fun b => w.heap[b]?) g) : Stay w w' := ⟨h.os, h.tape.1, h.output, h.tape.2, fun b o hb => h.known b o (hg b o hb)⟩
section
variable {P : Program}
theorem gon_stay {ρ : Env} {n : Pos} {m : Mem} {w w' : World} (hm : Rel P ρ n m w) (hf : Fre ρ n) (h : Stay w w') : Gon P ρ n m w ρ n m w' :=
  ⟨Nat.le_refl _, hf, fun _ _ h => h, fun _ _ => rfl, ⟨hm.inj, fun p o hp => by
      obtain ⟨a, k, ob, h1, h2, h3⟩ := hm.mem p o hp
      exact ⟨a, k, ob, h1, h.2.2.2.2 a ob h2, h3⟩⟩, h.1, h.2.1, h.2.2.1, h.2.2.2.1, h.size, fun a ha _ => h.frame ha, fun p a k hp hk => .inr ⟨p, k, hp, hk⟩⟩
/-- A call that reads alone: of what, on which memory, with which result. -/
def KpOk (P : Program) (fn : Nat) (l : SV) (r : Mem) (v : SV) : Prop :=
  ∀ ρ n w vs, Rel P ρ n r w → LV ρ l vs → Ev.Ent P fn ∧ Calls P fn vs.toArray w fun e w' => ∃ x, e = .returned x ∧ VR ρ v x ∧ Stay w w'
end
/-- A call that reads alone is known. -/
def knP (f0 : Nat) (l0 : SV) (r0 : Mem) (v0 : SV) (cl : Cl) : Cl := fun fn l m n c k => bK (Nat.beq f0 fn) (restrK r0 m fun m' => (l = l0 ∧ m' = r0) ∧ c v0 m n k) (cl fn l m n c k)
section
variable {P : Program} {f0 : Nat} {l0 : SV} {r0 : Mem} {v0 : SV}
theorem f_knP {cl : Cl} (h1 : FCl cl) : FCl (knP f0 l0 r0 v0 cl) := by
  intro fn l m n c hc
  refine eq_false fun h => ?_
  rcases bK_ok h with ⟨_, h⟩ | ⟨_, h⟩
  · obtain ⟨_, ⟨_, h⟩, _⟩ := restrK_ok _ _ _ h
    rw [hc] at h; exact h
  · rw [h1 _ _ _ _ _ hc] at h; exact h
theorem knP_ok {cl : Cl} (h0 : KpOk P f0 l0 r0 v0) (hcl : ClOk P cl) : ClOk P (knP f0 l0 r0 v0 cl) := by
  intro fn l m n c k hc h ρ w vs hm hf hl
  rcases bK_ok h with ⟨h1, h⟩ | ⟨_, h⟩
  · obtain ⟨r, ⟨⟨h2, h3⟩, h4⟩, hs⟩ := restrK_ok _ _ _ h
    have h1 := Nat.eq_of_beq_eq_true h1
    subst h1 h2 h3
    obtain ⟨h5, h6⟩ := h0 ρ n w vs (hm.sub hs) hl
    refine ⟨h5, Calls.imp h6 ?_⟩
    rintro e w' ⟨x, rfl, h7, h8⟩
    exact ⟨_, m, n, k, ρ, x, h4, rfl, gon_stay hm hf h8, h7⟩
  · exact hcl _ _ _ _ _ _ hc h ρ w vs hm hf hl
theorem TabOk.kp {t : Cl → Cl} (h0 : KpOk P f0 l0 r0 v0) (ht : TabOk P t) : TabOk P fun cl => knP f0 l0 r0 v0 (t cl) :=
  ⟨fun cl h => f_knP (ht.f cl h), fun cl hf h => knP_ok h0 (ht.ok cl hf h)⟩
/-- By a walk. -/
theorem KpOk.of (he : Ev.Ent P f0) (h : ∀ ρ n w vs, Rel P ρ n r0 w → LV ρ l0 vs → Ctr P w f0 vs.toArray (fun b => w.heap[b]?) [] fun x g' s' => VR ρ v0 x ∧ Le (fun b => w.heap[b]?) g') : KpOk P f0 l0 r0 v0 := fun ρ n w vs hm hl =>
  ⟨he, Calls.imp (h ρ n w vs hm hl w (at_all w)) fun e w' ⟨x, g', s', h1, h2, h3, h4⟩ => ⟨x, h1, h3, stay_at h2 h4⟩⟩
end
end Go.Sy
end
section
set_option linter.all false
set_option linter.unusedVariables false
set_option linter.unusedSimpArgs false
namespace Go.Sy
open Go Go.Ev

theorem keyR_U {A : List Nat} : ∀ (k o : Nat), A.length = o + k →
    @Nat.rec (fun _ => Nat → Prop) (fun _ => True) (fun _ ih o => partK .one (U A) o fun x => SV.onInt (fun _ _ => natK (Nat.add o 1) ih) x) k o
  | 0, o, ha => trivial
  | k + 1, o, ha => by
    show nthK (U A) o (fun x => SV.onInt (fun _ _ => natK (Nat.add o 1) (@Nat.rec (fun _ => Nat → Prop) (fun _ => True) (fun _ ih o => partK .one (U A) o fun x => SV.onInt (fun _ _ => natK (Nat.add o 1) ih) x) k)) x)
    rw [nth_U A o _ (by omega)]
    exact keyR_U (A := A) k (o + 1) (by omega)
theorem key_U {A : List Nat} {n : Nat} (ha : A.length = n) : keyK (.ar n 1 .one .sci) (.agg (U A)) True := keyR_U (A := A) n 0 (by omega)
/-- The keys of entries, rows of n bytes each. -/
def EsU (n : Nat) : ES → List (List Nat) → Prop
  | .nil, [] => True
  | .cons k _ _ r, a :: l => k = .agg (U a) ∧ a.length = n ∧ EsU n r l
  | _, _ => False
theorem findK_no {n : Nat} {h : List Nat} (hh : h.length = n) {c : SV → Prop} {d : Prop} : ∀ (es : ES) (ks : List (List Nat)), EsU n es ks → h ∉ ks → ES.findK es (.ar n 1 .one .sci) (.agg (U h)) c d = d
  | .nil, [], _, _ => rfl
  | .cons k v b r, a :: l, he, hn => by
    obtain ⟨rfl, h1, h2⟩ := he
    show eqT (.ar n 1 .one .sci) (.agg (U h)) (.agg (U a)) (fun t => bK t (c v) (ES.findK r (.ar n 1 .one .sci) (.agg (U h)) c d)) = d
    rw [eqT_U _ hh h1, decide_eq_false (fun e => hn (by rw [e]; simp))]
    exact findK_no hh r l h2 fun e => hn (by simp [e])
section
variable {P : Program} {N : Nat} {E : World} {f : Fr} {g : PH} {s : Own} {dst : Option Tmp} {ty : TypeId} {pos : String} {af : Array Edge} {gd : Option (Nat × Bool)}
theorem SQ.lookupNo {t kt et : TypeId} {x y : Operand} {am clk : Nat} {h : List Nat} {ρ : Env} {es : ES} {ks : List (List Nat)} {En : List MapEntry} {z : Value} {n : Nat} (hu : P.underlying t = some (.map kt et)) (hq : etT P 5 kt = some (.ar n 1 .one .sci)) (hz : ∀ w, (zeroValue et).run P w = .ok z w)
    (hx : ev f x = some (.map (some am))) (hy : ev f y = some (.agg (vU h).toArray)) (hg : g am = some (.map En.toArray clk)) (he : ESR ρ es En) (hk : EsU n es ks) (hn : h ∉ ks) (hl : h.length = n) :
    SQ P N E ⟨dst, .lookup t x y true, ty, pos, af, gd⟩ f g s (.tuple #[z, .bool false]) := fun a w ha hw => by
  have hv : VR ρ (.agg (U h)) (.agg (vU h).toArray) := by simp only [VR]; exact ⟨_, (LV_U h _).2 rfl, rfl⟩
  have h1 := (keyT_ok 5 kt _ hq _ _ (key_U hl)).2 ρ _ hv w 9999
  have hf : ES.findK es (.ar n 1 .one .sci) (.agg (U h)) (fun _ => False) True := by rw [findK_no hl es ks hk hn]; trivial
  rcases findK_ok hq (by omega) hf with ⟨_, h2, _⟩ | ⟨_, h2⟩
  · exact h2.elim
  · have h3 := h2 ρ En _ he hv w
    simp only [execOp, ha.ev hx, ha.ev hy]
    refine run_v ?_
    simp only [Instr.lookup, Sem.run_bind, run_underlying hu, Result.andThen_ok, MapKept.run_getObj_map (hw.known _ _ hg), Sem.run_pure, h1 _ (by omega), h3, hz w]
    rfl
end
end Go.Sy
end
section
set_option linter.all false
set_option maxRecDepth 100000
set_option maxHeartbeats 0
set_option linter.unusedVariables false
namespace Go.Ev.Z
open Go Go.Ev
noncomputable section
def i (n : Nat) : SV := .int .i64 (.ofNat n)
def b (n : Nat) : SV := .int .u8 (.ofNat n)
def z : SV := .nil
def c (h t : SV) : SV := .cons h t
def o : Mem := .leaf
def N (l r : Mem) : Mem := .nodeN l r
def S (l : Mem) (v : SO) (r : Mem) : Mem := .nodeS l v r
def e : Pos := .e
def l (p : Pos) : Pos := .l p
def r (p : Pos) : Pos := .r p
def p0 : Pos := e
def p1 : Pos := l e
def p2 : Pos := r e
def p3 : Pos := l (l e)
def p297 : Pos := l (r (l (r (l (r (l (l e)))))))
def p298 : Pos := r (r (l (r (l (r (l (l e)))))))
def p299 : Pos := l (l (r (r (l (r (l (l e)))))))
def p302 : Pos := r (r (r (r (l (r (l (l e)))))))
def p304 : Pos := r (l (l (l (r (r (l (l e)))))))
def p305 : Pos := l (r (l (l (r (r (l (l e)))))))
def p306 : Pos := r (r (l (l (r (r (l (l e)))))))
def p1131 : Pos := l (l (r (r (l (r (r (l (l (l e)))))))))
def p1132 : Pos := r (l (r (r (l (r (r (l (l (l e)))))))))
def p1133 : Pos := l (r (r (r (l (r (r (l (l (l e)))))))))
def p1134 : Pos := r (r (r (r (l (r (r (l (l (l e)))))))))
def p2001 : Pos := l (r (l (l (r (l (r (r (r (r e)))))))))
def p2002 : Pos := r (r (l (l (r (l (r (r (r (r e)))))))))
def p2003 : Pos := l (l (r (l (r (l (r (r (r (r e)))))))))
def p2004 : Pos := r (l (r (l (r (l (r (r (r (r e)))))))))
def p2081 : Pos := l (r (l (l (l (r (l (l (l (l (l e))))))))))
def p2237 : Pos := l (r (r (r (r (r (l (r (l (l (l e))))))))))
def p2273 : Pos := l (r (l (l (l (r (r (r (l (l (l e))))))))))
def p2309 : Pos := l (r (r (l (l (l (l (l (r (l (l e))))))))))
def p2340 : Pos := r (l (r (l (l (r (l (l (r (l (l e))))))))))
def p2341 : Pos := l (r (r (l (l (r (l (l (r (l (l e))))))))))
def p2349 : Pos := l (r (r (r (l (r (l (l (r (l (l e))))))))))
def p2350 : Pos := r (r (r (r (l (r (l (l (r (l (l e))))))))))
def p2352 : Pos := r (l (l (l (r (r (l (l (r (l (l e))))))))))
def p2430 : Pos := r (r (r (r (r (r (r (l (r (l (l e))))))))))
def p2445 : Pos := l (r (r (r (l (l (l (r (r (l (l e))))))))))
def p3139 : Pos := l (l (r (l (l (l (r (l (l (l (r e))))))))))
def p3152 : Pos := r (l (l (l (r (l (r (l (l (l (r e))))))))))
def p4272 : Pos := r (l (l (l (r (r (l (r (l (l (l (l e)))))))))))
def p4286 : Pos := r (r (r (r (r (r (l (r (l (l (l (l e)))))))))))
def p4288 : Pos := r (l (l (l (l (l (r (r (l (l (l (l e)))))))))))
def p4430 : Pos := r (r (r (r (l (l (r (l (r (l (l (l e)))))))))))
def p4447 : Pos := l (l (l (l (l (r (r (l (r (l (l (l e)))))))))))
def p4454 : Pos := r (r (r (l (l (r (r (l (r (l (l (l e)))))))))))
def p5020 : Pos := r (l (r (r (r (l (l (r (r (r (l (l e)))))))))))
def p5028 : Pos := r (l (r (l (l (r (l (r (r (r (l (l e)))))))))))
def p5048 : Pos := r (l (l (r (r (r (l (r (r (r (l (l e)))))))))))
def p5057 : Pos := l (r (l (l (l (l (r (r (r (r (l (l e)))))))))))
def p5060 : Pos := r (l (r (l (l (l (r (r (r (r (l (l e)))))))))))
def p5065 : Pos := l (r (l (r (l (l (r (r (r (r (l (l e)))))))))))
def p5066 : Pos := r (r (l (r (l (l (r (r (r (r (l (l e)))))))))))
def p5491 : Pos := l (l (r (l (r (r (r (l (r (l (r (l e)))))))))))
def p5504 : Pos := r (l (l (l (l (l (l (r (r (l (r (l e)))))))))))
def p5507 : Pos := l (l (r (l (l (l (l (r (r (l (r (l e)))))))))))
def p5509 : Pos := l (r (r (l (l (l (l (r (r (l (r (l e)))))))))))
def p5510 : Pos := r (r (r (l (l (l (l (r (r (l (r (l e)))))))))))
def p5609 : Pos := l (r (l (r (l (r (r (r (r (l (r (l e)))))))))))
def p5623 : Pos := l (l (l (r (r (r (r (r (r (l (r (l e)))))))))))
def p5637 : Pos := l (r (r (l (l (l (l (l (l (r (r (l e)))))))))))
def p5639 : Pos := l (l (l (r (l (l (l (l (l (r (r (l e)))))))))))
def p5911 : Pos := l (l (l (r (r (l (l (l (r (r (r (l e)))))))))))
def p5924 : Pos := r (l (r (l (l (r (l (l (r (r (r (l e)))))))))))
def p5927 : Pos := l (l (l (r (l (r (l (l (r (r (r (l e)))))))))))
def p5929 : Pos := l (r (l (r (l (r (l (l (r (r (r (l e)))))))))))
def p5930 : Pos := r (r (l (r (l (r (l (l (r (r (r (l e)))))))))))
def p6594 : Pos := r (r (l (l (l (l (r (r (r (l (l (r e)))))))))))
def p6607 : Pos := l (l (l (l (r (l (r (r (r (l (l (r e)))))))))))
def p7727 : Pos := l (l (l (l (r (r (l (l (l (r (r (r e)))))))))))
def p7741 : Pos := l (r (r (r (r (r (l (l (l (r (r (r e)))))))))))
def p7755 : Pos := l (l (r (r (l (l (r (l (l (r (r (r e)))))))))))
def p7757 : Pos := l (r (r (r (l (l (r (l (l (r (r (r e)))))))))))
def p8146 : Pos := r (r (l (l (r (l (r (r (r (r (r (r e)))))))))))
def p46084 : Pos := r (l (r (l (l (l (l (l (l (l (r (l (r (r (l e))))))))))))))
def p46088 : Pos := r (l (l (r (l (l (l (l (l (l (r (l (r (r (l e))))))))))))))
def p46094 : Pos := r (r (r (r (l (l (l (l (l (l (r (l (r (r (l e))))))))))))))
def p104948 : Pos := r (l (r (l (r (r (r (r (r (l (l (r (r (l (l (r e)))))))))))))))
def p104952 : Pos := r (l (l (r (r (r (r (r (r (l (l (r (r (l (l (r e)))))))))))))))
def p104958 : Pos := r (r (r (r (r (r (r (r (r (l (l (r (r (l (l (r e)))))))))))))))
def p163812 : Pos := r (l (r (l (l (r (r (r (r (r (r (r (r (r (r (l (l e))))))))))))))))
def p163816 : Pos := r (l (l (r (l (r (r (r (r (r (r (r (r (r (r (l (l e))))))))))))))))
def p171830 : Pos := r (r (r (l (r (r (l (l (r (r (r (r (r (l (l (r (l e))))))))))))))))
def p171838 : Pos := r (r (r (r (r (r (l (l (r (r (r (r (r (l (l (r (l e))))))))))))))))
def p172048 : Pos := r (l (l (l (r (l (l (l (l (l (l (l (l (r (l (r (l e))))))))))))))))
def p172249 : Pos := l (r (l (r (r (l (r (r (l (l (l (l (l (r (l (r (l e))))))))))))))))
def p172287 : Pos := l (l (l (l (l (l (l (l (r (l (l (l (l (r (l (r (l e))))))))))))))))
def p172300 : Pos := r (l (r (r (l (l (l (l (r (l (l (l (l (r (l (r (l e))))))))))))))))
def p172303 : Pos := l (l (l (l (r (l (l (l (r (l (l (l (l (r (l (r (l e))))))))))))))))
def p172310 : Pos := r (r (r (l (r (l (l (l (r (l (l (l (l (r (l (r (l e))))))))))))))))
def p172311 : Pos := l (l (l (r (r (l (l (l (r (l (l (l (l (r (l (r (l e))))))))))))))))
def p172401 : Pos := l (r (l (l (r (r (r (l (r (l (l (l (l (r (l (r (l e))))))))))))))))
def p173110 : Pos := r (r (r (l (r (r (l (l (l (l (r (l (l (r (l (r (l e))))))))))))))))
def p173123 : Pos := l (l (r (l (l (l (r (l (l (l (r (l (l (r (l (r (l e))))))))))))))))
def p174243 : Pos := l (l (r (l (l (r (l (r (l (l (l (r (l (r (l (r (l e))))))))))))))))
def p174257 : Pos := l (r (l (l (r (r (l (r (l (l (l (r (l (r (l (r (l e))))))))))))))))
def p174259 : Pos := l (l (r (l (r (r (l (r (l (l (l (r (l (r (l (r (l e))))))))))))))))
def p174401 : Pos := l (r (l (l (l (l (r (l (r (l (l (r (l (r (l (r (l e))))))))))))))))
def p174418 : Pos := r (r (l (l (r (l (r (l (r (l (l (r (l (r (l (r (l e))))))))))))))))
def p174425 : Pos := l (r (l (r (r (l (r (l (r (l (l (r (l (r (l (r (l e))))))))))))))))
def p175580 : Pos := r (l (r (r (r (l (r (r (r (l (r (r (l (r (l (r (l e))))))))))))))))
def p175594 : Pos := r (r (l (r (l (r (r (r (r (l (r (r (l (r (l (r (l e))))))))))))))))
def p175608 : Pos := r (l (l (r (r (r (r (r (r (l (r (r (l (r (l (r (l e))))))))))))))))
def p175610 : Pos := r (r (l (r (r (r (r (r (r (l (r (r (l (r (l (r (l e))))))))))))))))
def p176565 : Pos := l (r (r (l (r (r (l (r (r (l (l (l (r (r (l (r (l e))))))))))))))))
def p176578 : Pos := r (r (l (l (l (l (r (r (r (l (l (l (r (r (l (r (l e))))))))))))))))
def p177698 : Pos := r (r (l (l (l (r (l (l (l (r (r (l (r (r (l (r (l e))))))))))))))))
def p177712 : Pos := r (l (l (l (r (r (l (l (l (r (r (l (r (r (l (r (l e))))))))))))))))
def p177726 : Pos := r (r (r (r (r (r (l (l (l (r (r (l (r (r (l (r (l e))))))))))))))))
def p177728 : Pos := r (l (l (l (l (l (r (l (l (r (r (l (r (r (l (r (l e))))))))))))))))
def p178117 : Pos := l (r (r (l (l (l (r (r (r (r (r (l (r (r (l (r (l e))))))))))))))))
def p213798 : Pos := r (r (r (l (l (r (l (l (r (r (l (l (l (l (r (l (r e))))))))))))))))
def p213802 : Pos := r (r (l (r (l (r (l (l (r (r (l (l (l (l (r (l (r e))))))))))))))))
def p213808 : Pos := r (l (l (l (r (r (l (l (r (r (l (l (l (l (r (l (r e))))))))))))))))
def p271659 : Pos := l (l (r (r (l (r (l (l (r (l (r (l (l (r (l (l (l (l e)))))))))))))))))
def p271663 : Pos := l (l (l (l (r (r (l (l (r (l (r (l (l (r (l (l (l (l e)))))))))))))))))
def p271669 : Pos := l (r (r (l (r (r (l (l (r (l (r (l (l (r (l (l (l (l e)))))))))))))))))
def p329520 : Pos := r (l (l (l (r (r (l (l (r (r (r (l (l (l (l (l (r (l e)))))))))))))))))
def p329524 : Pos := r (l (r (l (r (r (l (l (r (r (r (l (l (l (l (l (r (l e)))))))))))))))))
def p337501 : Pos := l (r (r (r (r (l (r (l (l (r (r (l (l (r (l (l (r (l e)))))))))))))))))
def p337627 : Pos := l (l (r (r (r (l (r (r (l (r (r (l (l (r (l (l (r (l e)))))))))))))))))
def p337630 : Pos := r (r (r (r (r (l (r (r (l (r (r (l (l (r (l (l (r (l e)))))))))))))))))
def p337632 : Pos := r (l (l (l (l (r (r (r (l (r (r (l (l (r (l (l (r (l e)))))))))))))))))
def p337633 : Pos := l (r (l (l (l (r (r (r (l (r (r (l (l (r (l (l (r (l e)))))))))))))))))
def p337634 : Pos := r (r (l (l (l (r (r (r (l (r (r (l (l (r (l (l (r (l e)))))))))))))))))
def p337820 : Pos := r (l (r (r (r (l (l (r (r (r (r (l (l (r (l (l (r (l e)))))))))))))))))
def p337837 : Pos := l (r (r (r (l (r (l (r (r (r (r (l (l (r (l (l (r (l e)))))))))))))))))
def p337844 : Pos := r (l (r (l (r (r (l (r (r (r (r (l (l (r (l (l (r (l e)))))))))))))))))
def p338695 : Pos := l (l (l (r (l (l (l (l (r (r (l (r (l (r (l (l (r (l e)))))))))))))))))
def p338708 : Pos := r (l (r (l (r (l (l (l (r (r (l (r (l (r (l (l (r (l e)))))))))))))))))
def p339828 : Pos := r (l (r (l (r (r (r (l (r (r (r (r (l (r (l (l (r (l e)))))))))))))))))
def p339842 : Pos := r (r (l (l (l (l (l (r (r (r (r (r (l (r (l (l (r (l e)))))))))))))))))
def p339856 : Pos := r (l (l (l (r (l (l (r (r (r (r (r (l (r (l (l (r (l e)))))))))))))))))
def p339858 : Pos := r (r (l (l (r (l (l (r (r (r (r (r (l (r (l (l (r (l e)))))))))))))))))
def p340394 : Pos := r (r (l (r (l (r (l (r (r (l (l (l (r (r (l (l (r (l e)))))))))))))))))
def p340411 : Pos := l (l (r (r (r (r (l (r (r (l (l (l (r (r (l (l (r (l e)))))))))))))))))
def p340418 : Pos := r (r (l (l (l (l (r (r (r (l (l (l (r (r (l (l (r (l e)))))))))))))))))
def p341976 : Pos := r (l (l (r (r (l (r (r (r (r (r (l (r (r (l (l (r (l e)))))))))))))))))
def p341990 : Pos := r (r (r (l (l (r (r (r (r (r (r (l (r (r (l (l (r (l e)))))))))))))))))
def p342004 : Pos := r (l (r (l (r (r (r (r (r (r (r (l (r (r (l (l (r (l e)))))))))))))))))
def p342006 : Pos := r (r (r (l (r (r (r (r (r (r (r (l (r (r (l (l (r (l e)))))))))))))))))
def p342396 : Pos := r (l (r (r (r (r (r (l (r (l (l (r (r (r (l (l (r (l e)))))))))))))))))
def p400247 : Pos := l (l (l (r (r (r (r (l (r (r (l (r (r (l (l (l (l (r e)))))))))))))))))
def p400251 : Pos := l (l (r (r (r (r (r (l (r (r (l (r (r (l (l (l (l (r e)))))))))))))))))
def p400257 : Pos := l (r (l (l (l (l (l (r (r (r (l (r (r (l (l (l (l (r e)))))))))))))))))
def p458108 : Pos := r (l (r (r (r (r (r (l (r (l (r (r (r (r (r (r (l (r e)))))))))))))))))
def p458112 : Pos := r (l (l (l (l (l (l (r (r (l (r (r (r (r (r (r (l (r e)))))))))))))))))
def p465045 : Pos := l (r (r (l (r (l (l (r (l (l (l (r (r (l (l (l (r (r e)))))))))))))))))
def p465203 : Pos := l (l (r (l (r (r (l (l (r (l (l (r (r (l (l (l (r (r e)))))))))))))))))
def p465223 : Pos := l (l (l (r (l (l (r (l (r (l (l (r (r (l (l (l (r (r e)))))))))))))))))
def p465232 : Pos := r (l (l (l (r (l (r (l (r (l (l (r (r (l (l (l (r (r e)))))))))))))))))
def p465235 : Pos := l (l (r (l (r (l (r (l (r (l (l (r (r (l (l (l (r (r e)))))))))))))))))
def p465242 : Pos := r (r (l (r (r (l (r (l (r (l (l (r (r (l (l (l (r (r e)))))))))))))))))
def p465243 : Pos := l (l (r (r (r (l (r (l (r (l (l (r (r (l (l (l (r (r e)))))))))))))))))
def p465244 : Pos := r (l (r (r (r (l (r (l (r (l (l (r (r (l (l (l (r (r e)))))))))))))))))
def p465536 : Pos := r (l (l (l (l (l (l (r (l (r (l (r (r (l (l (l (r (r e)))))))))))))))))
def p465539 : Pos := l (l (r (l (l (l (l (r (l (r (l (r (r (l (l (l (r (r e)))))))))))))))))
end
end Go.Ev.Z
end
section
set_option linter.all false
set_option maxRecDepth 100000
set_option maxHeartbeats 0
set_option linter.unusedVariables false
namespace Go.Ev.Z
open Go Go.Ev
noncomputable section
def o0 : SO := (.cells (c (i 1) (c (i 1) (c (i 0) (c (i 0) (c (i 0) (c .nils (c .nils (c (i 1) (c (i 2) (c (i 0) (c (i 0) (c (i 0) (c .nils (c .nils z)))))))))))))))
def o1 : SO := (.grow (c (b 61) (c (b 116) (c (b 123) (c (b 67) (c (b 116) (c (b 237) (c (b 197) (c (b 54) (c (b 122) (c (b 247) (c (b 108) (c (b 194) (c (b 220) (c (b 245) (c (b 151) (c (b 89) (c (b 239) (c (b 12) (c (b 185) (c (b 218) (c (b 25) (c (b 131) (c (b 77) (c (b 210) (c (b 176) (c (b 203) (c (b 235) (c (b 186) (c (b 67) (c (b 84) (c (b 152) (c (b 13) (c (.str [3, 0, 2, 2, 2, 0, 0, 0, 0, 0, 2, 4, 0, 0, 0, 0, 0, 137, 71, 59, 75, 41, 20, 171, 140, 124, 49, 165, 244, 47, 172, 198, 246, 223, 183, 107, 146, 216, 206, 139, 42, 25, 93, 151, 236, 173, 83, 176, 209, 1, 97]) (c (b 137) (c (b 71) (c (b 59) (c (b 75) (c (b 41) (c (b 20) (c (b 171) (c (b 140) (c (b 124) (c (b 49) (c (b 165) (c (b 244) (c (b 47) (c (b 172) (c (b 198) (c (b 246) (c (b 223) (c (b 183) (c (b 107) (c (b 146) (c (b 216) (c (b 206) (c (b 139) (c (b 42) (c (b 25) (c (b 93) (c (b 151) (c (b 236) (c (b 173) (c (b 83) (c (b 176) (c (b 209) (c (.str [2, 1, 0, 224, 161, 90, 238, 161, 217, 234, 244, 23, 218, 96, 82, 211, 206, 212, 252, 223, 118, 42, 150, 19, 222, 22, 221, 183, 127, 232, 0, 218, 88, 146, 145]) (c (b 224) (c (b 161) (c (b 90) (c (b 238) (c (b 161) (c (b 217) (c (b 234) (c (b 244) (c (b 23) (c (b 218) (c (b 96) (c (b 82) (c (b 211) (c (b 206) (c (b 212) (c (b 252) (c (b 223) (c (b 118) (c (b 42) (c (b 150) (c (b 19) (c (b 222) (c (b 22) (c (b 221) (c (b 183) (c (b 127) (c (b 232) (c (b 0) (c (b 218) (c (b 88) (c (b 146) (c (b 145) (c (.str [1, 0, 2, 1, 0, 0, 2, 0, 0]) z))))))))))))))))))))))))))))))))))))))))))))))))))))))))))))))))))))))))))))))))))))))))))))))))))) 33)
def o2 : SO := (.cells (c (b 61) (c (b 116) (c (b 123) (c (b 67) (c (b 116) (c (b 237) (c (b 197) (c (b 54) (c (b 122) (c (b 247) (c (b 108) (c (b 194) (c (b 220) (c (b 245) (c (b 151) (c (b 89) (c (b 239) (c (b 12) (c (b 185) (c (b 218) (c (b 25) (c (b 131) (c (b 77) (c (b 210) (c (b 176) (c (b 203) (c (b 235) (c (b 186) (c (b 67) (c (b 84) (c (b 152) (c (b 13) z)))))))))))))))))))))))))))))))))
def o3 : SO := (.cells (c (i 1) (c (i 3) (c (i 1) (c (i 0) (c (i 0) (c (.slice p302 0 2 (.k 2)) (c .nils (c (i 1) (c (i 4) (c (i 1) (c (i 0) (c (i 0) (c (.slice p304 0 2 (.k 2)) (c .nils z)))))))))))))))
def o4 : SO := (.cells (c (i 1) (c (.int .i64 (.negSucc 0)) (c (i 2) (c (i 1) z)))))
def o5 : SO := (.cells (c (.slice p1131 0 6 (.r 0)) z))
def o6 : SO := (.grow (c (b 61) (c (b 116) (c (b 123) (c (b 67) (c (b 116) (c (b 237) (c (b 197) (c (b 54) (c (b 122) (c (b 247) (c (b 108) (c (b 194) (c (b 220) (c (b 245) (c (b 151) (c (b 89) (c (b 239) (c (b 12) (c (b 185) (c (b 218) (c (b 25) (c (b 131) (c (b 77) (c (b 210) (c (b 176) (c (b 203) (c (b 235) (c (b 186) (c (b 67) (c (b 84) (c (b 152) (c (b 13) (c (.str [3, 0, 2, 2, 2, 0, 0, 0, 0, 0, 2, 4, 0, 0, 0, 0, 0, 137, 71, 59, 75, 41, 20, 171, 140, 124, 49, 165, 244, 47, 172, 198, 246, 223, 183, 107, 146, 216, 206, 139, 42, 25, 93, 151, 236, 173, 83, 176, 209, 1, 97]) (c (b 130) (c (b 40) (c (b 195) (c (b 86) (c (b 43) (c (b 53) (c (b 107) (c (b 183) (c (b 214) (c (b 255) (c (b 87) (c (b 233) (c (b 106) (c (b 194) (c (b 155) (c (b 210) (c (b 141) (c (b 129) (c (b 67) (c (b 239) (c (b 28) (c (b 18) (c (b 249) (c (b 253) (c (b 135) (c (b 6) (c (b 125) (c (b 178) (c (b 181) (c (b 96) (c (b 164) (c (b 255) (c (.str [2, 1, 0, 143, 10, 62, 188, 241, 239, 252, 205, 79, 28, 25, 117, 14, 167, 162, 162, 6, 254, 67, 13, 213, 15, 234, 213, 124, 82, 164, 233, 114, 251, 241, 172]) (c (b 137) (c (b 71) (c (b 59) (c (b 75) (c (b 41) (c (b 20) (c (b 171) (c (b 140) (c (b 124) (c (b 49) (c (b 165) (c (b 244) (c (b 47) (c (b 172) (c (b 198) (c (b 246) (c (b 223) (c (b 183) (c (b 107) (c (b 146) (c (b 216) (c (b 206) (c (b 139) (c (b 42) (c (b 25) (c (b 93) (c (b 151) (c (b 236) (c (b 173) (c (b 83) (c (b 176) (c (b 209) (c (.str [2, 1, 0, 224, 161, 90, 238, 161, 217, 234, 244, 23, 218, 96, 82, 211, 206, 212, 252, 223, 118, 42, 150, 19, 222, 22, 221, 183, 127, 232, 0, 218, 88, 146, 145]) (c (b 143) (c (b 10) (c (b 62) (c (b 188) (c (b 241) (c (b 239) (c (b 252) (c (b 205) (c (b 79) (c (b 28) (c (b 25) (c (b 117) (c (b 14) (c (b 167) (c (b 162) (c (b 162) (c (b 6) (c (b 254) (c (b 67) (c (b 13) (c (b 213) (c (b 15) (c (b 234) (c (b 213) (c (b 124) (c (b 82) (c (b 164) (c (b 233) (c (b 114) (c (b 251) (c (b 241) (c (b 172) (c (.str [1, 0, 4, 1, 0, 0, 2, 0, 0, 3, 1, 2, 1, 1, 2, 0, 4, 1, 2, 1, 1, 2, 0]) (c (b 192) (c (b 229) (c (b 242) (c (b 74) (c (b 18) (c (b 102) (c (b 223) (c (b 178) (c (b 111) (c (b 126) (c (b 251) (c (b 245) (c (b 116) (c (b 55) (c (b 63) (c (b 201) (c (b 71) (c (b 163) (c (b 92) (c (b 212) (c (b 81) (c (b 157) (c (b 200) (c (b 85) (c (b 173) (c (b 110) (c (b 122) (c (b 64) (c (b 201) (c (b 113) (c (b 62) (c (b 98) (c (.str [3, 1, 61, 116, 123, 67, 116, 237, 197, 54, 122, 247, 108, 194, 220, 245, 151, 89, 239, 12, 185, 218, 25, 131, 77, 210, 176, 203, 235, 186, 67, 84, 152, 13, 2, 2, 6, 2, 0, 0, 2, 2, 1, 4, 2, 0, 2, 8, 2, 0, 0, 2, 2, 1, 4, 2, 0, 130, 40, 195, 86, 43, 53, 107, 183, 214, 255, 87, 233, 106, 194, 155, 210, 141, 129, 67, 239, 28, 18, 249, 253, 135, 6, 125, 178, 181, 96, 164, 255, 1, 98]) (c (b 224) (c (b 161) (c (b 90) (c (b 238) (c (b 161) (c (b 217) (c (b 234) (c (b 244) (c (b 23) (c (b 218) (c (b 96) (c (b 82) (c (b 211) (c (b 206) (c (b 212) (c (b 252) (c (b 223) (c (b 118) (c (b 42) (c (b 150) (c (b 19) (c (b 222) (c (b 22) (c (b 221) (c (b 183) (c (b 127) (c (b 232) (c (b 0) (c (b 218) (c (b 88) (c (b 146) (c (b 145) (c (.str [1, 0, 2, 1, 0, 0, 2, 0, 0]) z)))))))))))))))))))))))))))))))))))))))))))))))))))))))))))))))))))))))))))))))))))))))))))))))))))))))))))))))))))))))))))))))))))))))))))))))))))))))))))))))))))))))))))))))))))))))))))))))))))))) 33)
def o7 : SO := (.cells (c (i 2) (c (i 4) (c (i 0) (c (i 0) (c (i 0) (c .nils (c .nils z))))))))
def o8 : SO := (.cells (c (b 192) (c (b 229) (c (b 242) (c (b 74) (c (b 18) (c (b 102) (c (b 223) (c (b 178) (c (b 111) (c (b 126) (c (b 251) (c (b 245) (c (b 116) (c (b 55) (c (b 63) (c (b 201) (c (b 71) (c (b 163) (c (b 92) (c (b 212) (c (b 81) (c (b 157) (c (b 200) (c (b 85) (c (b 173) (c (b 110) (c (b 122) (c (b 64) (c (b 201) (c (b 113) (c (b 62) (c (b 98) z)))))))))))))))))))))))))))))))))
def o9 : SO := (.cells (c (.slice p2001 0 9 (.r 0)) z))
def o10 : SO := (.grow (c (b 61) (c (b 116) (c (b 123) (c (b 67) (c (b 116) (c (b 237) (c (b 197) (c (b 54) (c (b 122) (c (b 247) (c (b 108) (c (b 194) (c (b 220) (c (b 245) (c (b 151) (c (b 89) (c (b 239) (c (b 12) (c (b 185) (c (b 218) (c (b 25) (c (b 131) (c (b 77) (c (b 210) (c (b 176) (c (b 203) (c (b 235) (c (b 186) (c (b 67) (c (b 84) (c (b 152) (c (b 13) (c (.str [3, 0, 2, 2, 2, 0, 0, 0, 0, 0, 2, 4, 0, 0, 0, 0, 0, 137, 71, 59, 75, 41, 20, 171, 140, 124, 49, 165, 244, 47, 172, 198, 246, 223, 183, 107, 146, 216, 206, 139, 42, 25, 93, 151, 236, 173, 83, 176, 209, 1, 97]) (c (b 95) (c (b 46) (c (b 232) (c (b 20) (c (b 156) (c (b 225) (c (b 235) (c (b 46) (c (b 98) (c (b 239) (c (b 81) (c (b 27) (c (b 5) (c (b 248) (c (b 37) (c (b 60) (c (b 1) (c (b 135) (c (b 123) (c (b 10) (c (b 65) (c (b 136) (c (b 199) (c (b 140) (c (b 108) (c (b 46) (c (b 35) (c (b 71) (c (b 35) (c (b 32) (c (b 28) (c (b 68) (c (.str [2, 1, 0, 123, 168, 28, 120, 32, 56, 58, 121, 45, 48, 244, 158, 137, 73, 100, 148, 185, 82, 124, 60, 248, 133, 239, 3, 82, 178, 14, 60, 81, 230, 201, 220]) (c (b 123) (c (b 168) (c (b 28) (c (b 120) (c (b 32) (c (b 56) (c (b 58) (c (b 121) (c (b 45) (c (b 48) (c (b 244) (c (b 158) (c (b 137) (c (b 73) (c (b 100) (c (b 148) (c (b 185) (c (b 82) (c (b 124) (c (b 60) (c (b 248) (c (b 133) (c (b 239) (c (b 3) (c (b 82) (c (b 178) (c (b 14) (c (b 60) (c (b 81) (c (b 230) (c (b 201) (c (b 220) (c (.str [1, 0, 3, 1, 0, 0, 2, 0, 0, 3, 1, 2, 1, 1, 2, 0]) (c (b 130) (c (b 40) (c (b 195) (c (b 86) (c (b 43) (c (b 53) (c (b 107) (c (b 183) (c (b 214) (c (b 255) (c (b 87) (c (b 233) (c (b 106) (c (b 194) (c (b 155) (c (b 210) (c (b 141) (c (b 129) (c (b 67) (c (b 239) (c (b 28) (c (b 18) (c (b 249) (c (b 253) (c (b 135) (c (b 6) (c (b 125) (c (b 178) (c (b 181) (c (b 96) (c (b 164) (c (b 255) (c (.str [2, 1, 0, 143, 10, 62, 188, 241, 239, 252, 205, 79, 28, 25, 117, 14, 167, 162, 162, 6, 254, 67, 13, 213, 15, 234, 213, 124, 82, 164, 233, 114, 251, 241, 172]) (c (b 137) (c (b 71) (c (b 59) (c (b 75) (c (b 41) (c (b 20) (c (b 171) (c (b 140) (c (b 124) (c (b 49) (c (b 165) (c (b 244) (c (b 47) (c (b 172) (c (b 198) (c (b 246) (c (b 223) (c (b 183) (c (b 107) (c (b 146) (c (b 216) (c (b 206) (c (b 139) (c (b 42) (c (b 25) (c (b 93) (c (b 151) (c (b 236) (c (b 173) (c (b 83) (c (b 176) (c (b 209) (c (.str [2, 1, 0, 224, 161, 90, 238, 161, 217, 234, 244, 23, 218, 96, 82, 211, 206, 212, 252, 223, 118, 42, 150, 19, 222, 22, 221, 183, 127, 232, 0, 218, 88, 146, 145]) (c (b 143) (c (b 10) (c (b 62) (c (b 188) (c (b 241) (c (b 239) (c (b 252) (c (b 205) (c (b 79) (c (b 28) (c (b 25) (c (b 117) (c (b 14) (c (b 167) (c (b 162) (c (b 162) (c (b 6) (c (b 254) (c (b 67) (c (b 13) (c (b 213) (c (b 15) (c (b 234) (c (b 213) (c (b 124) (c (b 82) (c (b 164) (c (b 233) (c (b 114) (c (b 251) (c (b 241) (c (b 172) (c (.str [1, 0, 4, 1, 0, 0, 2, 0, 0, 3, 1, 2, 1, 1, 2, 0, 4, 1, 2, 1, 1, 2, 0]) (c (b 155) (c (b 145) (c (b 221) (c (b 81) (c (b 81) (c (b 0) (c (b 230) (c (b 114) (c (b 76) (c (b 240) (c (b 157) (c (b 116) (c (b 63) (c (b 147) (c (b 90) (c (b 128) (c (b 10) (c (b 118) (c (b 109) (c (b 226) (c (b 180) (c (b 40) (c (b 128) (c (b 128) (c (b 15) (c (b 85) (c (b 131) (c (b 143) (c (b 164) (c (b 114) (c (b 213) (c (b 56) (c (.str [3, 1, 192, 229, 242, 74, 18, 102, 223, 178, 111, 126, 251, 245, 116, 55, 63, 201, 71, 163, 92, 212, 81, 157, 200, 85, 173, 110, 122, 64, 201, 113, 62, 98, 1, 4, 8, 0, 0, 0, 0, 0, 95, 46, 232, 20, 156, 225, 235, 46, 98, 239, 81, 27, 5, 248, 37, 60, 1, 135, 123, 10, 65, 136, 199, 140, 108, 46, 35, 71, 35, 32, 28, 68, 1, 99]) (c (b 192) (c (b 229) (c (b 242) (c (b 74) (c (b 18) (c (b 102) (c (b 223) (c (b 178) (c (b 111) (c (b 126) (c (b 251) (c (b 245) (c (b 116) (c (b 55) (c (b 63) (c (b 201) (c (b 71) (c (b 163) (c (b 92) (c (b 212) (c (b 81) (c (b 157) (c (b 200) (c (b 85) (c (b 173) (c (b 110) (c (b 122) (c (b 64) (c (b 201) (c (b 113) (c (b 62) (c (b 98) (c (.str [3, 1, 61, 116, 123, 67, 116, 237, 197, 54, 122, 247, 108, 194, 220, 245, 151, 89, 239, 12, 185, 218, 25, 131, 77, 210, 176, 203, 235, 186, 67, 84, 152, 13, 2, 2, 6, 2, 0, 0, 2, 2, 1, 4, 2, 0, 2, 8, 2, 0, 0, 2, 2, 1, 4, 2, 0, 130, 40, 195, 86, 43, 53, 107, 183, 214, 255, 87, 233, 106, 194, 155, 210, 141, 129, 67, 239, 28, 18, 249, 253, 135, 6, 125, 178, 181, 96, 164, 255, 1, 98]) (c (b 224) (c (b 161) (c (b 90) (c (b 238) (c (b 161) (c (b 217) (c (b 234) (c (b 244) (c (b 23) (c (b 218) (c (b 96) (c (b 82) (c (b 211) (c (b 206) (c (b 212) (c (b 252) (c (b 223) (c (b 118) (c (b 42) (c (b 150) (c (b 19) (c (b 222) (c (b 22) (c (b 221) (c (b 183) (c (b 127) (c (b 232) (c (b 0) (c (b 218) (c (b 88) (c (b 146) (c (b 145) (c (.str [1, 0, 2, 1, 0, 0, 2, 0, 0]) z))))))))))))))))))))))))))))))))))))))))))))))))))))))))))))))))))))))))))))))))))))))))))))))))))))))))))))))))))))))))))))))))))))))))))))))))))))))))))))))))))))))))))))))))))))))))))))))))))))))))))))))))))))))))))))))))))))))))))))))))))))))))))))))))))))))))))))))))))))))))))))))))))))))))) 33)
def o11 : SO := (.mp (.cons (.agg (c (b 61) (c (b 116) (c (b 123) (c (b 67) (c (b 116) (c (b 237) (c (b 197) (c (b 54) (c (b 122) (c (b 247) (c (b 108) (c (b 194) (c (b 220) (c (b 245) (c (b 151) (c (b 89) (c (b 239) (c (b 12) (c (b 185) (c (b 218) (c (b 25) (c (b 131) (c (b 77) (c (b 210) (c (b 176) (c (b 203) (c (b 235) (c (b 186) (c (b 67) (c (b 84) (c (b 152) (c (b 13) z))))))))))))))))))))))))))))))))) (.str [3, 0, 2, 2, 2, 0, 0, 0, 0, 0, 2, 4, 0, 0, 0, 0, 0, 137, 71, 59, 75, 41, 20, 171, 140, 124, 49, 165, 244, 47, 172, 198, 246, 223, 183, 107, 146, 216, 206, 139, 42, 25, 93, 151, 236, 173, 83, 176, 209, 1, 97]) 0 (.cons (.agg (c (b 95) (c (b 46) (c (b 232) (c (b 20) (c (b 156) (c (b 225) (c (b 235) (c (b 46) (c (b 98) (c (b 239) (c (b 81) (c (b 27) (c (b 5) (c (b 248) (c (b 37) (c (b 60) (c (b 1) (c (b 135) (c (b 123) (c (b 10) (c (b 65) (c (b 136) (c (b 199) (c (b 140) (c (b 108) (c (b 46) (c (b 35) (c (b 71) (c (b 35) (c (b 32) (c (b 28) (c (b 68) z))))))))))))))))))))))))))))))))) (.str [2, 1, 0, 123, 168, 28, 120, 32, 56, 58, 121, 45, 48, 244, 158, 137, 73, 100, 148, 185, 82, 124, 60, 248, 133, 239, 3, 82, 178, 14, 60, 81, 230, 201, 220]) 1 (.cons (.agg (c (b 123) (c (b 168) (c (b 28) (c (b 120) (c (b 32) (c (b 56) (c (b 58) (c (b 121) (c (b 45) (c (b 48) (c (b 244) (c (b 158) (c (b 137) (c (b 73) (c (b 100) (c (b 148) (c (b 185) (c (b 82) (c (b 124) (c (b 60) (c (b 248) (c (b 133) (c (b 239) (c (b 3) (c (b 82) (c (b 178) (c (b 14) (c (b 60) (c (b 81) (c (b 230) (c (b 201) (c (b 220) z))))))))))))))))))))))))))))))))) (.str [1, 0, 3, 1, 0, 0, 2, 0, 0, 3, 1, 2, 1, 1, 2, 0]) 2 (.cons (.agg (c (b 130) (c (b 40) (c (b 195) (c (b 86) (c (b 43) (c (b 53) (c (b 107) (c (b 183) (c (b 214) (c (b 255) (c (b 87) (c (b 233) (c (b 106) (c (b 194) (c (b 155) (c (b 210) (c (b 141) (c (b 129) (c (b 67) (c (b 239) (c (b 28) (c (b 18) (c (b 249) (c (b 253) (c (b 135) (c (b 6) (c (b 125) (c (b 178) (c (b 181) (c (b 96) (c (b 164) (c (b 255) z))))))))))))))))))))))))))))))))) (.str [2, 1, 0, 143, 10, 62, 188, 241, 239, 252, 205, 79, 28, 25, 117, 14, 167, 162, 162, 6, 254, 67, 13, 213, 15, 234, 213, 124, 82, 164, 233, 114, 251, 241, 172]) 3 (.cons (.agg (c (b 137) (c (b 71) (c (b 59) (c (b 75) (c (b 41) (c (b 20) (c (b 171) (c (b 140) (c (b 124) (c (b 49) (c (b 165) (c (b 244) (c (b 47) (c (b 172) (c (b 198) (c (b 246) (c (b 223) (c (b 183) (c (b 107) (c (b 146) (c (b 216) (c (b 206) (c (b 139) (c (b 42) (c (b 25) (c (b 93) (c (b 151) (c (b 236) (c (b 173) (c (b 83) (c (b 176) (c (b 209) z))))))))))))))))))))))))))))))))) (.str [2, 1, 0, 224, 161, 90, 238, 161, 217, 234, 244, 23, 218, 96, 82, 211, 206, 212, 252, 223, 118, 42, 150, 19, 222, 22, 221, 183, 127, 232, 0, 218, 88, 146, 145]) 4 (.cons (.agg (c (b 143) (c (b 10) (c (b 62) (c (b 188) (c (b 241) (c (b 239) (c (b 252) (c (b 205) (c (b 79) (c (b 28) (c (b 25) (c (b 117) (c (b 14) (c (b 167) (c (b 162) (c (b 162) (c (b 6) (c (b 254) (c (b 67) (c (b 13) (c (b 213) (c (b 15) (c (b 234) (c (b 213) (c (b 124) (c (b 82) (c (b 164) (c (b 233) (c (b 114) (c (b 251) (c (b 241) (c (b 172) z))))))))))))))))))))))))))))))))) (.str [1, 0, 4, 1, 0, 0, 2, 0, 0, 3, 1, 2, 1, 1, 2, 0, 4, 1, 2, 1, 1, 2, 0]) 5 .nil)))))) 6)
def o12 : SO := (.mp (.cons (.agg (c (b 61) (c (b 116) (c (b 123) (c (b 67) (c (b 116) (c (b 237) (c (b 197) (c (b 54) (c (b 122) (c (b 247) (c (b 108) (c (b 194) (c (b 220) (c (b 245) (c (b 151) (c (b 89) (c (b 239) (c (b 12) (c (b 185) (c (b 218) (c (b 25) (c (b 131) (c (b 77) (c (b 210) (c (b 176) (c (b 203) (c (b 235) (c (b 186) (c (b 67) (c (b 84) (c (b 152) (c (b 13) z))))))))))))))))))))))))))))))))) (.str [3, 0, 2, 2, 2, 0, 0, 0, 0, 0, 2, 4, 0, 0, 0, 0, 0, 137, 71, 59, 75, 41, 20, 171, 140, 124, 49, 165, 244, 47, 172, 198, 246, 223, 183, 107, 146, 216, 206, 139, 42, 25, 93, 151, 236, 173, 83, 176, 209, 1, 97]) 0 (.cons (.agg (c (b 95) (c (b 46) (c (b 232) (c (b 20) (c (b 156) (c (b 225) (c (b 235) (c (b 46) (c (b 98) (c (b 239) (c (b 81) (c (b 27) (c (b 5) (c (b 248) (c (b 37) (c (b 60) (c (b 1) (c (b 135) (c (b 123) (c (b 10) (c (b 65) (c (b 136) (c (b 199) (c (b 140) (c (b 108) (c (b 46) (c (b 35) (c (b 71) (c (b 35) (c (b 32) (c (b 28) (c (b 68) z))))))))))))))))))))))))))))))))) (.str [2, 1, 0, 123, 168, 28, 120, 32, 56, 58, 121, 45, 48, 244, 158, 137, 73, 100, 148, 185, 82, 124, 60, 248, 133, 239, 3, 82, 178, 14, 60, 81, 230, 201, 220]) 1 (.cons (.agg (c (b 123) (c (b 168) (c (b 28) (c (b 120) (c (b 32) (c (b 56) (c (b 58) (c (b 121) (c (b 45) (c (b 48) (c (b 244) (c (b 158) (c (b 137) (c (b 73) (c (b 100) (c (b 148) (c (b 185) (c (b 82) (c (b 124) (c (b 60) (c (b 248) (c (b 133) (c (b 239) (c (b 3) (c (b 82) (c (b 178) (c (b 14) (c (b 60) (c (b 81) (c (b 230) (c (b 201) (c (b 220) z))))))))))))))))))))))))))))))))) (.str [1, 0, 3, 1, 0, 0, 2, 0, 0, 3, 1, 2, 1, 1, 2, 0]) 2 (.cons (.agg (c (b 130) (c (b 40) (c (b 195) (c (b 86) (c (b 43) (c (b 53) (c (b 107) (c (b 183) (c (b 214) (c (b 255) (c (b 87) (c (b 233) (c (b 106) (c (b 194) (c (b 155) (c (b 210) (c (b 141) (c (b 129) (c (b 67) (c (b 239) (c (b 28) (c (b 18) (c (b 249) (c (b 253) (c (b 135) (c (b 6) (c (b 125) (c (b 178) (c (b 181) (c (b 96) (c (b 164) (c (b 255) z))))))))))))))))))))))))))))))))) (.str [2, 1, 0, 143, 10, 62, 188, 241, 239, 252, 205, 79, 28, 25, 117, 14, 167, 162, 162, 6, 254, 67, 13, 213, 15, 234, 213, 124, 82, 164, 233, 114, 251, 241, 172]) 3 (.cons (.agg (c (b 137) (c (b 71) (c (b 59) (c (b 75) (c (b 41) (c (b 20) (c (b 171) (c (b 140) (c (b 124) (c (b 49) (c (b 165) (c (b 244) (c (b 47) (c (b 172) (c (b 198) (c (b 246) (c (b 223) (c (b 183) (c (b 107) (c (b 146) (c (b 216) (c (b 206) (c (b 139) (c (b 42) (c (b 25) (c (b 93) (c (b 151) (c (b 236) (c (b 173) (c (b 83) (c (b 176) (c (b 209) z))))))))))))))))))))))))))))))))) (.str [2, 1, 0, 224, 161, 90, 238, 161, 217, 234, 244, 23, 218, 96, 82, 211, 206, 212, 252, 223, 118, 42, 150, 19, 222, 22, 221, 183, 127, 232, 0, 218, 88, 146, 145]) 4 (.cons (.agg (c (b 143) (c (b 10) (c (b 62) (c (b 188) (c (b 241) (c (b 239) (c (b 252) (c (b 205) (c (b 79) (c (b 28) (c (b 25) (c (b 117) (c (b 14) (c (b 167) (c (b 162) (c (b 162) (c (b 6) (c (b 254) (c (b 67) (c (b 13) (c (b 213) (c (b 15) (c (b 234) (c (b 213) (c (b 124) (c (b 82) (c (b 164) (c (b 233) (c (b 114) (c (b 251) (c (b 241) (c (b 172) z))))))))))))))))))))))))))))))))) (.str [1, 0, 4, 1, 0, 0, 2, 0, 0, 3, 1, 2, 1, 1, 2, 0, 4, 1, 2, 1, 1, 2, 0]) 5 (.cons (.agg (c (b 155) (c (b 145) (c (b 221) (c (b 81) (c (b 81) (c (b 0) (c (b 230) (c (b 114) (c (b 76) (c (b 240) (c (b 157) (c (b 116) (c (b 63) (c (b 147) (c (b 90) (c (b 128) (c (b 10) (c (b 118) (c (b 109) (c (b 226) (c (b 180) (c (b 40) (c (b 128) (c (b 128) (c (b 15) (c (b 85) (c (b 131) (c (b 143) (c (b 164) (c (b 114) (c (b 213) (c (b 56) z))))))))))))))))))))))))))))))))) (.str [3, 1, 192, 229, 242, 74, 18, 102, 223, 178, 111, 126, 251, 245, 116, 55, 63, 201, 71, 163, 92, 212, 81, 157, 200, 85, 173, 110, 122, 64, 201, 113, 62, 98, 1, 4, 8, 0, 0, 0, 0, 0, 95, 46, 232, 20, 156, 225, 235, 46, 98, 239, 81, 27, 5, 248, 37, 60, 1, 135, 123, 10, 65, 136, 199, 140, 108, 46, 35, 71, 35, 32, 28, 68, 1, 99]) 6 .nil))))))) 7)
def o13 : SO := (.mp (.cons (.agg (c (b 61) (c (b 116) (c (b 123) (c (b 67) (c (b 116) (c (b 237) (c (b 197) (c (b 54) (c (b 122) (c (b 247) (c (b 108) (c (b 194) (c (b 220) (c (b 245) (c (b 151) (c (b 89) (c (b 239) (c (b 12) (c (b 185) (c (b 218) (c (b 25) (c (b 131) (c (b 77) (c (b 210) (c (b 176) (c (b 203) (c (b 235) (c (b 186) (c (b 67) (c (b 84) (c (b 152) (c (b 13) z))))))))))))))))))))))))))))))))) (.str [3, 0, 2, 2, 2, 0, 0, 0, 0, 0, 2, 4, 0, 0, 0, 0, 0, 137, 71, 59, 75, 41, 20, 171, 140, 124, 49, 165, 244, 47, 172, 198, 246, 223, 183, 107, 146, 216, 206, 139, 42, 25, 93, 151, 236, 173, 83, 176, 209, 1, 97]) 0 (.cons (.agg (c (b 95) (c (b 46) (c (b 232) (c (b 20) (c (b 156) (c (b 225) (c (b 235) (c (b 46) (c (b 98) (c (b 239) (c (b 81) (c (b 27) (c (b 5) (c (b 248) (c (b 37) (c (b 60) (c (b 1) (c (b 135) (c (b 123) (c (b 10) (c (b 65) (c (b 136) (c (b 199) (c (b 140) (c (b 108) (c (b 46) (c (b 35) (c (b 71) (c (b 35) (c (b 32) (c (b 28) (c (b 68) z))))))))))))))))))))))))))))))))) (.str [2, 1, 0, 123, 168, 28, 120, 32, 56, 58, 121, 45, 48, 244, 158, 137, 73, 100, 148, 185, 82, 124, 60, 248, 133, 239, 3, 82, 178, 14, 60, 81, 230, 201, 220]) 1 (.cons (.agg (c (b 123) (c (b 168) (c (b 28) (c (b 120) (c (b 32) (c (b 56) (c (b 58) (c (b 121) (c (b 45) (c (b 48) (c (b 244) (c (b 158) (c (b 137) (c (b 73) (c (b 100) (c (b 148) (c (b 185) (c (b 82) (c (b 124) (c (b 60) (c (b 248) (c (b 133) (c (b 239) (c (b 3) (c (b 82) (c (b 178) (c (b 14) (c (b 60) (c (b 81) (c (b 230) (c (b 201) (c (b 220) z))))))))))))))))))))))))))))))))) (.str [1, 0, 3, 1, 0, 0, 2, 0, 0, 3, 1, 2, 1, 1, 2, 0]) 2 (.cons (.agg (c (b 130) (c (b 40) (c (b 195) (c (b 86) (c (b 43) (c (b 53) (c (b 107) (c (b 183) (c (b 214) (c (b 255) (c (b 87) (c (b 233) (c (b 106) (c (b 194) (c (b 155) (c (b 210) (c (b 141) (c (b 129) (c (b 67) (c (b 239) (c (b 28) (c (b 18) (c (b 249) (c (b 253) (c (b 135) (c (b 6) (c (b 125) (c (b 178) (c (b 181) (c (b 96) (c (b 164) (c (b 255) z))))))))))))))))))))))))))))))))) (.str [2, 1, 0, 143, 10, 62, 188, 241, 239, 252, 205, 79, 28, 25, 117, 14, 167, 162, 162, 6, 254, 67, 13, 213, 15, 234, 213, 124, 82, 164, 233, 114, 251, 241, 172]) 3 (.cons (.agg (c (b 137) (c (b 71) (c (b 59) (c (b 75) (c (b 41) (c (b 20) (c (b 171) (c (b 140) (c (b 124) (c (b 49) (c (b 165) (c (b 244) (c (b 47) (c (b 172) (c (b 198) (c (b 246) (c (b 223) (c (b 183) (c (b 107) (c (b 146) (c (b 216) (c (b 206) (c (b 139) (c (b 42) (c (b 25) (c (b 93) (c (b 151) (c (b 236) (c (b 173) (c (b 83) (c (b 176) (c (b 209) z))))))))))))))))))))))))))))))))) (.str [2, 1, 0, 224, 161, 90, 238, 161, 217, 234, 244, 23, 218, 96, 82, 211, 206, 212, 252, 223, 118, 42, 150, 19, 222, 22, 221, 183, 127, 232, 0, 218, 88, 146, 145]) 4 (.cons (.agg (c (b 143) (c (b 10) (c (b 62) (c (b 188) (c (b 241) (c (b 239) (c (b 252) (c (b 205) (c (b 79) (c (b 28) (c (b 25) (c (b 117) (c (b 14) (c (b 167) (c (b 162) (c (b 162) (c (b 6) (c (b 254) (c (b 67) (c (b 13) (c (b 213) (c (b 15) (c (b 234) (c (b 213) (c (b 124) (c (b 82) (c (b 164) (c (b 233) (c (b 114) (c (b 251) (c (b 241) (c (b 172) z))))))))))))))))))))))))))))))))) (.str [1, 0, 4, 1, 0, 0, 2, 0, 0, 3, 1, 2, 1, 1, 2, 0, 4, 1, 2, 1, 1, 2, 0]) 5 (.cons (.agg (c (b 155) (c (b 145) (c (b 221) (c (b 81) (c (b 81) (c (b 0) (c (b 230) (c (b 114) (c (b 76) (c (b 240) (c (b 157) (c (b 116) (c (b 63) (c (b 147) (c (b 90) (c (b 128) (c (b 10) (c (b 118) (c (b 109) (c (b 226) (c (b 180) (c (b 40) (c (b 128) (c (b 128) (c (b 15) (c (b 85) (c (b 131) (c (b 143) (c (b 164) (c (b 114) (c (b 213) (c (b 56) z))))))))))))))))))))))))))))))))) (.str [3, 1, 192, 229, 242, 74, 18, 102, 223, 178, 111, 126, 251, 245, 116, 55, 63, 201, 71, 163, 92, 212, 81, 157, 200, 85, 173, 110, 122, 64, 201, 113, 62, 98, 1, 4, 8, 0, 0, 0, 0, 0, 95, 46, 232, 20, 156, 225, 235, 46, 98, 239, 81, 27, 5, 248, 37, 60, 1, 135, 123, 10, 65, 136, 199, 140, 108, 46, 35, 71, 35, 32, 28, 68, 1, 99]) 6 (.cons (.agg (c (b 192) (c (b 229) (c (b 242) (c (b 74) (c (b 18) (c (b 102) (c (b 223) (c (b 178) (c (b 111) (c (b 126) (c (b 251) (c (b 245) (c (b 116) (c (b 55) (c (b 63) (c (b 201) (c (b 71) (c (b 163) (c (b 92) (c (b 212) (c (b 81) (c (b 157) (c (b 200) (c (b 85) (c (b 173) (c (b 110) (c (b 122) (c (b 64) (c (b 201) (c (b 113) (c (b 62) (c (b 98) z))))))))))))))))))))))))))))))))) (.str [3, 1, 61, 116, 123, 67, 116, 237, 197, 54, 122, 247, 108, 194, 220, 245, 151, 89, 239, 12, 185, 218, 25, 131, 77, 210, 176, 203, 235, 186, 67, 84, 152, 13, 2, 2, 6, 2, 0, 0, 2, 2, 1, 4, 2, 0, 2, 8, 2, 0, 0, 2, 2, 1, 4, 2, 0, 130, 40, 195, 86, 43, 53, 107, 183, 214, 255, 87, 233, 106, 194, 155, 210, 141, 129, 67, 239, 28, 18, 249, 253, 135, 6, 125, 178, 181, 96, 164, 255, 1, 98]) 7 .nil)))))))) 8)
def o14 : SO := (.mp (.cons (.agg (c (b 61) (c (b 116) (c (b 123) (c (b 67) (c (b 116) (c (b 237) (c (b 197) (c (b 54) (c (b 122) (c (b 247) (c (b 108) (c (b 194) (c (b 220) (c (b 245) (c (b 151) (c (b 89) (c (b 239) (c (b 12) (c (b 185) (c (b 218) (c (b 25) (c (b 131) (c (b 77) (c (b 210) (c (b 176) (c (b 203) (c (b 235) (c (b 186) (c (b 67) (c (b 84) (c (b 152) (c (b 13) z))))))))))))))))))))))))))))))))) (.str [3, 0, 2, 2, 2, 0, 0, 0, 0, 0, 2, 4, 0, 0, 0, 0, 0, 137, 71, 59, 75, 41, 20, 171, 140, 124, 49, 165, 244, 47, 172, 198, 246, 223, 183, 107, 146, 216, 206, 139, 42, 25, 93, 151, 236, 173, 83, 176, 209, 1, 97]) 0 (.cons (.agg (c (b 95) (c (b 46) (c (b 232) (c (b 20) (c (b 156) (c (b 225) (c (b 235) (c (b 46) (c (b 98) (c (b 239) (c (b 81) (c (b 27) (c (b 5) (c (b 248) (c (b 37) (c (b 60) (c (b 1) (c (b 135) (c (b 123) (c (b 10) (c (b 65) (c (b 136) (c (b 199) (c (b 140) (c (b 108) (c (b 46) (c (b 35) (c (b 71) (c (b 35) (c (b 32) (c (b 28) (c (b 68) z))))))))))))))))))))))))))))))))) (.str [2, 1, 0, 123, 168, 28, 120, 32, 56, 58, 121, 45, 48, 244, 158, 137, 73, 100, 148, 185, 82, 124, 60, 248, 133, 239, 3, 82, 178, 14, 60, 81, 230, 201, 220]) 1 (.cons (.agg (c (b 123) (c (b 168) (c (b 28) (c (b 120) (c (b 32) (c (b 56) (c (b 58) (c (b 121) (c (b 45) (c (b 48) (c (b 244) (c (b 158) (c (b 137) (c (b 73) (c (b 100) (c (b 148) (c (b 185) (c (b 82) (c (b 124) (c (b 60) (c (b 248) (c (b 133) (c (b 239) (c (b 3) (c (b 82) (c (b 178) (c (b 14) (c (b 60) (c (b 81) (c (b 230) (c (b 201) (c (b 220) z))))))))))))))))))))))))))))))))) (.str [1, 0, 3, 1, 0, 0, 2, 0, 0, 3, 1, 2, 1, 1, 2, 0]) 2 (.cons (.agg (c (b 130) (c (b 40) (c (b 195) (c (b 86) (c (b 43) (c (b 53) (c (b 107) (c (b 183) (c (b 214) (c (b 255) (c (b 87) (c (b 233) (c (b 106) (c (b 194) (c (b 155) (c (b 210) (c (b 141) (c (b 129) (c (b 67) (c (b 239) (c (b 28) (c (b 18) (c (b 249) (c (b 253) (c (b 135) (c (b 6) (c (b 125) (c (b 178) (c (b 181) (c (b 96) (c (b 164) (c (b 255) z))))))))))))))))))))))))))))))))) (.str [2, 1, 0, 143, 10, 62, 188, 241, 239, 252, 205, 79, 28, 25, 117, 14, 167, 162, 162, 6, 254, 67, 13, 213, 15, 234, 213, 124, 82, 164, 233, 114, 251, 241, 172]) 3 (.cons (.agg (c (b 137) (c (b 71) (c (b 59) (c (b 75) (c (b 41) (c (b 20) (c (b 171) (c (b 140) (c (b 124) (c (b 49) (c (b 165) (c (b 244) (c (b 47) (c (b 172) (c (b 198) (c (b 246) (c (b 223) (c (b 183) (c (b 107) (c (b 146) (c (b 216) (c (b 206) (c (b 139) (c (b 42) (c (b 25) (c (b 93) (c (b 151) (c (b 236) (c (b 173) (c (b 83) (c (b 176) (c (b 209) z))))))))))))))))))))))))))))))))) (.str [2, 1, 0, 224, 161, 90, 238, 161, 217, 234, 244, 23, 218, 96, 82, 211, 206, 212, 252, 223, 118, 42, 150, 19, 222, 22, 221, 183, 127, 232, 0, 218, 88, 146, 145]) 4 (.cons (.agg (c (b 143) (c (b 10) (c (b 62) (c (b 188) (c (b 241) (c (b 239) (c (b 252) (c (b 205) (c (b 79) (c (b 28) (c (b 25) (c (b 117) (c (b 14) (c (b 167) (c (b 162) (c (b 162) (c (b 6) (c (b 254) (c (b 67) (c (b 13) (c (b 213) (c (b 15) (c (b 234) (c (b 213) (c (b 124) (c (b 82) (c (b 164) (c (b 233) (c (b 114) (c (b 251) (c (b 241) (c (b 172) z))))))))))))))))))))))))))))))))) (.str [1, 0, 4, 1, 0, 0, 2, 0, 0, 3, 1, 2, 1, 1, 2, 0, 4, 1, 2, 1, 1, 2, 0]) 5 (.cons (.agg (c (b 155) (c (b 145) (c (b 221) (c (b 81) (c (b 81) (c (b 0) (c (b 230) (c (b 114) (c (b 76) (c (b 240) (c (b 157) (c (b 116) (c (b 63) (c (b 147) (c (b 90) (c (b 128) (c (b 10) (c (b 118) (c (b 109) (c (b 226) (c (b 180) (c (b 40) (c (b 128) (c (b 128) (c (b 15) (c (b 85) (c (b 131) (c (b 143) (c (b 164) (c (b 114) (c (b 213) (c (b 56) z))))))))))))))))))))))))))))))))) (.str [3, 1, 192, 229, 242, 74, 18, 102, 223, 178, 111, 126, 251, 245, 116, 55, 63, 201, 71, 163, 92, 212, 81, 157, 200, 85, 173, 110, 122, 64, 201, 113, 62, 98, 1, 4, 8, 0, 0, 0, 0, 0, 95, 46, 232, 20, 156, 225, 235, 46, 98, 239, 81, 27, 5, 248, 37, 60, 1, 135, 123, 10, 65, 136, 199, 140, 108, 46, 35, 71, 35, 32, 28, 68, 1, 99]) 6 (.cons (.agg (c (b 192) (c (b 229) (c (b 242) (c (b 74) (c (b 18) (c (b 102) (c (b 223) (c (b 178) (c (b 111) (c (b 126) (c (b 251) (c (b 245) (c (b 116) (c (b 55) (c (b 63) (c (b 201) (c (b 71) (c (b 163) (c (b 92) (c (b 212) (c (b 81) (c (b 157) (c (b 200) (c (b 85) (c (b 173) (c (b 110) (c (b 122) (c (b 64) (c (b 201) (c (b 113) (c (b 62) (c (b 98) z))))))))))))))))))))))))))))))))) (.str [3, 1, 61, 116, 123, 67, 116, 237, 197, 54, 122, 247, 108, 194, 220, 245, 151, 89, 239, 12, 185, 218, 25, 131, 77, 210, 176, 203, 235, 186, 67, 84, 152, 13, 2, 2, 6, 2, 0, 0, 2, 2, 1, 4, 2, 0, 2, 8, 2, 0, 0, 2, 2, 1, 4, 2, 0, 130, 40, 195, 86, 43, 53, 107, 183, 214, 255, 87, 233, 106, 194, 155, 210, 141, 129, 67, 239, 28, 18, 249, 253, 135, 6, 125, 178, 181, 96, 164, 255, 1, 98]) 7 (.cons (.agg (c (b 224) (c (b 161) (c (b 90) (c (b 238) (c (b 161) (c (b 217) (c (b 234) (c (b 244) (c (b 23) (c (b 218) (c (b 96) (c (b 82) (c (b 211) (c (b 206) (c (b 212) (c (b 252) (c (b 223) (c (b 118) (c (b 42) (c (b 150) (c (b 19) (c (b 222) (c (b 22) (c (b 221) (c (b 183) (c (b 127) (c (b 232) (c (b 0) (c (b 218) (c (b 88) (c (b 146) (c (b 145) z))))))))))))))))))))))))))))))))) (.str [1, 0, 2, 1, 0, 0, 2, 0, 0]) 8 .nil))))))))) 9)
def o15 : SO := (.grow (c (i 1) (c (i 0) (c .nils (c (i 2) (c (i 0) (c .nils (c (i 3) (c (i 1) (c (.slice p3152 0 2 (.r 0)) z))))))))) 3)
def o16 : SO := (.grow (c (i 1) (c (.slice p4272 0 1 (.k 1)) (c (i 2) (c (.slice p4286 0 1 (.k 1)) z)))) 2)
def o17 : SO := (.grow (c (i 1) (c (.int .i64 (.negSucc 0)) (c (i 2) (c (i 1) z)))) 2)
def o18 : SO := (.cells (c (i 1) (c (.bool false) (c (.str [1]) z))))
def o19 : SO := (.cells (c (i 2) (c (.bool false) (c (.str [1]) z))))
def o20 : SO := (.grow (c (i 1) (c (i 0) (c .nils (c (i 2) (c (i 0) (c .nils z)))))) 3)
def o21 : SO := (.cells (c (i 1) (c (i 1) (c (i 0) (c (i 1) z)))))
def o22 : SO := (.grow (c (i 1) (c (.slice p5609 0 1 (.k 1)) (c (i 2) (c (.slice p5623 0 1 (.k 1)) (c (i 3) (c (.slice p5637 0 1 (.k 1)) z)))))) 2)
def o23 : SO := (.cells (c (i 3) (c (.bool false) (c (.str [1]) z))))
def o24 : SO := (.grow (c (i 1) (c (i 0) (c .nils (c (i 2) (c (i 0) (c .nils (c (i 3) (c (i 1) (c (.slice p4447 0 2 (.r 0)) (c (i 4) (c (i 1) (c (.slice p4454 0 2 (.r 0)) z)))))))))))) 3)
def o25 : SO := (.grow (c (i 1) (c (.slice p7727 0 1 (.k 1)) (c (i 2) (c (.slice p7741 0 1 (.k 1)) (c (i 3) (c (.slice p7755 0 1 (.k 1)) z)))))) 2)
def o26 : SO := (.grow (c (i 1) (c (i 0) (c .nils (c (i 2) (c (i 0) (c .nils (c (i 3) (c (i 1) (c (.slice p6607 0 2 (.r 0)) z))))))))) 3)
def o27 : SO := (.cells (c (b 61) (c (b 116) (c (b 123) (c (b 67) (c (b 116) (c (b 237) (c (b 197) (c (b 54) (c (b 122) (c (b 247) (c (b 108) (c (b 194) (c (b 220) (c (b 245) (c (b 151) (c (b 89) (c (b 239) (c (b 12) (c (b 185) (c (b 218) (c (b 25) (c (b 131) (c (b 77) (c (b 210) (c (b 176) (c (b 203) (c (b 235) (c (b 186) (c (b 67) (c (b 84) (c (b 152) (c (b 13) (c (b 192) (c (b 229) (c (b 242) (c (b 74) (c (b 18) (c (b 102) (c (b 223) (c (b 178) (c (b 111) (c (b 126) (c (b 251) (c (b 245) (c (b 116) (c (b 55) (c (b 63) (c (b 201) (c (b 71) (c (b 163) (c (b 92) (c (b 212) (c (b 81) (c (b 157) (c (b 200) (c (b 85) (c (b 173) (c (b 110) (c (b 122) (c (b 64) (c (b 201) (c (b 113) (c (b 62) (c (b 98) (c (b 155) (c (b 145) (c (b 221) (c (b 81) (c (b 81) (c (b 0) (c (b 230) (c (b 114) (c (b 76) (c (b 240) (c (b 157) (c (b 116) (c (b 63) (c (b 147) (c (b 90) (c (b 128) (c (b 10) (c (b 118) (c (b 109) (c (b 226) (c (b 180) (c (b 40) (c (b 128) (c (b 128) (c (b 15) (c (b 85) (c (b 131) (c (b 143) (c (b 164) (c (b 114) (c (b 213) (c (b 56) z)))))))))))))))))))))))))))))))))))))))))))))))))))))))))))))))))))))))))))))))))))))))))))))))))
def o28 : SO := (.grow (c (.slice p171838 0 2 (.r 0)) z) 1)
def o29 : SO := (.grow (c (i 0) (c (i 0) (c (.slice p172287 0 1 (.r 0)) (c (i 0) (c (i 2) (c (.slice p172300 0 3 (.r 0)) z)))))) 3)
def o30 : SO := (.grow (c (.slice p171830 0 2 (.r 0)) (c (.slice p172048 0 1 (.r 0)) (c (.slice p172249 0 1 (.r 0)) z))) 1)
def o31 : SO := (.grow (c (i 0) (c (i 0) (c (i 1) (c (i 0) (c (i 2) (c (i 1) z)))))) 3)
def o32 : SO := (.grow (c (i 1) (c (.slice p174243 0 1 (.k 1)) (c (i 2) (c (.slice p174257 0 1 (.k 1)) z)))) 2)
def o33 : SO := (.grow (c (i 1) (c (i 0) (c .nils (c (i 2) (c (i 0) (c .nils (c (i 3) (c (i 1) (c (.slice p173123 0 2 (.r 0)) z))))))))) 3)
def o34 : SO := (.grow (c (i 1) (c (i 0) (c .nils (c (i 2) (c (i 0) (c .nils (c (i 3) (c (i 1) (c (.slice p174418 0 2 (.r 0)) (c (i 4) (c (i 1) (c (.slice p174425 0 2 (.r 0)) z)))))))))))) 3)
def o35 : SO := (.grow (c (i 1) (c (.slice p175580 0 1 (.k 1)) (c (i 2) (c (.slice p175594 0 1 (.k 1)) (c (i 3) (c (.slice p175608 0 1 (.k 1)) z)))))) 2)
def o36 : SO := (.grow (c (i 1) (c (i 0) (c .nils (c (i 2) (c (i 0) (c .nils (c (i 3) (c (i 1) (c (.slice p176578 0 2 (.r 0)) z))))))))) 3)
def o37 : SO := (.grow (c (i 1) (c (.slice p177698 0 1 (.k 1)) (c (i 2) (c (.slice p177712 0 1 (.k 1)) (c (i 3) (c (.slice p177726 0 1 (.k 1)) z)))))) 2)
def o38 : SO := (.grow (c (.slice p337501 0 1 (.r 0)) z) 1)
def o39 : SO := (.grow (c (i 1) (c (i 1) (c (i 1) z))) 3)
def o40 : SO := (.grow (c (i 1) (c (i 1) (c (.slice p337627 0 1 (.r 0)) z))) 3)
def o41 : SO := (.grow (c (i 1) (c (i 0) (c .nils (c (i 2) (c (i 0) (c .nils (c (i 3) (c (i 1) (c (.slice p338708 0 2 (.r 0)) z))))))))) 3)
def o42 : SO := (.grow (c (i 1) (c (i 0) (c .nils (c (i 2) (c (i 0) (c .nils (c (i 3) (c (i 1) (c (.slice p337837 0 2 (.r 0)) (c (i 4) (c (i 1) (c (.slice p337844 0 2 (.r 0)) z)))))))))))) 3)
def o43 : SO := (.grow (c (i 1) (c (.slice p339828 0 1 (.k 1)) (c (i 2) (c (.slice p339842 0 1 (.k 1)) (c (i 3) (c (.slice p339856 0 1 (.k 1)) z)))))) 2)
def o44 : SO := (.grow (c (i 1) (c (i 0) (c .nils (c (i 2) (c (i 0) (c .nils (c (i 3) (c (i 1) (c (.slice p340411 0 2 (.r 0)) (c (i 4) (c (i 1) (c (.slice p340418 0 2 (.r 0)) z)))))))))))) 3)
def o45 : SO := (.grow (c (i 1) (c (.slice p341976 0 1 (.k 1)) (c (i 2) (c (.slice p341990 0 1 (.k 1)) (c (i 3) (c (.slice p342004 0 1 (.k 1)) z)))))) 2)
def o46 : SO := (.cells (c (b 192) (c (b 229) (c (b 242) (c (b 74) (c (b 18) (c (b 102) (c (b 223) (c (b 178) (c (b 111) (c (b 126) (c (b 251) (c (b 245) (c (b 116) (c (b 55) (c (b 63) (c (b 201) (c (b 71) (c (b 163) (c (b 92) (c (b 212) (c (b 81) (c (b 157) (c (b 200) (c (b 85) (c (b 173) (c (b 110) (c (b 122) (c (b 64) (c (b 201) (c (b 113) (c (b 62) (c (b 98) (c (b 155) (c (b 145) (c (b 221) (c (b 81) (c (b 81) (c (b 0) (c (b 230) (c (b 114) (c (b 76) (c (b 240) (c (b 157) (c (b 116) (c (b 63) (c (b 147) (c (b 90) (c (b 128) (c (b 10) (c (b 118) (c (b 109) (c (b 226) (c (b 180) (c (b 40) (c (b 128) (c (b 128) (c (b 15) (c (b 85) (c (b 131) (c (b 143) (c (b 164) (c (b 114) (c (b 213) (c (b 56) (c (b 192) (c (b 229) (c (b 242) (c (b 74) (c (b 18) (c (b 102) (c (b 223) (c (b 178) (c (b 111) (c (b 126) (c (b 251) (c (b 245) (c (b 116) (c (b 55) (c (b 63) (c (b 201) (c (b 71) (c (b 163) (c (b 92) (c (b 212) (c (b 81) (c (b 157) (c (b 200) (c (b 85) (c (b 173) (c (b 110) (c (b 122) (c (b 64) (c (b 201) (c (b 113) (c (b 62) (c (b 98) z)))))))))))))))))))))))))))))))))))))))))))))))))))))))))))))))))))))))))))))))))))))))))))))))))
def o47 : SO := (.grow (c (.slice p465045 0 1 (.r 0)) z) 1)
def o48 : SO := (.grow (c (i 0) (c (i 0) (c (.slice p465223 0 1 (.r 0)) (c (i 2) (c (i 2) (c (.slice p465232 0 1 (.r 0)) z)))))) 3)
def o49 : SO := (.grow (c (.slice p465203 0 1 (.r 0)) z) 1)
def o50 : SO := (.grow (c (i 0) (c (i 0) (c (i 1) (c (i 2) (c (i 2) (c (i 1) z)))))) 3)
def o51 : SO := (.cells (c (b 61) (c (b 116) (c (b 123) (c (b 67) (c (b 116) (c (b 237) (c (b 197) (c (b 54) (c (b 122) (c (b 247) (c (b 108) (c (b 194) (c (b 220) (c (b 245) (c (b 151) (c (b 89) (c (b 239) (c (b 12) (c (b 185) (c (b 218) (c (b 25) (c (b 131) (c (b 77) (c (b 210) (c (b 176) (c (b 203) (c (b 235) (c (b 186) (c (b 67) (c (b 84) (c (b 152) (c (b 13) (c (b 155) (c (b 145) (c (b 221) (c (b 81) (c (b 81) (c (b 0) (c (b 230) (c (b 114) (c (b 76) (c (b 240) (c (b 157) (c (b 116) (c (b 63) (c (b 147) (c (b 90) (c (b 128) (c (b 10) (c (b 118) (c (b 109) (c (b 226) (c (b 180) (c (b 40) (c (b 128) (c (b 128) (c (b 15) (c (b 85) (c (b 131) (c (b 143) (c (b 164) (c (b 114) (c (b 213) (c (b 56) z)))))))))))))))))))))))))))))))))))))))))))))))))))))))))))))))))
def o52 : SO := (.grow (c (.slice p5028 0 2 (.r 0)) z) 1)
def o53 : SO := (.grow (c (i 0) (c (i 0) (c (i 2) z))) 3)
def o54 : SO := (.grow (c (.slice p5020 0 2 (.r 0)) z) 1)
def o55 : SO := (.grow (c (i 0) (c (i 0) (c (.slice p5048 0 1 (.r 0)) (c (i 0) (c (i 0) (c (.slice p5057 0 1 (.r 0)) z)))))) 3)
def o56 : SO := (.cells (c (b 95) (c (b 46) (c (b 232) (c (b 20) (c (b 156) (c (b 225) (c (b 235) (c (b 46) (c (b 98) (c (b 239) (c (b 81) (c (b 27) (c (b 5) (c (b 248) (c (b 37) (c (b 60) (c (b 1) (c (b 135) (c (b 123) (c (b 10) (c (b 65) (c (b 136) (c (b 199) (c (b 140) (c (b 108) (c (b 46) (c (b 35) (c (b 71) (c (b 35) (c (b 32) (c (b 28) (c (b 68) z)))))))))))))))))))))))))))))))))
def o57 : SO := (.cells (c (b 123) (c (b 168) (c (b 28) (c (b 120) (c (b 32) (c (b 56) (c (b 58) (c (b 121) (c (b 45) (c (b 48) (c (b 244) (c (b 158) (c (b 137) (c (b 73) (c (b 100) (c (b 148) (c (b 185) (c (b 82) (c (b 124) (c (b 60) (c (b 248) (c (b 133) (c (b 239) (c (b 3) (c (b 82) (c (b 178) (c (b 14) (c (b 60) (c (b 81) (c (b 230) (c (b 201) (c (b 220) z)))))))))))))))))))))))))))))))))
def o58 : SO := (.cells (c (b 130) (c (b 40) (c (b 195) (c (b 86) (c (b 43) (c (b 53) (c (b 107) (c (b 183) (c (b 214) (c (b 255) (c (b 87) (c (b 233) (c (b 106) (c (b 194) (c (b 155) (c (b 210) (c (b 141) (c (b 129) (c (b 67) (c (b 239) (c (b 28) (c (b 18) (c (b 249) (c (b 253) (c (b 135) (c (b 6) (c (b 125) (c (b 178) (c (b 181) (c (b 96) (c (b 164) (c (b 255) z)))))))))))))))))))))))))))))))))
def o59 : SO := (.cells (c (b 137) (c (b 71) (c (b 59) (c (b 75) (c (b 41) (c (b 20) (c (b 171) (c (b 140) (c (b 124) (c (b 49) (c (b 165) (c (b 244) (c (b 47) (c (b 172) (c (b 198) (c (b 246) (c (b 223) (c (b 183) (c (b 107) (c (b 146) (c (b 216) (c (b 206) (c (b 139) (c (b 42) (c (b 25) (c (b 93) (c (b 151) (c (b 236) (c (b 173) (c (b 83) (c (b 176) (c (b 209) z)))))))))))))))))))))))))))))))))
def o60 : SO := (.cells (c (b 143) (c (b 10) (c (b 62) (c (b 188) (c (b 241) (c (b 239) (c (b 252) (c (b 205) (c (b 79) (c (b 28) (c (b 25) (c (b 117) (c (b 14) (c (b 167) (c (b 162) (c (b 162) (c (b 6) (c (b 254) (c (b 67) (c (b 13) (c (b 213) (c (b 15) (c (b 234) (c (b 213) (c (b 124) (c (b 82) (c (b 164) (c (b 233) (c (b 114) (c (b 251) (c (b 241) (c (b 172) z)))))))))))))))))))))))))))))))))
def o61 : SO := (.cells (c (b 155) (c (b 145) (c (b 221) (c (b 81) (c (b 81) (c (b 0) (c (b 230) (c (b 114) (c (b 76) (c (b 240) (c (b 157) (c (b 116) (c (b 63) (c (b 147) (c (b 90) (c (b 128) (c (b 10) (c (b 118) (c (b 109) (c (b 226) (c (b 180) (c (b 40) (c (b 128) (c (b 128) (c (b 15) (c (b 85) (c (b 131) (c (b 143) (c (b 164) (c (b 114) (c (b 213) (c (b 56) z)))))))))))))))))))))))))))))))))
def o62 : SO := (.grow (c (i 0) (c (i 0) (c (.slice p5504 0 1 (.r 0)) z))) 3)
def o63 : SO := (.grow (c (i 0) (c (i 0) (c (i 1) z))) 3)
def o64 : SO := (.grow (c (.slice p5491 0 1 (.r 0)) z) 1)
def o65 : SO := (.grow (c (i 0) (c (i 0) (c (.slice p5924 0 1 (.r 0)) z))) 3)
def o66 : SO := (.grow (c (.slice p5911 0 1 (.r 0)) z) 1)
def o67 : SO := (.cells (c (b 224) (c (b 161) (c (b 90) (c (b 238) (c (b 161) (c (b 217) (c (b 234) (c (b 244) (c (b 23) (c (b 218) (c (b 96) (c (b 82) (c (b 211) (c (b 206) (c (b 212) (c (b 252) (c (b 223) (c (b 118) (c (b 42) (c (b 150) (c (b 19) (c (b 222) (c (b 22) (c (b 221) (c (b 183) (c (b 127) (c (b 232) (c (b 0) (c (b 218) (c (b 88) (c (b 146) (c (b 145) z)))))))))))))))))))))))))))))))))
/-- cocycle/cocycleref17.New: 65671 operations. -/
def k0 : Kn := ⟨13, (c (.ptr p1 0) (c .nils (c (.slice p2 0 2 (.k 2)) (c (.str [97]) z)))), (N (S o (.cells (c .nils z)) o) (S o o0 o)), p3, (.tup (c (.agg (c (b 61) (c (b 116) (c (b 123) (c (b 67) (c (b 116) (c (b 237) (c (b 197) (c (b 54) (c (b 122) (c (b 247) (c (b 108) (c (b 194) (c (b 220) (c (b 245) (c (b 151) (c (b 89) (c (b 239) (c (b 12) (c (b 185) (c (b 218) (c (b 25) (c (b 131) (c (b 77) (c (b 210) (c (b 176) (c (b 203) (c (b 235) (c (b 186) (c (b 67) (c (b 84) (c (b 152) (c (b 13) z))))))))))))))))))))))))))))))))) (c (i 0) z))), (N (S o (.cells (c (.slice p297 0 3 (.r 0)) z)) (N (N o (N (N o (N (N (S o o1 o) o) o)) o)) o)) (S o o0 o)), p298⟩
/-- cocycle/cocycleref17.New: 98090 operations. -/
def k1 : Kn := ⟨13, (c (.ptr p1 0) (c (.slice p299 0 1 (.k 1)) (c (.slice p305 0 2 (.k 2)) (c (.str [98]) z)))), (N (S (N o (N o (N (N o (N (N (S o o2 o) o) o)) o))) (.cells (c (.slice p297 0 3 (.r 0)) z)) (N (N (N o (N o (N (N (S o o3 o) o) o))) (N (N o (N (N (S o o1 o) o) o)) o)) o)) (N (N (N (N o (N o (N (N (S o o4 o) o) o))) o) o) (N o (N o (N (N o (N (N (S o o4 o) o) o)) o))))), p306, (.tup (c (.agg (c (b 192) (c (b 229) (c (b 242) (c (b 74) (c (b 18) (c (b 102) (c (b 223) (c (b 178) (c (b 111) (c (b 126) (c (b 251) (c (b 245) (c (b 116) (c (b 55) (c (b 63) (c (b 201) (c (b 71) (c (b 163) (c (b 92) (c (b 212) (c (b 81) (c (b 157) (c (b 200) (c (b 85) (c (b 173) (c (b 110) (c (b 122) (c (b 64) (c (b 201) (c (b 113) (c (b 62) (c (b 98) z))))))))))))))))))))))))))))))))) (c (i 0) z))), (N (S (N o (N o (N (N o (N (N (S o o2 o) o) (N (N (N (S o o6 o) o) o) o))) o))) o5 (N (N (N o (N o (N (N (S o o3 o) o) o))) o) o)) (N (N (N (N o (N o (N (N (S o o4 o) o) o))) o) o) (N o (N o (N (N o (N (N (S o o4 o) o) o)) o))))), p1132⟩
/-- cocycle/cocycleref17.New: 102719 operations. -/
def k2 : Kn := ⟨13, (c (.ptr p1 0) (c (.slice p1132 0 1 (.k 1)) (c (.slice p1133 0 1 (.k 1)) (c (.str [99]) z)))), (N (S (N o (N o (N (N o (N o (N (N (N (S o o6 o) o) o) o))) o))) o5 (N o (N o (N (N o (N o (N (N (N (S o o7 o) o) o) o))) o)))) (N (N o (N o (N (N o (N o (N (N (N (S o o8 o) o) o) o))) o))) o)), p1134, (.tup (c (.agg (c (b 155) (c (b 145) (c (b 221) (c (b 81) (c (b 81) (c (b 0) (c (b 230) (c (b 114) (c (b 76) (c (b 240) (c (b 157) (c (b 116) (c (b 63) (c (b 147) (c (b 90) (c (b 128) (c (b 10) (c (b 118) (c (b 109) (c (b 226) (c (b 180) (c (b 40) (c (b 128) (c (b 128) (c (b 15) (c (b 85) (c (b 131) (c (b 143) (c (b 164) (c (b 114) (c (b 213) (c (b 56) z))))))))))))))))))))))))))))))))) (c (i 0) z))), (N (S o o9 (N (N (N o (N (N o (N o (N o (N o (S o o10 o))))) o)) o) (N o (N (N o (N o (N (N (N (S o o7 o) o) o) o))) o)))) (N (N o (N o (N (N o (N o (N (N (N (S o o8 o) o) o) o))) o))) o)), p2002⟩
/-- cocycle/cocyclelaw23.example: 266548 operations. -/
def k3 : Kn := ⟨5, z, o, p0, (.tup (c (.ptr p1 0) (c (.agg (c (b 61) (c (b 116) (c (b 123) (c (b 67) (c (b 116) (c (b 237) (c (b 197) (c (b 54) (c (b 122) (c (b 247) (c (b 108) (c (b 194) (c (b 220) (c (b 245) (c (b 151) (c (b 89) (c (b 239) (c (b 12) (c (b 185) (c (b 218) (c (b 25) (c (b 131) (c (b 77) (c (b 210) (c (b 176) (c (b 203) (c (b 235) (c (b 186) (c (b 67) (c (b 84) (c (b 152) (c (b 13) (c (b 192) (c (b 229) (c (b 242) (c (b 74) (c (b 18) (c (b 102) (c (b 223) (c (b 178) (c (b 111) (c (b 126) (c (b 251) (c (b 245) (c (b 116) (c (b 55) (c (b 63) (c (b 201) (c (b 71) (c (b 163) (c (b 92) (c (b 212) (c (b 81) (c (b 157) (c (b 200) (c (b 85) (c (b 173) (c (b 110) (c (b 122) (c (b 64) (c (b 201) (c (b 113) (c (b 62) (c (b 98) (c (b 155) (c (b 145) (c (b 221) (c (b 81) (c (b 81) (c (b 0) (c (b 230) (c (b 114) (c (b 76) (c (b 240) (c (b 157) (c (b 116) (c (b 63) (c (b 147) (c (b 90) (c (b 128) (c (b 10) (c (b 118) (c (b 109) (c (b 226) (c (b 180) (c (b 40) (c (b 128) (c (b 128) (c (b 15) (c (b 85) (c (b 131) (c (b 143) (c (b 164) (c (b 114) (c (b 213) (c (b 56) z))))))))))))))))))))))))))))))))))))))))))))))))))))))))))))))))))))))))))))))))))))))))))))))))) z))), (N (S o o9 (N (N (N o (N (N o (N o (N o (N o (S o o10 o))))) o)) o) o)) o), p2003⟩
/-- (*cocycle/store.Store).Put: 35108 operations. -/
def k4 : Kn := ⟨16, (c (.ptr p2004 0) (c (.str [3, 1, 192, 229, 242, 74, 18, 102, 223, 178, 111, 126, 251, 245, 116, 55, 63, 201, 71, 163, 92, 212, 81, 157, 200, 85, 173, 110, 122, 64, 201, 113, 62, 98, 1, 4, 8, 0, 0, 0, 0, 0, 95, 46, 232, 20, 156, 225, 235, 46, 98, 239, 81, 27, 5, 248, 37, 60, 1, 135, 123, 10, 65, 136, 199, 140, 108, 46, 35, 71, 35, 32, 28, 68, 1, 99]) z)), (N (N o (N (N (N (N o (N (N (N (N (N (S o o11 o) o) o) o) o) o)) o) o) o)) (N (N o (N (N o (N (N o (N o (N o (N o (S o (.cells (c (.map p2081) z)) o))))) o)) o)) o)), p2237, (.agg (c (b 155) (c (b 145) (c (b 221) (c (b 81) (c (b 81) (c (b 0) (c (b 230) (c (b 114) (c (b 76) (c (b 240) (c (b 157) (c (b 116) (c (b 63) (c (b 147) (c (b 90) (c (b 128) (c (b 10) (c (b 118) (c (b 109) (c (b 226) (c (b 180) (c (b 40) (c (b 128) (c (b 128) (c (b 15) (c (b 85) (c (b 131) (c (b 143) (c (b 164) (c (b 114) (c (b 213) (c (b 56) z))))))))))))))))))))))))))))))))), (N (N o (N (N (N (N o (N (N (N (N (N (S o o12 o) o) o) o) o) o)) o) o) o)) (N (N o (N (N o (N (N o (N o (N o (N o (S o (.cells (c (.map p2081) z)) o))))) o)) o)) o)), p2273⟩
/-- (*cocycle/store.Store).Put: 35108 operations. -/
def k5 : Kn := ⟨16, (c (.ptr p2004 0) (c (.str [3, 1, 61, 116, 123, 67, 116, 237, 197, 54, 122, 247, 108, 194, 220, 245, 151, 89, 239, 12, 185, 218, 25, 131, 77, 210, 176, 203, 235, 186, 67, 84, 152, 13, 2, 2, 6, 2, 0, 0, 2, 2, 1, 4, 2, 0, 2, 8, 2, 0, 0, 2, 2, 1, 4, 2, 0, 130, 40, 195, 86, 43, 53, 107, 183, 214, 255, 87, 233, 106, 194, 155, 210, 141, 129, 67, 239, 28, 18, 249, 253, 135, 6, 125, 178, 181, 96, 164, 255, 1, 98]) z)), (N (N o (N (N (N (N o (N (N (N (N (N (S o o12 o) o) o) o) o) o)) o) o) o)) (N (N o (N (N o (N (N o (N o (N o (N o (S o (.cells (c (.map p2081) z)) o))))) o)) o)) o)), p2273, (.agg (c (b 192) (c (b 229) (c (b 242) (c (b 74) (c (b 18) (c (b 102) (c (b 223) (c (b 178) (c (b 111) (c (b 126) (c (b 251) (c (b 245) (c (b 116) (c (b 55) (c (b 63) (c (b 201) (c (b 71) (c (b 163) (c (b 92) (c (b 212) (c (b 81) (c (b 157) (c (b 200) (c (b 85) (c (b 173) (c (b 110) (c (b 122) (c (b 64) (c (b 201) (c (b 113) (c (b 62) (c (b 98) z))))))))))))))))))))))))))))))))), (N (N o (N (N (N (N o (N (N (N (N (N (S o o13 o) o) o) o) o) o)) o) o) o)) (N (N o (N (N o (N (N o (N o (N o (N o (S o (.cells (c (.map p2081) z)) o))))) o)) o)) o)), p2309⟩
/-- cocycle/cocyclelaw23.copied: 195830 operations. -/
def k6 : Kn := ⟨6, (c (.ptr p1 0) z), (N (S o o9 (N (N (N o (N (N o (N o (N o (N o (S o o10 o))))) o)) o) o)) o), p2004, (.ptr p2004 0), (N (S o o9 (N (N (N (N o (N (N (N (N (N (S o o14 o) o) o) o) o) o)) (N (N o (N o (N o (N o (S o o10 o))))) o)) o) o)) (N (N o (N (N o (N (N o (N o (N o (N o (S o (.cells (c (.map p2081) z)) o))))) o)) o)) o)), p2340⟩
/-- cocycle/maps.Induced: 55690 operations. -/
def k7 : Kn := ⟨40, (c (.agg (c (.slice p2430 0 2 (.r 0)) z)) (c (.agg (c (.slice p3139 0 3 (.r 0)) z)) (c (.agg (c (.slice p4288 0 2 (.r 0)) z)) (c (i 0) (c (i 2) z))))), (N (N (N o (N (N (N (N o (N (N (N (N o (S o o15 o)) o) o) o)) o) o) o)) o) (N (N (N (N (N (N o (N o (N (N (N (N (S o o16 o) o) o) o) o))) o) (N (N o (N (N (N (N o (S o o17 o)) o) o) o)) (N (N o (N (N (N (N (S o o18 o) o) o) o) o)) o))) o) o) (N o (N o (N o (N o (N (N o (N (N (N (N (S o o19 o) o) o) o) o)) (N (N o (N (N (S o o20 o) o) o)) o)))))))), p8146, (.tup (c (.agg (c (i 2) (c (i 1) (c (i 2) (c (.slice p46084 0 2 (.k 4)) z))))) (c (i 0) z))), (N (N (N o (N (N (N (N o (N (N (N (N o (S o o15 o)) o) o) o)) o) o) o)) o) (N (N (N (N (N (N o (N o (N (N (N (N (S o o16 o) o) o) o) o))) o) (N (N o (N (N (N (N o (S o o17 o)) o) o) o)) (N (N o (N (N (N (N (S o o18 o) o) o) o) o)) o))) o) (N (N (N (N (N (N (N (N o (N (N o (N o (N (S o o21 o) o))) o)) o) o) o) o) o) o) o)) (N o (N o (N o (N o (N (N o (N (N (N (N (S o o19 o) o) o) o) o)) (N (N o (N (N (S o o20 o) o) o)) o)))))))), p46088⟩
/-- cocycle/maps.Induced: 102695 operations. -/
def k8 : Kn := ⟨40, (c (.agg (c (.slice p3139 0 3 (.r 0)) z)) (c (.agg (c (.slice p4430 0 4 (.r 0)) z)) (c (.agg (c (.slice p5639 0 3 (.r 0)) z)) (c (i 0) (c (i 2) z))))), (N (N (N (N (N (N o (N o (N (N o (N (N (N (S o o17 o) o) o) o)) o))) o) (N (N (N (N (N (N o (N o (N (S o o22 o) o))) o) o) o) o) (N o (N o (N o (N o (N (N o (N (S o o19 o) o)) o))))))) (N (N (N (N o (N (N (N (N o (S o o15 o)) o) o) o)) o) o) o)) (N (N o (N (N o (N o (N o (N o (N (N o (N (S o o18 o) o)) o))))) o)) (N (N (N (N (N (N (N o (N o (N (S o o23 o) o))) o) o) o) o) o) o))) (N (N (N (N o (N (N o (N (N (N (N o (S o o17 o)) o) o) o)) o)) o) o) (N o (N (N (N o (N o (N (N o (N (N (N (S o o17 o) o) o) o)) o))) o) (N (N (N o (N (N o (N (N (N (S o o24 o) o) o) o)) o)) o) o))))), p46094, (.tup (c (.agg (c (i 2) (c (i 1) (c (i 1) (c (.slice p104948 0 1 (.k 2)) z))))) (c (i 0) z))), (N (N (N (N (N (N o (N o (N (N o (N (N (N (S o o17 o) o) o) o)) o))) o) (N (N (N (N (N (N o (N o (N (S o o22 o) o))) o) o) o) o) (N o (N o (N o (N o (N (N o (N (S o o19 o) o)) o))))))) (N (N (N (N o (N (N (N (N o (S o o15 o)) o) o) o)) o) o) o)) (N (N o (N (N o (N o (N o (N o (N (N o (N (S o o18 o) o)) o))))) o)) (N (N (N (N (N (N (N o (N o (N (S o o23 o) o))) o) o) o) o) o) o))) (N (N (N (N o (N (N o (N (N (N (N o (S o o17 o)) o) o) o)) o)) o) (N (N o (N o (N o (N o (N o (N (N (N o (N o (N (N (N o (S o (.cells (c (i 1) (c (i 0) z))) o)) o) o))) o) o)))))) o)) (N o (N (N (N o (N o (N (N o (N (N (N (S o o17 o) o) o) o)) o))) o) (N (N (N o (N (N o (N (N (N (S o o24 o) o) o) o)) o)) o) o))))), p104952⟩
/-- cocycle/maps.Induced: 102695 operations. -/
def k9 : Kn := ⟨40, (c (.agg (c (.slice p6594 0 3 (.r 0)) z)) (c (.agg (c (.slice p4430 0 4 (.r 0)) z)) (c (.agg (c (.slice p7757 0 3 (.r 0)) z)) (c (i 0) (c (i 2) z))))), (N (N (N (N (N (N o (N o (N (N o (N (N (N (S o o17 o) o) o) o)) o))) (N (N o (N o (N o (N (N (N o (S o o17 o)) o) o)))) (N (N (N (N o (N o (N o (S o o18 o)))) o) o) o))) o) (N o (N (N (N o (N (N (N o (N o (N o (S o o23 o)))) o) o)) o) o))) (N o (N o (N (N (N o (N (N (N o (N o (N o (S o o25 o)))) o) o)) o) (N o (N (N (N (N o (N o (N o (S o o19 o)))) o) o) o)))))) (N o (N (N (N (N (N o (N o (N o (N (N (N o (S o o26 o)) o) o)))) o) o) o) (N (N (N o (N o (N (N o (N (N (N (S o o17 o) o) o) o)) o))) o) (N (N (N o (N (N o (N (N (N (S o o24 o) o) o) o)) o)) o) o))))), p104958, (.tup (c (.agg (c (i 2) (c (i 1) (c (i 1) (c (.slice p163812 0 1 (.k 2)) z))))) (c (i 0) z))), (N (N (N (N (N (N o (N o (N (N o (N (N (N (S o o17 o) o) o) o)) o))) (N (N o (N o (N o (N (N (N o (S o o17 o)) o) o)))) (N (N (N (N o (N o (N o (S o o18 o)))) o) o) o))) o) (N o (N (N (N o (N (N (N o (N o (N o (S o o23 o)))) o) o)) o) o))) (N o (N o (N (N (N o (N (N (N o (N o (N o (S o o25 o)))) o) o)) o) (N o (N (N (N (N o (N o (N o (S o o19 o)))) o) o) o)))))) (N (N o (N (N (N o (N o (N o (N o (N o (N o (N o (N o (N o (N o (N (N (S o (.cells (c (i 1) (c (i 0) z))) o) o) o))))))))))) o) o)) (N (N (N (N (N o (N o (N o (N (N (N o (S o o26 o)) o) o)))) o) o) o) (N (N (N o (N o (N (N o (N (N (N (S o o17 o) o) o) o)) o))) o) (N (N (N o (N (N o (N (N (N (S o o24 o) o) o) o)) o)) o) o))))), p163816⟩
/-- cocycle/blame.Blame: 402656 operations. -/
def k10 : Kn := ⟨7, (c (.ptr p2004 0) (c (.slice p2003 0 3 (.k 3)) (c (i 0) (c (i 2) z)))), (N (N (N o (N (N o (N (N o (N o (N o (N o (S o o27 o))))) o)) o)) (N (N (N (N o (N (N (N (N (N (S o o14 o) o) o) o) o) o)) o) o) o)) (N (N o (N (N o (N (N o (N o (N o (N o (S o (.cells (c (.map p2081) z)) o))))) o)) o)) o)), p2340, (.tup (c (.slice p172310 0 2 (.r 0)) (c (.slice p172303 0 2 (.r 0)) (c (i 0) z)))), (N (N (N (N (N (N (N (N (N o (N (N (N (N (N o (N (N o (N (S o o28 o) o)) o)) o) o) o) o)) o) o) o) (N (N (N (N o (N (N (N (N (N o (N (N o (N (S o o29 o) o)) o)) o) o) o) o)) o) o) o)) o) (N (N o (N (N o (N o (N o (N o (S o o27 o))))) o)) o)) (N (N (N (N o (N (N (N (N (N (S o o14 o) o) o) o) o) o)) o) (N o (N (N o (N o (N (N (N (N (N (N o (N (N o (N (S o (.grow (c (i 1) z) 1) o) o)) o)) o) o) o) o) o))) o))) o)) (N (N (N (N o (N (N (N (N (N (N (N (N (N o (N (N o (N (S o (.grow (c (i 1) z) 1) o) o)) o)) o) o) o) o) o) o) o) o)) o) (N (N o (N (N o (N o (N o (N o (S o (.cells (c (.map p2081) z)) o))))) o)) (N (N (N (N (N o (N (N (N (N (N o (N (N o (N (S o o30 o) o)) o)) o) o) o) o)) o) o) o) o))) (N o (N (N o (N (N (N (N o (N (N (N (N (N o (N (N o (N (S o o31 o) o)) o)) o) o) o) o)) o) o) (N (N (N o (N o (N o (N o (N o (N (N (N o (N (S o (.grow (c (i 1) (c (i 0) z)) 1) o) o)) o) o)))))) o) o))) (N o (N o (N (N (N o (N o (N o (N o (N o (N (N (N o (N (S o (.grow (c (i 1) (c (i 1) z)) 1) o) o)) o) o)))))) o) o))))))), p172311⟩
/-- cocycle/maps.Induced: 49199 operations. -/
def k11 : Kn := ⟨40, (c (.agg (c (.slice p172401 0 2 (.r 0)) z)) (c (.agg (c (.slice p173110 0 3 (.r 0)) z)) (c (.agg (c (.slice p174259 0 2 (.r 0)) z)) (c (i 1) (c (i 2) z))))), (N (N (N o (N (N (N (N o (N (N (N (N o (N (N (N o (N (N o (N (S o o17 o) o)) o)) o) o)) o) o) o)) (N (N o (N (N (N (N o (N (N o (N (N o (N (S o o18 o) o)) o)) o)) o) o) o)) o)) (N o (N (N o (N (N (N (N o (N (N o (N (N o (N (S o o32 o) o)) o)) o)) o) o) o)) o))) o)) (N (N (N o (N o (N (N o (N (N (N (N o (N (N o (N (N o (N (S o o19 o) o)) o)) o)) o) o) o)) (N (N o (N (N (N (N (N o (N (N o (N (S o o20 o) o)) o)) o) o) o) o)) o)))) o) o)) (N o (N o (N (N o (N o (N (N (N (N (N o (N (N (N o (N (N o (N (S o o33 o) o)) o)) o) o)) o) o) o) o))) o)))), p178117, (.tup (c (.agg (c (i 2) (c (i 0) (c (i 0) (c (.slice p213798 0 0 (.k 0)) z))))) (c (i 0) z))), (N (N (N o (N (N (N (N o (N (N (N (N o (N (N (N o (N (N o (N (S o o17 o) o)) o)) o) o)) o) o) o)) (N (N o (N (N (N (N o (N (N o (N (N o (N (S o o18 o) o)) o)) o)) o) o) o)) o)) (N o (N (N o (N (N (N (N o (N (N o (N (N o (N (S o o32 o) o)) o)) o)) o) o) o)) o))) o)) (N (N (N o (N o (N (N o (N (N (N (N o (N (N o (N (N o (N (S o o19 o) o)) o)) o)) o) o) o)) (N (N o (N (N (N (N (N o (N (N o (N (S o o20 o) o)) o)) o) o) o) o)) o)))) o) o)) (N o (N o (N (N (N o (N (N (N o (N o (N (N (N (N (N o (N (N o (S o (.cells z) o)) o)) o) o) o) o))) o) o)) (N o (N (N (N (N (N o (N (N (N o (N (N o (N (S o o33 o) o)) o)) o) o)) o) o) o) o))) o)))), p213802⟩
/-- cocycle/maps.Induced: 101712 operations. -/
def k12 : Kn := ⟨40, (c (.agg (c (.slice p173110 0 3 (.r 0)) z)) (c (.agg (c (.slice p174401 0 4 (.r 0)) z)) (c (.agg (c (.slice p175610 0 3 (.r 0)) z)) (c (i 1) (c (i 2) z))))), (N (N (N o (N (N (N (N o (N (N (N (N o (N (N (N o (N (N o (N (S o o17 o) o)) o)) o) o)) o) o) o)) o) o) o)) (N (N (N (N (N o (N (N o (N (N (N o (N (N o (N (N o (N (S o o34 o) o)) o)) o)) o) o)) o)) o) o) (N o (N (N o (N (N o (N (N (N o (N (N o (N (N o (N (S o o17 o) o)) o)) o)) o) o)) o)) o))) o)) (N (N (N o (N o (N o (N o (N o (N o (N (N o (N o (N (N o (N (N o (N (S o o23 o) o)) o)) o))) o))))))) (N o (N o (N (N o (N o (N o (N (N o (N o (N (N o (N (N o (N (S o o18 o) o)) o)) o))) o)))) o)))) (N (N (N o (N (N o (N (N o (N (N (N o (N (N o (N (N o (N (S o o17 o) o)) o)) o)) o) o)) o)) o)) (N (N o (N o (N o (N o (N (N o (N o (N (N o (N (N o (N (S o o19 o) o)) o)) o))) o))))) (N o (N o (N o (N o (N (N o (N o (N (N o (N (N o (N (S o o35 o) o)) o)) o))) o))))))) (N (N o (N o (N (N (N (N (N o (N (N (N o (N (N o (N (S o o33 o) o)) o)) o) o)) o) o) o) o))) o)))), p213808, (.tup (c (.agg (c (i 2) (c (i 1) (c (i 0) (c (.slice p271659 0 0 (.k 0)) z))))) (c (i 0) z))), (N (N (N o (N (N (N (N o (N (N (N (N o (N (N (N o (N (N o (N (S o o17 o) o)) o)) o) o)) o) o) o)) o) o) (N (N o (N (N (N o (N (N o (N (N (N o (N (N (N (N (S o (.cells z) o) o) o) o) o)) o) o)) o)) o) o)) o))) (N (N (N (N (N o (N (N o (N (N (N o (N (N o (N (N o (N (S o o34 o) o)) o)) o)) o) o)) o)) o) o) (N o (N (N o (N (N o (N (N (N o (N (N o (N (N o (N (S o o17 o) o)) o)) o)) o) o)) o)) o))) o)) (N (N (N o (N o (N o (N o (N o (N o (N (N o (N o (N (N o (N (N o (N (S o o23 o) o)) o)) o))) o))))))) (N o (N o (N (N o (N o (N o (N (N o (N o (N (N o (N (N o (N (S o o18 o) o)) o)) o))) o)))) o)))) (N (N (N o (N (N o (N (N o (N (N (N o (N (N o (N (N o (N (S o o17 o) o)) o)) o)) o) o)) o)) o)) (N (N o (N o (N o (N o (N (N o (N o (N (N o (N (N o (N (S o o19 o) o)) o)) o))) o))))) (N o (N o (N o (N o (N (N o (N o (N (N o (N (N o (N (S o o35 o) o)) o)) o))) o))))))) (N (N o (N o (N (N (N (N (N o (N (N (N o (N (N o (N (S o o33 o) o)) o)) o) o)) o) o) o) o))) o)))), p271663⟩
/-- cocycle/maps.Induced: 101712 operations. -/
def k13 : Kn := ⟨40, (c (.agg (c (.slice p176565 0 3 (.r 0)) z)) (c (.agg (c (.slice p174401 0 4 (.r 0)) z)) (c (.agg (c (.slice p177728 0 3 (.r 0)) z)) (c (i 1) (c (i 2) z))))), (N (N o (N (N (N (N (N o (N (N o (N (N (N o (N (N o (N (N o (N (S o o34 o) o)) o)) o)) o) o)) o)) o) o) (N o (N (N o (N (N o (N (N (N o (N (N o (N (N o (N (S o o17 o) o)) o)) o)) o) o)) o)) o))) (N (N o (N o (N (N o (N o (N (N (N (N o (N o (N (N o (N (S o o36 o) o)) o))) o) o) o))) o))) o))) (N (N (N (N (N (N o (N (N (N o (N o (N (N o (N o (N (N o (N (S o o37 o) o)) o))) o))) o) o)) o) (N o (N (N (N (N o (N o (N (N o (N o (N (N o (N (S o o19 o) o)) o))) o))) o) o) o))) o) o) (N (N (N (N (N o (N o (N o (N (N (N (N o (N o (N (N o (N (S o o17 o) o)) o))) o) o) o)))) (N (N (N (N o (N o (N (N o (N o (N (N o (N (S o o18 o) o)) o))) o))) o) o) o)) (N (N o (N (N o (N (N (N o (N (N o (N (N o (N (S o o17 o) o)) o)) o)) o) o)) o)) o)) o) (N o (N o (N o (N (N (N (N o (N o (N (N o (N o (N (N o (N (S o o23 o) o)) o))) o))) o) o) o))))))), p271669, (.tup (c (.agg (c (i 2) (c (i 1) (c (i 0) (c (.slice p329520 0 0 (.k 0)) z))))) (c (i 0) z))), (N (N o (N (N (N (N (N o (N (N o (N (N (N o (N (N o (N (N o (N (S o o34 o) o)) o)) o)) o) o)) o)) o) o) (N o (N (N o (N (N o (N (N (N o (N (N o (N (N o (N (S o o17 o) o)) o)) o)) o) o)) o)) o))) (N (N o (N o (N (N o (N o (N (N (N (N o (N o (N (N o (N (S o o36 o) o)) o))) o) o) o))) o))) o))) (N (N (N (N (N (N o (N (N (N o (N o (N (N o (N o (N (N o (N (S o o37 o) o)) o))) o))) o) o)) o) (N o (N (N (N (N o (N o (N (N o (N o (N (N o (N (S o o19 o) o)) o))) o))) (N o (N o (N (N (N (N (N (N o (N (S o (.cells z) o) o)) o) o) o) o) o)))) o) o))) o) o) (N (N (N (N (N o (N o (N o (N (N (N (N o (N o (N (N o (N (S o o17 o) o)) o))) o) o) o)))) (N (N (N (N o (N o (N (N o (N o (N (N o (N (S o o18 o) o)) o))) o))) o) o) o)) (N (N o (N (N o (N (N (N o (N (N o (N (N o (N (S o o17 o) o)) o)) o)) o) o)) o)) o)) o) (N o (N o (N o (N (N (N (N o (N o (N (N o (N o (N (N o (N (S o o23 o) o)) o))) o))) o) o) o))))))), p329524⟩
/-- cocycle/blame.Blame: 380412 operations. -/
def k14 : Kn := ⟨7, (c (.ptr p2004 0) (c (.slice p2003 0 3 (.k 3)) (c (i 1) (c (i 2) z)))), (N (N (N o (N (N o (N (N o (N o (N o (N o (S o o27 o))))) o)) o)) (N (N (N (N o (N (N (N (N (N (S o o14 o) o) o) o) o) o)) o) o) o)) (N (N o (N (N o (N (N o (N o (N o (N o (S o (.cells (c (.map p2081) z)) o))))) o)) o)) o)), p172311, (.tup (c (.slice p337632 0 1 (.r 0)) (c (.slice p337630 0 1 (.r 0)) (c (i 0) z)))), (N (N (N o (N (N o (N (N o (N o (N o (N o (S o o27 o))))) o)) (N o (N (N o (N o (N (N o (N o (N (N (N o (N (N (N o (N (S o o38 o) o)) o) o)) o) o))) o))) o)))) (N (N (N (N o (N (N (N (N (N (S o o14 o) o) o) o) o) o)) o) o) (N o (N o (N (N o (N (N (N o (N o (N (N (N o (N (N (N o (N (S o (.grow (c (i 1) z) 1) o) o)) o) o)) o) o))) o) o)) o))))) (N (N (N (N (N o (N o (N o (N (N o (N o (N (N (N o (N (N (N o (N (S o o39 o) o)) o) o)) o) o))) o)))) o) o) (N (N o (N (N o (N o (N o (N o (S o (.cells (c (.map p2081) z)) o))))) o)) o)) (N o (N o (N o (N (N o (N o (N (N o (N o (N (N (N o (N (N (N o (N (S o o40 o) o)) o) o)) o) o))) o))) o)))))), p337633⟩
/-- cocycle/maps.Induced: 101712 operations. -/
def k15 : Kn := ⟨40, (c (.agg (c (.slice p338695 0 3 (.r 0)) z)) (c (.agg (c (.slice p337820 0 4 (.r 0)) z)) (c (.agg (c (.slice p339858 0 3 (.r 0)) z)) (c (i 1) (c (i 2) z))))), (N (N (N (N o (N (N (N (N (N o (N o (N (N o (N (N o (N (N (N o (N (S o o41 o) o)) o) o)) o)) o))) o) o) o) o)) o) (N o (N o (N (N o (N (N o (N o (N o (N o (N (N (N o (N (N (N o (N (S o o17 o) o)) o) o)) o) o))))) o)) o)))) (N (N (N (N o (N (N (N o (N o (N o (N o (N o (N (N o (N (N (N o (N (S o o23 o) o)) o) o)) o)))))) o) o)) o) (N (N o (N (N (N (N o (N o (N (N o (N (N o (N (N (N o (N (S o o17 o) o)) o) o)) o)) o))) o) o) (N (N o (N o (N o (N o (N (N (N o (N (N (N o (N (S o o17 o) o)) o) o)) o) o))))) (N (N o (N o (N o (N o (N (N o (N (N (N o (N (S o o18 o) o)) o) o)) o))))) o)))) (N o (N (N (N o (N o (N o (N o (N (N (N o (N (N (N o (N (S o o42 o) o)) o) o)) o) o))))) o) o)))) (N (N (N (N (N (N o (N o (N o (N o (N o (N (N o (N (N (N o (N (S o o19 o) o)) o) o)) o)))))) o) o) (N (N (N o (N o (N o (N o (N o (N (N o (N (N (N o (N (S o o43 o) o)) o) o)) o)))))) o) o)) o) o))), p342396, (.tup (c (.agg (c (i 2) (c (i 1) (c (i 0) (c (.slice p400247 0 0 (.k 0)) z))))) (c (i 0) z))), (N (N (N (N o (N (N (N (N (N o (N o (N (N o (N (N o (N (N (N o (N (S o o41 o) o)) o) o)) o)) o))) o) o) o) (N o (N o (N (N o (N o (N (N o (N o (N (N (N (N (N o (S o (.cells z) o)) o) o) o) o))) o))) o))))) o) (N o (N o (N (N o (N (N o (N o (N o (N o (N (N (N o (N (N (N o (N (S o o17 o) o)) o) o)) o) o))))) o)) o)))) (N (N (N (N o (N (N (N o (N o (N o (N o (N o (N (N o (N (N (N o (N (S o o23 o) o)) o) o)) o)))))) o) o)) o) (N (N o (N (N (N (N o (N o (N (N o (N (N o (N (N (N o (N (S o o17 o) o)) o) o)) o)) o))) o) o) (N (N o (N o (N o (N o (N (N (N o (N (N (N o (N (S o o17 o) o)) o) o)) o) o))))) (N (N o (N o (N o (N o (N (N o (N (N (N o (N (S o o18 o) o)) o) o)) o))))) o)))) (N o (N (N (N o (N o (N o (N o (N (N (N o (N (N (N o (N (S o o42 o) o)) o) o)) o) o))))) o) o)))) (N (N (N (N (N (N o (N o (N o (N o (N o (N (N o (N (N (N o (N (S o o19 o) o)) o) o)) o)))))) o) o) (N (N (N o (N o (N o (N o (N o (N (N o (N (N (N o (N (S o o43 o) o)) o) o)) o)))))) o) o)) o) o))), p400251⟩
/-- cocycle/maps.Induced: 101712 operations. -/
def k16 : Kn := ⟨40, (c (.agg (c (.slice p338695 0 3 (.r 0)) z)) (c (.agg (c (.slice p340394 0 4 (.r 0)) z)) (c (.agg (c (.slice p342006 0 3 (.r 0)) z)) (c (i 1) (c (i 2) z))))), (N (N (N (N o (N (N (N (N (N o (N o (N (N o (N (N o (N (N (N o (N (S o o41 o) o)) o) o)) o)) o))) o) o) o) o)) (N o (N o (N o (N (N o (N o (N (N (N (N o (N o (N (N (N o (N (S o o17 o) o)) o) o))) o) o) o))) o))))) o) (N (N (N o (N o (N (N o (N o (N o (N o (N o (N (N o (N o (N (N (N o (N (S o o18 o) o)) o) o))) o)))))) o))) (N (N o (N (N (N (N o (N o (N (N o (N (N o (N (N (N o (N (S o o17 o) o)) o) o)) o)) o))) o) o) (N o (N o (N o (N o (N o (N (N o (N o (N (N (N o (N (S o o23 o) o)) o) o))) o)))))))) o)) (N (N (N (N (N o (N o (N o (N (N (N (N o (N o (N (N (N o (N (S o o17 o) o)) o) o))) o) o) o)))) o) o) (N (N o (N (N o (N o (N (N (N (N o (N o (N (N (N o (N (S o o44 o) o)) o) o))) o) o) o))) o)) o)) (N (N (N o (N o (N o (N o (N o (N o (N (N o (N o (N (N (N o (N (S o o19 o) o)) o) o))) o))))))) (N o (N o (N o (N o (N o (N o (N (N o (N o (N (N (N o (N (S o o45 o) o)) o) o))) o)))))))) o)))), p400257, (.tup (c (.agg (c (i 2) (c (i 1) (c (i 0) (c (.slice p458108 0 0 (.k 0)) z))))) (c (i 0) z))), (N (N (N (N o (N (N (N (N (N o (N o (N (N o (N (N o (N (N (N o (N (S o o41 o) o)) o) o)) o)) o))) o) o) o) o)) (N o (N o (N o (N (N o (N o (N (N (N (N o (N o (N (N (N o (N (S o o17 o) o)) o) o))) o) o) o))) o))))) o) (N (N (N o (N o (N (N o (N o (N o (N o (N o (N (N o (N o (N (N (N o (N (S o o18 o) o)) o) o))) o)))))) o))) (N (N o (N (N (N (N o (N o (N (N o (N (N o (N (N (N o (N (S o o17 o) o)) o) o)) o)) o))) o) o) (N o (N o (N o (N o (N o (N (N o (N o (N (N (N o (N (S o o23 o) o)) o) o))) o)))))))) (N o (N o (N o (N (N o (N (N o (N o (N o (N o (N o (N o (N (N o (S o (.cells z) o)) o))))))) o)) o)))))) (N (N (N (N (N o (N o (N o (N (N (N (N o (N o (N (N (N o (N (S o o17 o) o)) o) o))) o) o) o)))) o) o) (N (N o (N (N o (N o (N (N (N (N o (N o (N (N (N o (N (S o o44 o) o)) o) o))) o) o) o))) o)) o)) (N (N (N o (N o (N o (N o (N o (N o (N (N o (N o (N (N (N o (N (S o o19 o) o)) o) o))) o))))))) (N o (N o (N o (N o (N o (N o (N (N o (N o (N (N (N o (N (S o o45 o) o)) o) o))) o)))))))) o)))), p458112⟩
/-- cocycle/blame.Blame: 332910 operations. -/
def k17 : Kn := ⟨7, (c (.ptr p2004 0) (c (.slice p337633 0 3 (.k 3)) (c (i 1) (c (i 2) z)))), (N (N o (N (N (N (N o (N (N (N (N (N (S o o14 o) o) o) o) o) (N o (N (N o (N o (N (N (N o (N (N (N o (N (S o o46 o) o)) o) o)) o) o))) o)))) o) o) o)) (N (N o (N (N o (N (N o (N o (N o (N o (S o (.cells (c (.map p2081) z)) o))))) o)) o)) o)), p337634, (.tup (c (.slice p465242 0 2 (.r 0)) (c (.slice p465235 0 2 (.r 0)) (c (i 0) z)))), (N (N (N (N o (N (N (N o (N (N o (N (N (N o (N o (N (N (N (N o (N o (S o o47 o))) o) o) o))) o) o)) o)) o) o)) (N (N o (N (N o (N (N o (N (N (N o (N o (N (N (N (N o (N o (S o o48 o))) o) o) o))) o) o)) o)) (N (N (N o (N (N (N o (N o (N (N (N (N o (N o (S o (.grow (c (i 1) z) 1) o))) o) o) o))) o) o)) o) o))) o)) (N (N (N (N o (N (N (N (N (N (S o o14 o) o) o) o) o) (N o (N (N o (N o (N (N (N o (N (N (N o (N (S o o46 o) o)) o) o)) o) o))) o)))) o) o) (N (N o (N (N (N o (N (N (N (N o (N o (N (N (N (N o (N o (S o (.grow (c (i 1) z) 1) o))) o) o) o))) o) o) o)) o) o)) o))) (N (N (N (N o (N (N o (N (N o (N (N (N o (N o (N (N (N (N o (N o (S o o49 o))) o) o) o))) o) o)) o)) o)) o) (N (N o (N (N o (N o (N o (N o (S o (.cells (c (.map p2081) z)) o))))) o)) o)) (N (N o (N o (N (N o (N (N o (N (N (N o (N o (N (N (N (N o (N o (S o o50 o))) o) o) o))) o) o)) o)) o))) o))), p465243⟩
/-- cocycle/blame.Blame: 11161 operations. -/
def k18 : Kn := ⟨7, (c (.ptr p2004 0) (c (.slice p465243 0 2 (.k 2)) (c (i 1) (c (i 2) z)))), (N (N (N o (N o (N o (N (N o (N (N o (N (N (N o (N o (N (N (N (N o (N o (S o o51 o))) o) o) o))) o) o)) o)) o)))) (N (N (N (N o (N (N (N (N (N (S o o14 o) o) o) o) o) o)) o) o) o)) (N (N o (N (N o (N (N o (N o (N o (N o (S o (.cells (c (.map p2081) z)) o))))) o)) o)) o)), p465244, (.tup (c .nils (c .nils (c (i 30) z)))), (N (N (N o (N o (N o (N (N o (N (N o (N (N (N o (N o (N (N (N (N o (N o (S o o51 o))) o) o) o))) o) o)) o)) o)))) (N (N (N (N o (N (N (N (N (N (S o o14 o) o) o) o) o) o)) o) o) o)) (N (N o (N (N o (N (N o (N o (N o (N o (S o (.cells (c (.map p2081) z)) o))))) o)) o)) o)), p465536⟩
/-- cocycle/cocyclelaw23.sanity: 1589746 operations. -/
def k19 : Kn := ⟨4, z, o, p0, (.bool true), o, p465539⟩
/-- cocycle/blame.Blame: 24 operations. -/
def k_nil : Kn := ⟨7, (c (.ptr p2004 0) (c .nils (c (i 0) (c (i 2) z)))), (N (N o (N (N (N (N o (N (N (N (N (N (S o o14 o) o) o) o) o) o)) o) o) o)) (N (N o (N (N o (N (N o (N o (N o (N o (S o (.cells (c (.map p2081) z)) o))))) o)) o)) o)), p2340, (.tup (c .nils (c .nils (c (i 1) z)))), (N (N o (N (N (N (N o (N (N (N (N (N (S o o14 o) o) o) o) o) o)) o) o) o)) (N (N o (N (N o (N (N o (N o (N o (N o (S o (.cells (c (.map p2081) z)) o))))) o)) o)) o)), p2340⟩
/-- cocycle/blame.Blame: 13328 operations. -/
def k_h0 : Kn := ⟨7, (c (.ptr p2004 0) (c (.slice p2340 0 1 (.k 1)) (c (i 0) (c (i 2) z)))), (N (N o (N (N (N (N o (N (N (N (N (N (S o o14 o) o) o) o) o) o)) o) o) o)) (N (N o (N (N (N o (N (N (N o (N (N (S o o2 o) o) o)) o) o)) (N (N o (N o (N o (N o (S o (.cells (c (.map p2081) z)) o))))) o)) o)) o)), p2341, (.tup (c (.slice p5065 0 1 (.r 0)) (c (.slice p5060 0 2 (.r 0)) (c (i 0) z)))), (N (N o (N (N (N (N (N o (N o (N o (N o (N (N (S o o52 o) o) o))))) (N (N (N (N (N (S o o14 o) o) o) o) o) o)) o) (N (N (N o (N o (N o (N o (N (N (S o o53 o) o) o))))) o) o)) o)) (N (N (N o (N o (N o (N (N o (N o (N o (N (N (S o o54 o) o) o)))) o)))) (N (N (N (N o (N o (N o (N o (N (N (S o o55 o) o) o))))) (N (N (N o (N (N (S o o2 o) o) o)) (N o (N o (N (N (S o (.grow (c (i 0) (c (i 1) z)) 1) o) o) o)))) o)) (N (N o (N o (N o (N o (S o (.cells (c (.map p2081) z)) o))))) o)) (N o (N (N (N o (N o (N o (N (N (S o (.grow (c (i 1) (c (i 0) z)) 1) o) o) o)))) o) o)))) o)), p5066⟩
/-- cocycle/blame.Blame: 119 operations. -/
def k_h1 : Kn := ⟨7, (c (.ptr p2004 0) (c (.slice p2340 0 1 (.k 1)) (c (i 0) (c (i 2) z)))), (N (N o (N (N (N (N o (N (N (N (N (N (S o o14 o) o) o) o) o) o)) o) o) o)) (N (N o (N (N (N o (N (N (N o (N (N (S o o56 o) o) o)) o) o)) (N (N o (N o (N o (N o (S o (.cells (c (.map p2081) z)) o))))) o)) o)) o)), p2341, (.tup (c .nils (c .nils (c (i 51) z)))), (N (N o (N (N (N (N o (N (N (N (N (N (S o o14 o) o) o) o) o) o)) o) o) o)) (N (N o (N (N (N o (N (N (N o (N (N (S o o56 o) o) o)) o) o)) (N (N o (N o (N o (N o (S o (.cells (c (.map p2081) z)) o))))) o)) o)) o)), p2352⟩
/-- cocycle/blame.Blame: 119 operations. -/
def k_h2 : Kn := ⟨7, (c (.ptr p2004 0) (c (.slice p2340 0 1 (.k 1)) (c (i 0) (c (i 2) z)))), (N (N o (N (N (N (N o (N (N (N (N (N (S o o14 o) o) o) o) o) o)) o) o) o)) (N (N o (N (N (N o (N (N (N o (N (N (S o o57 o) o) o)) o) o)) (N (N o (N o (N o (N o (S o (.cells (c (.map p2081) z)) o))))) o)) o)) o)), p2341, (.tup (c .nils (c .nils (c (i 51) z)))), (N (N o (N (N (N (N o (N (N (N (N (N (S o o14 o) o) o) o) o) o)) o) o) o)) (N (N o (N (N (N o (N (N (N o (N (N (S o o57 o) o) o)) o) o)) (N (N o (N o (N o (N o (S o (.cells (c (.map p2081) z)) o))))) o)) o)) o)), p2352⟩
/-- cocycle/blame.Blame: 119 operations. -/
def k_h3 : Kn := ⟨7, (c (.ptr p2004 0) (c (.slice p2340 0 1 (.k 1)) (c (i 0) (c (i 2) z)))), (N (N o (N (N (N (N o (N (N (N (N (N (S o o14 o) o) o) o) o) o)) o) o) o)) (N (N o (N (N (N o (N (N (N o (N (N (S o o58 o) o) o)) o) o)) (N (N o (N o (N o (N o (S o (.cells (c (.map p2081) z)) o))))) o)) o)) o)), p2341, (.tup (c .nils (c .nils (c (i 51) z)))), (N (N o (N (N (N (N o (N (N (N (N (N (S o o14 o) o) o) o) o) o)) o) o) o)) (N (N o (N (N (N o (N (N (N o (N (N (S o o58 o) o) o)) o) o)) (N (N o (N o (N o (N o (S o (.cells (c (.map p2081) z)) o))))) o)) o)) o)), p2352⟩
/-- cocycle/blame.Blame: 119 operations. -/
def k_h4 : Kn := ⟨7, (c (.ptr p2004 0) (c (.slice p2340 0 1 (.k 1)) (c (i 0) (c (i 2) z)))), (N (N o (N (N (N (N o (N (N (N (N (N (S o o14 o) o) o) o) o) o)) o) o) o)) (N (N o (N (N (N o (N (N (N o (N (N (S o o59 o) o) o)) o) o)) (N (N o (N o (N o (N o (S o (.cells (c (.map p2081) z)) o))))) o)) o)) o)), p2341, (.tup (c .nils (c .nils (c (i 51) z)))), (N (N o (N (N (N (N o (N (N (N (N (N (S o o14 o) o) o) o) o) o)) o) o) o)) (N (N o (N (N (N o (N (N (N o (N (N (S o o59 o) o) o)) o) o)) (N (N o (N o (N o (N o (S o (.cells (c (.map p2081) z)) o))))) o)) o)) o)), p2352⟩
/-- cocycle/blame.Blame: 119 operations. -/
def k_h5 : Kn := ⟨7, (c (.ptr p2004 0) (c (.slice p2340 0 1 (.k 1)) (c (i 0) (c (i 2) z)))), (N (N o (N (N (N (N o (N (N (N (N (N (S o o14 o) o) o) o) o) o)) o) o) o)) (N (N o (N (N (N o (N (N (N o (N (N (S o o60 o) o) o)) o) o)) (N (N o (N o (N o (N o (S o (.cells (c (.map p2081) z)) o))))) o)) o)) o)), p2341, (.tup (c .nils (c .nils (c (i 51) z)))), (N (N o (N (N (N (N o (N (N (N (N (N (S o o14 o) o) o) o) o) o)) o) o) o)) (N (N o (N (N (N o (N (N (N o (N (N (S o o60 o) o) o)) o) o)) (N (N o (N o (N o (N o (S o (.cells (c (.map p2081) z)) o))))) o)) o)) o)), p2352⟩
/-- cocycle/blame.Blame: 22145 operations. -/
def k_h6 : Kn := ⟨7, (c (.ptr p2004 0) (c (.slice p2340 0 1 (.k 1)) (c (i 0) (c (i 2) z)))), (N (N o (N (N (N (N o (N (N (N (N (N (S o o14 o) o) o) o) o) o)) o) o) o)) (N (N o (N (N (N o (N (N (N o (N (N (S o o61 o) o) o)) o) o)) (N (N o (N o (N o (N o (S o (.cells (c (.map p2081) z)) o))))) o)) o)) o)), p2341, (.tup (c (.slice p5509 0 1 (.r 0)) (c (.slice p5507 0 1 (.r 0)) (c (i 0) z)))), (N (N (N o (N (N (N (N (N o (N o (N (N o (N (S o o62 o) o)) o))) o) o) (N o (N o (N (N o (N (N o (N (S o (.grow (c (i 1) z) 1) o) o)) o)) o)))) o)) (N (N (N (N o (N (N (N (N (N (S o o14 o) o) o) o) o) o)) o) o) (N (N (N (N (N o (N o (N (N o (N (S o o63 o) o)) o))) o) o) o) o))) (N (N (N (N (N (N (N o (N o (N (N o (N (S o o64 o) o)) o))) o) o) o) o) (N (N (N o (N (N (N o (N (N (S o o61 o) o) o)) o) o)) (N (N o (N o (N o (N o (S o (.cells (c (.map p2081) z)) o))))) o)) o)) o)), p5510⟩
/-- cocycle/blame.Blame: 31682 operations. -/
def k_h7 : Kn := ⟨7, (c (.ptr p2004 0) (c (.slice p2340 0 1 (.k 1)) (c (i 0) (c (i 2) z)))), (N (N o (N (N (N (N o (N (N (N (N (N (S o o14 o) o) o) o) o) o)) o) o) o)) (N (N o (N (N (N o (N (N (N o (N (N (S o o8 o) o) o)) o) o)) (N (N o (N o (N o (N o (S o (.cells (c (.map p2081) z)) o))))) o)) o)) o)), p2341, (.tup (c (.slice p5929 0 1 (.r 0)) (c (.slice p5927 0 1 (.r 0)) (c (i 0) z)))), (N (N (N (N o (N (N o (N (N (N o (N o (N o (N (S o o65 o) o)))) o) o)) (N (N (N (N o (N o (N o (N (S o (.grow (c (i 1) z) 1) o) o)))) o) o) o))) o) (N (N (N (N o (N (N (N (N (N (S o o14 o) o) o) o) o) o)) o) (N (N o (N (N (N o (N o (N o (N (S o o63 o) o)))) o) o)) o)) o)) (N (N o (N (N (N o (N (N (N o (N (N (S o o8 o) o) (N o (N (S o o66 o) o)))) o) o)) (N (N o (N o (N o (N o (S o (.cells (c (.map p2081) z)) o))))) o)) o)) o)), p5930⟩
/-- cocycle/blame.Blame: 119 operations. -/
def k_h8 : Kn := ⟨7, (c (.ptr p2004 0) (c (.slice p2340 0 1 (.k 1)) (c (i 0) (c (i 2) z)))), (N (N o (N (N (N (N o (N (N (N (N (N (S o o14 o) o) o) o) o) o)) o) o) o)) (N (N o (N (N (N o (N (N (N o (N (N (S o o67 o) o) o)) o) o)) (N (N o (N o (N o (N o (S o (.cells (c (.map p2081) z)) o))))) o)) o)) o)), p2341, (.tup (c .nils (c .nils (c (i 51) z)))), (N (N o (N (N (N (N o (N (N (N (N (N (S o o14 o) o) o) o) o) o)) o) o) o)) (N (N o (N (N (N o (N (N (N o (N (N (S o o67 o) o) o)) o) o)) (N (N o (N o (N o (N o (S o (.cells (c (.map p2081) z)) o))))) o)) o)) o)), p2352⟩
/-- cocycle/blame.Blame: 84 operations. -/
def kU (x0 x1 x2 x3 x4 x5 x6 x7 x8 x9 x10 x11 x12 x13 x14 x15 x16 x17 x18 x19 x20 x21 x22 x23 x24 x25 x26 x27 x28 x29 x30 x31 : Nat) : Kn := ⟨7, (c (.ptr p2004 0) (c (.slice p2340 0 1 (.k 1)) (c (i 0) (c (i 2) z)))), (N (N o (N (N (N (N o (N (N (N (N (N (S o o14 o) o) o) o) o) o)) o) o) o)) (N (N o (N (N (N o (N (N (N o (N (N (S o (.cells (c (b x0) (c (b x1) (c (b x2) (c (b x3) (c (b x4) (c (b x5) (c (b x6) (c (b x7) (c (b x8) (c (b x9) (c (b x10) (c (b x11) (c (b x12) (c (b x13) (c (b x14) (c (b x15) (c (b x16) (c (b x17) (c (b x18) (c (b x19) (c (b x20) (c (b x21) (c (b x22) (c (b x23) (c (b x24) (c (b x25) (c (b x26) (c (b x27) (c (b x28) (c (b x29) (c (b x30) (c (b x31) z))))))))))))))))))))))))))))))))) o) o) o)) o) o)) (N (N o (N o (N o (N o (S o (.cells (c (.map p2081) z)) o))))) o)) o)) o)), p2341, (.tup (c .nils (c .nils (c (i 50) z)))), (N (N o (N (N (N (N o (N (N (N (N (N (S o o14 o) o) o) o) o) o)) o) o) o)) (N (N o (N (N (N o (N (N (N o (N (N (S o (.cells (c (b x0) (c (b x1) (c (b x2) (c (b x3) (c (b x4) (c (b x5) (c (b x6) (c (b x7) (c (b x8) (c (b x9) (c (b x10) (c (b x11) (c (b x12) (c (b x13) (c (b x14) (c (b x15) (c (b x16) (c (b x17) (c (b x18) (c (b x19) (c (b x20) (c (b x21) (c (b x22) (c (b x23) (c (b x24) (c (b x25) (c (b x26) (c (b x27) (c (b x28) (c (b x29) (c (b x30) (c (b x31) z))))))))))))))))))))))))))))))))) o) o) o)) o) o)) (N (N o (N o (N o (N o (S o (.cells (c (.map p2081) z)) o))))) o)) o)) o)), p2349⟩
/-- cocycle/blame.Path: 91 operations. -/
def kPath (x0 x1 x2 x3 x4 x5 x6 x7 x8 x9 x10 x11 x12 x13 x14 x15 x16 x17 x18 x19 x20 x21 x22 x23 x24 x25 x26 x27 x28 x29 x30 x31 : Nat) : Kn := ⟨8, (c .nilp (c (.slice p2340 0 1 (.k 1)) z)), (N o (N (N o (N (N (N o (N (N (N o (N (N (S o (.cells (c (b x0) (c (b x1) (c (b x2) (c (b x3) (c (b x4) (c (b x5) (c (b x6) (c (b x7) (c (b x8) (c (b x9) (c (b x10) (c (b x11) (c (b x12) (c (b x13) (c (b x14) (c (b x15) (c (b x16) (c (b x17) (c (b x18) (c (b x19) (c (b x20) (c (b x21) (c (b x22) (c (b x23) (c (b x24) (c (b x25) (c (b x26) (c (b x27) (c (b x28) (c (b x29) (c (b x30) (c (b x31) z))))))))))))))))))))))))))))))))) o) o) o)) o) o)) o) o)) o)), p2341, (.tup (c .nils (c .nils (c (i 50) z)))), (N o (N (N o (N (N (N o (N (N (N o (N (N (S o (.cells (c (b x0) (c (b x1) (c (b x2) (c (b x3) (c (b x4) (c (b x5) (c (b x6) (c (b x7) (c (b x8) (c (b x9) (c (b x10) (c (b x11) (c (b x12) (c (b x13) (c (b x14) (c (b x15) (c (b x16) (c (b x17) (c (b x18) (c (b x19) (c (b x20) (c (b x21) (c (b x22) (c (b x23) (c (b x24) (c (b x25) (c (b x26) (c (b x27) (c (b x28) (c (b x29) (c (b x30) (c (b x31) z))))))))))))))))))))))))))))))))) o) o) o)) o) o)) o) o)) o)), p2350⟩
/-- cocycle/blame.Blame: 3814 operations. -/
def kN (p : Int) : Kn := ⟨7, (c (.ptr p2004 0) (c (.slice p2340 0 1 (.k 3)) (c (i 0) (c (.int .i64 p) z)))), (N (N o (N (N (N (N o (N (N (N (N (N (S o o14 o) o) o) o) o) o)) o) o) o)) (N (N o (N (N (N o (N (N (N o (N (N (S o o27 o) o) o)) o) o)) (N (N o (N o (N o (N o (S o (.cells (c (.map p2081) z)) o))))) o)) o)) o)), p2341, (.tup (c .nils (c .nils (c (i 46) z)))), (N (N o (N (N (N (N o (N (N (N (N (N (S o o14 o) o) o) o) o) o)) o) o) o)) (N (N o (N (N (N o (N (N (N o (N (N (S o o27 o) o) o)) o) o)) (N (N o (N o (N o (N o (S o (.cells (c (.map p2081) z)) o))))) o)) o)) o)), p2445⟩
/-- cocycle/blame.Blame: 13146 operations. -/
def kQ (p : Nat) : Kn := ⟨7, (c (.ptr p2004 0) (c (.slice p2340 0 1 (.k 3)) (c (i 0) (c (i p) z)))), (N (N o (N (N (N (N o (N (N (N (N (N (S o o14 o) o) o) o) o) o)) o) o) o)) (N (N o (N (N (N o (N (N (N o (N (N (S o o27 o) o) o)) o) o)) (N (N o (N o (N o (N o (S o (.cells (c (.map p2081) z)) o))))) o)) o)) o)), p2341, (.tup (c (.slice p5065 0 1 (.r 0)) (c (.slice p5060 0 2 (.r 0)) (c (i 0) z)))), (N (N o (N (N (N (N (N o (N o (N o (N o (N (N (S o o52 o) o) o))))) (N (N (N (N (N (S o o14 o) o) o) o) o) o)) o) (N (N (N o (N o (N o (N o (N (N (S o o53 o) o) o))))) o) o)) o)) (N (N (N o (N o (N o (N (N o (N o (N o (N (N (S o o54 o) o) o)))) o)))) (N (N (N (N o (N o (N o (N o (N (N (S o o55 o) o) o))))) (N (N (N o (N (N (S o o27 o) o) o)) (N o (N o (N (N (S o (.grow (c (i 0) (c (i 1) z)) 1) o) o) o)))) o)) (N (N o (N o (N o (N o (S o (.cells (c (.map p2081) z)) o))))) o)) (N o (N (N (N o (N o (N o (N (N (S o (.grow (c (i 1) (c (i 0) z)) 1) o) o) o)))) o) o)))) o)), p5066⟩
end
end Go.Ev.Z
end
section
set_option linter.all false
set_option maxRecDepth 100000
set_option maxHeartbeats 0
set_option linter.unusedVariables false
namespace Go.Ev.Z
open Go Go.Ev
open Go.Sy (U)
noncomputable section
def hK0 : List Nat := [61, 116, 123, 67, 116, 237, 197, 54, 122, 247, 108, 194, 220, 245, 151, 89, 239, 12, 185, 218, 25, 131, 77, 210, 176, 203, 235, 186, 67, 84, 152, 13]
def hK1 : List Nat := [95, 46, 232, 20, 156, 225, 235, 46, 98, 239, 81, 27, 5, 248, 37, 60, 1, 135, 123, 10, 65, 136, 199, 140, 108, 46, 35, 71, 35, 32, 28, 68]
def hK2 : List Nat := [123, 168, 28, 120, 32, 56, 58, 121, 45, 48, 244, 158, 137, 73, 100, 148, 185, 82, 124, 60, 248, 133, 239, 3, 82, 178, 14, 60, 81, 230, 201, 220]
def hK3 : List Nat := [130, 40, 195, 86, 43, 53, 107, 183, 214, 255, 87, 233, 106, 194, 155, 210, 141, 129, 67, 239, 28, 18, 249, 253, 135, 6, 125, 178, 181, 96, 164, 255]
def hK4 : List Nat := [137, 71, 59, 75, 41, 20, 171, 140, 124, 49, 165, 244, 47, 172, 198, 246, 223, 183, 107, 146, 216, 206, 139, 42, 25, 93, 151, 236, 173, 83, 176, 209]
def hK5 : List Nat := [143, 10, 62, 188, 241, 239, 252, 205, 79, 28, 25, 117, 14, 167, 162, 162, 6, 254, 67, 13, 213, 15, 234, 213, 124, 82, 164, 233, 114, 251, 241, 172]
def hK6 : List Nat := [155, 145, 221, 81, 81, 0, 230, 114, 76, 240, 157, 116, 63, 147, 90, 128, 10, 118, 109, 226, 180, 40, 128, 128, 15, 85, 131, 143, 164, 114, 213, 56]
def hK7 : List Nat := [192, 229, 242, 74, 18, 102, 223, 178, 111, 126, 251, 245, 116, 55, 63, 201, 71, 163, 92, 212, 81, 157, 200, 85, 173, 110, 122, 64, 201, 113, 62, 98]
def hK8 : List Nat := [224, 161, 90, 238, 161, 217, 234, 244, 23, 218, 96, 82, 211, 206, 212, 252, 223, 118, 42, 150, 19, 222, 22, 221, 183, 127, 232, 0, 218, 88, 146, 145]
def hA : List Nat := hK0
def hB : List Nat := hK7
def hC : List Nat := hK6
def lH : List Nat := hA ++ hB ++ hC
def esU : ES := (.cons (.agg (U hK0)) (.str [3, 0, 2, 2, 2, 0, 0, 0, 0, 0, 2, 4, 0, 0, 0, 0, 0, 137, 71, 59, 75, 41, 20, 171, 140, 124, 49, 165, 244, 47, 172, 198, 246, 223, 183, 107, 146, 216, 206, 139, 42, 25, 93, 151, 236, 173, 83, 176, 209, 1, 97]) 0 (.cons (.agg (U hK1)) (.str [2, 1, 0, 123, 168, 28, 120, 32, 56, 58, 121, 45, 48, 244, 158, 137, 73, 100, 148, 185, 82, 124, 60, 248, 133, 239, 3, 82, 178, 14, 60, 81, 230, 201, 220]) 1 (.cons (.agg (U hK2)) (.str [1, 0, 3, 1, 0, 0, 2, 0, 0, 3, 1, 2, 1, 1, 2, 0]) 2 (.cons (.agg (U hK3)) (.str [2, 1, 0, 143, 10, 62, 188, 241, 239, 252, 205, 79, 28, 25, 117, 14, 167, 162, 162, 6, 254, 67, 13, 213, 15, 234, 213, 124, 82, 164, 233, 114, 251, 241, 172]) 3 (.cons (.agg (U hK4)) (.str [2, 1, 0, 224, 161, 90, 238, 161, 217, 234, 244, 23, 218, 96, 82, 211, 206, 212, 252, 223, 118, 42, 150, 19, 222, 22, 221, 183, 127, 232, 0, 218, 88, 146, 145]) 4 (.cons (.agg (U hK5)) (.str [1, 0, 4, 1, 0, 0, 2, 0, 0, 3, 1, 2, 1, 1, 2, 0, 4, 1, 2, 1, 1, 2, 0]) 5 (.cons (.agg (U hK6)) (.str [3, 1, 192, 229, 242, 74, 18, 102, 223, 178, 111, 126, 251, 245, 116, 55, 63, 201, 71, 163, 92, 212, 81, 157, 200, 85, 173, 110, 122, 64, 201, 113, 62, 98, 1, 4, 8, 0, 0, 0, 0, 0, 95, 46, 232, 20, 156, 225, 235, 46, 98, 239, 81, 27, 5, 248, 37, 60, 1, 135, 123, 10, 65, 136, 199, 140, 108, 46, 35, 71, 35, 32, 28, 68, 1, 99]) 6 (.cons (.agg (U hK7)) (.str [3, 1, 61, 116, 123, 67, 116, 237, 197, 54, 122, 247, 108, 194, 220, 245, 151, 89, 239, 12, 185, 218, 25, 131, 77, 210, 176, 203, 235, 186, 67, 84, 152, 13, 2, 2, 6, 2, 0, 0, 2, 2, 1, 4, 2, 0, 2, 8, 2, 0, 0, 2, 2, 1, 4, 2, 0, 130, 40, 195, 86, 43, 53, 107, 183, 214, 255, 87, 233, 106, 194, 155, 210, 141, 129, 67, 239, 28, 18, 249, 253, 135, 6, 125, 178, 181, 96, 164, 255, 1, 98]) 7 (.cons (.agg (U hK8)) (.str [1, 0, 2, 1, 0, 0, 2, 0, 0]) 8 .nil)))))))))
def clkU : Nat := 9
def pmod : Pos := p1
def ps : Pos := p2004
def pM : Pos := p2081
def pq : Pos := p2340
def Ms : Mem := (N (N o (N (N (N (N o (N (N (N (N (N (S o o14 o) o) o) o) o) o)) o) o) o)) (N (N o (N (N o (N (N o (N o (N o (N o (S o (.cells (c (.map p2081) z)) o))))) o)) o)) o))
def tMs : Tr Pos := (.nodeN (.nodeN .leaf (.nodeN (.nodeN (.nodeN (.nodeN .leaf (.nodeN (.nodeN (.nodeN (.nodeN (.nodeN (.nodeS .leaf p2081 .leaf) .leaf) .leaf) .leaf) .leaf) .leaf)) .leaf) .leaf) .leaf)) (.nodeN (.nodeN .leaf (.nodeN (.nodeN .leaf (.nodeN (.nodeN .leaf (.nodeN .leaf (.nodeN .leaf (.nodeN .leaf (.nodeS .leaf p2004 .leaf))))) .leaf)) .leaf)) .leaf))
end
end Go.Ev.Z
end
section
set_option linter.all false
set_option maxRecDepth 100000
set_option maxHeartbeats 0
set_option linter.unusedVariables false
namespace Go.Ev.Z
open Go Go.Ev Go.Proofs
def Rq (p : Nat) : Prop := runN Tryz.prog (fun cl => cl) [41, 219, 286] 100000000 (kQ p).fn (kQ p).l (kQ p).r (kQ p).n (kQ p).endK True
def Rl (l : List Nat) : Prop := @List.rec Nat (fun _ => Prop) True (fun p _ ih => Rq p ∧ ih) l
theorem rl_all : ∀ {l : List Nat}, Rl l → ∀ p ∈ l, Rq p
  | [], _, p, hp => by cases hp
  | a :: l, h, p, hp => by
    rcases List.mem_cons.1 hp with rfl | hp
    · exact h.1
    · exact rl_all (l := l) h.2 p hp
theorem kQ_ok {p : Nat} (h : Rq p) : KnOk Tryz.prog (kQ p) := ⟨_, runN_ok (by kernel_rfl) TabOk.id [41, 219, 286] 100000000, h⟩
end Go.Ev.Z
end
