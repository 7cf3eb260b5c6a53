/-
  A symbolic frame and a symbolic memory over the model's own wp: no program in sight. What is proved: the rules for code, if they go through for a function's code, show that the function's call ends as its contract says. Lists of operations over a symbolic frame and memory: a region in the text's order, and a region that draws its order, by a plan that the kernel checks. No program in sight. Operations that only compute or read, over a symbolic frame and memory: what each yields. No program in sight. Operations that make or turn memory, and calls, over a symbolic frame and memory. No program in sight. Slices over a symbolic memory: rows that the call owns and appends to, slices that are known for good, lists that lie in them. No program in sight. Small rules over the symbolic frame and memory: tests inside a statement, where ways meet, lists of values of one cell, append of one element. No program in sight. Lists of things of several cells in rows and slices; what is known less or more; a variable that is known for good. No program in sight. No condition.
-/
import Derived.OrdersHeld
import Derived.Tactics
import Derived.Below
import Derived.IntWalk
import Derived.Laws.AppendOwn
import Derived.Lib.SliceRun
import Derived.Laws.StructEq
import Derived.Laws.Tables
set_option linter.all false
section
namespace Go.Sy
open Go

/-! Frames: what is known of the temporaries. -/
abbrev Fr := List (Nat × Value)

def get? : Fr → Nat → Option Value
  | [], _ => none
  | (k, v) :: r, t => if k = t then some v else get? r t

def ev (f : Fr) : Operand → Option Value
  | .tmp t => get? f t
  | .const v => some v
  | .global g => some (.pointer (some ⟨g, 0, none⟩))
  | .func n => some (.func (.func n) #[] #[])

structure Ok (N : Nat) (f : Fr) (a : Act) : Prop where
  defers : a.defers = []
  size : a.tmps.size = N
  at_ : ∀ t v, get? f t = some v → a.tmps.getD t undef = v

theorem Ok.ev {N : Nat} {f : Fr} {a : Act} (h : Ok N f a) {x : Operand} {v : Value} (hx : Sy.ev f x = some v) : a.eval x = v := by
  cases x with
  | tmp t => exact h.at_ t v hx
  | const c => simpa [Sy.ev, Act.eval] using hx
  | global g => simpa [Sy.ev, Act.eval] using hx
  | func n => simpa [Sy.ev, Act.eval] using hx

theorem Ok.put {N : Nat} {f : Fr} {a : Act} (h : Ok N f a) {d : Nat} (hlt : d < N) (v : Value) : Ok N ((d, v) :: f) (a.put (some d) v) := by
  refine ⟨h.defers, by simp [Act.put, h.size], fun t u hu => ?_⟩
  simp only [get?] at hu
  by_cases ht : d = t
  · subst ht
    rw [if_pos rfl] at hu
    injection hu with hu
    subst hu
    simp [Act.put, h.size, hlt]
  · rw [if_neg ht] at hu
    have := h.at_ t u hu
    simpa [Act.put, Array.getElem?_setIfInBounds_ne ht] using this

/-- f' says no more than f. -/
def Sub : Fr → Fr → Prop
  | [], _ => True
  | (t, v) :: r, f => get? f t = some v ∧ Sub r f

theorem Sub.get {g f : Fr} (h : Sub g f) : ∀ t v, get? g t = some v → get? f t = some v := by
  induction g with
  | nil => intro t v hv; simp [get?] at hv
  | cons p r ih =>
    obtain ⟨k, u⟩ := p
    intro t v hv
    simp only [get?] at hv
    by_cases hk : k = t
    · subst hk
      rw [if_pos rfl] at hv
      injection hv with hv
      subst hv
      exact h.1
    · rw [if_neg hk] at hv
      exact ih h.2 t v hv

theorem Ok.sub {N : Nat} {f g : Fr} {a : Act} (h : Ok N f a) (hs : Sub g f) : Ok N g a :=
  ⟨h.defers, h.size, fun t v hv => h.at_ t v (hs.get t v hv)⟩

/-! Memory: what is known for good (g), and what the call owns and may turn (s). -/
abbrev PH := Nat → Option Obj

/-- g' knows all that g knows. -/
def Le (g g' : PH) : Prop := ∀ b o, g b = some o → g' b = some o
theorem Le.refl (g : PH) : Le g g := fun _ _ h => h
theorem Le.trans {g g' g'' : PH} (h : Le g g') (k : Le g' g'') : Le g g'' := fun b o e => k b o (h b o e)

/-- One thing that is owned: its block, if it has one, and what that block holds. -/
structure Ent where
  blk : Option Nat
  holds : Option Obj → Prop
abbrev Own := List Ent

/-- A variable: block b holds o. -/
def pt (b : Nat) (o : Obj) : Ent := ⟨some b, fun x => x = some o⟩

def Apart (e e' : Ent) : Prop := ∀ b, e.blk = some b → e'.blk ≠ some b

structure At (E : World) (g : PH) (s : Own) (w : World) : Prop where
  os : w.os = E.os
  tape : w.tape = E.tape ∧ E.drawn ≤ w.drawn
  output : w.output = E.output
  known : ∀ b o, g b = some o → w.heap[b]? = some o
  own : ∀ e ∈ s, e.holds (e.blk.bind fun b => w.heap[b]?)
  fresh : ∀ e ∈ s, ∀ b, e.blk = some b → g b = none ∧ b < w.heap.size
  apart : s.Pairwise Apart

theorem At.drew {E : World} {g : PH} {s : Own} {w : World} (h : At E g s w) (n : Nat) (hn : w.drawn ≤ n) : At E g s { w with drawn := n } :=
  ⟨h.os, ⟨h.tape.1, Nat.le_trans h.tape.2 hn⟩, h.output, h.known, h.own, h.fresh, h.apart⟩

theorem At.lt {E : World} {g : PH} {s : Own} {w : World} (h : At E g s w) {b : Nat} {o : Obj} (hb : g b = some o) : b < w.heap.size := by
  have := h.known b o hb
  exact (Array.getElem?_eq_some_iff.1 this).1

theorem At.sublist {E : World} {g : PH} {s s' : Own} {w : World} (h : At E g s w) (hs : s'.Sublist s) : At E g s' w :=
  ⟨h.os, h.tape, h.output, h.known, fun e he => h.own e (hs.subset he), fun e he => h.fresh e (hs.subset he), h.apart.sublist hs⟩

theorem Apart.symm {e e' : Ent} (h : Apart e e') : Apart e' e := fun b hb he => h b he hb

theorem At.perm {E : World} {g : PH} {s s' : Own} {w : World} (h : At E g s w) (hs : s.Perm s') : At E g s' w :=
  ⟨h.os, h.tape, h.output, h.known, fun e he => h.own e (hs.mem_iff.2 he), fun e he => h.fresh e (hs.mem_iff.2 he), (hs.pairwise_iff (fun h => h.symm)).1 h.apart⟩

/-- What is known less. -/
theorem At.less {E : World} {g g' : PH} {s : Own} {w : World} (h : At E g' s w) (hl : Le g g') : At E g s w := by
  refine ⟨h.os, h.tape, h.output, fun b o hb => h.known b o (hl b o hb), h.own, fun e he b hb => ⟨?_, (h.fresh e he b hb).2⟩, h.apart⟩
  cases hg : g b with
  | none => rfl
  | some o => have := hl b o hg; rw [(h.fresh e he b hb).1] at this; cases this

def upd (g : PH) (b : Nat) (o : Obj) : PH := fun k => if k = b then some o else g k
theorem le_upd {g : PH} {b : Nat} {o : Obj} (h : g b = none) : Le g (upd g b o) := fun k x hk => by
  unfold upd
  split
  · rename_i e; subst e; rw [h] at hk; cases hk
  · exact hk
theorem upd_self (g : PH) (b : Nat) (o : Obj) : upd g b o b = some o := by simp [upd]

/-- What is owned is known for good from here on. -/
theorem At.freeze {E : World} {g : PH} {e : Ent} {s : Own} {w : World} (h : At E g (e :: s) w) {b : Nat} {o : Obj} (hb : e.blk = some b) (ho : w.heap[b]? = some o) :
    At E (upd g b o) s w ∧ Le g (upd g b o) := by
  have hf := h.fresh e (by simp) b hb
  refine ⟨⟨h.os, h.tape, h.output, fun k x hk => ?_, fun e' he => h.own e' (by simp [he]), fun e' he k hk => ⟨?_, (h.fresh e' (by simp [he]) k hk).2⟩, (List.pairwise_cons.1 h.apart).2⟩, le_upd hf.1⟩
  · unfold upd at hk
    split at hk
    · rename_i e1; subst e1; injection hk with hk; subst hk; exact ho
    · exact h.known k x hk
  · have hne : k ≠ b := fun e1 => by
      subst e1
      exact (List.pairwise_cons.1 h.apart).1 e' he k hb hk
    simp only [upd, hne, if_false]
    exact (h.fresh e' (by simp [he]) k hk).1

/-! The judgements: code, an exit, a list of operations, one operation. -/
section
variable (P : Program) (N : Nat) (E : World)

def SC (c : Code) (Q : Exit → Act → World → Prop) (f : Fr) (g : PH) (s : Own) : Prop := ∀ a w, Ok N f a → At E g s w → c.wp P Q a w
def ST (Q : Exit → Act → World → Prop) (e : Exit) (f : Fr) (g : PH) (s : Own) : Prop := ∀ a w, Ok N f a → At E g s w → Q e a w
def SL (ops : Array Oper) (Q : Exit → Act → World → Prop) (l : List Oper) (f : Fr) (g : PH) (s : Own) : Prop := ∀ a w, Ok N f a → At E g s w → wpList P ops Q l a w
/-- The operation only computes, and yields v, whatever lies in memory. -/
def SU (o : Oper) (f : Fr) (v : Value) : Prop := ∀ a w, Ok N f a → (execOp a.eval o).run P w = .ok (.value v) w
/-- The operation only computes or reads, and yields v. -/
def SQ (o : Oper) (f : Fr) (g : PH) (s : Own) (v : Value) : Prop := ∀ a w, Ok N f a → At E g s w → (execOp a.eval o).run P w = .ok (.value v) w
/-- The operation, carried out, ends in a value and a memory of which K speaks. -/
def SO (o : Oper) (f : Fr) (g : PH) (s : Own) (K : Value → PH → Own → Prop) : Prop :=
  ∀ a w, Ok N f a → At E g s w → ∀ (Q : Exit → Act → World → Prop) (next : Act → World → Prop),
    (∀ v g' s' w', K v g' s' → At E g' s' w' → next (a.put o.dst v) w') → o.wp P a w next Q

/-- What a call comes to. -/
def Ctr (n : FuncId) (args : Array Value) (g : PH) (s : Own) (R : Value → PH → Own → Prop) : Prop :=
  ∀ w, At E g s w → Calls P n args w fun e w' => ∃ v g' s', e = .returned v ∧ At E g' s' w' ∧ R v g' s'
end

def Post (E : World) (R : Value → PH → Own → Prop) : Ending → World → Prop := fun e w' => ∃ v g' s', e = .returned v ∧ At E g' s' w' ∧ R v g' s'

theorem SU.sq {P : Program} {N : Nat} {E : World} {o : Oper} {f : Fr} {g : PH} {s : Own} {v : Value} (h : SU P N o f v) : SQ P N E o f g s v := fun a w ha _ => h a w ha

theorem Ctr.mono {P : Program} {E : World} {n : FuncId} {args : Array Value} {g : PH} {s : Own} {R R' : Value → PH → Own → Prop} (h : Ctr P E n args g s R)
    (hr : ∀ v g' s', R v g' s' → R' v g' s') : Ctr P E n args g s R' :=
  fun w hw => (h w hw).mono fun _ _ ⟨v, g', s', he, ha, hR⟩ => ⟨v, g', s', he, ha, hr _ _ _ hR⟩

section
variable {P : Program} {N : Nat} {E : World} {Q : Exit → Act → World → Prop} {f f' : Fr} {g g' : PH} {s s' : Own}

theorem SC.sub {c : Code} (hs : Sub f' f) (h : SC P N E c Q f' g s) : SC P N E c Q f g s := fun a w ha hw => h a w (ha.sub hs) hw
theorem SC.drop {c : Code} (hs : s'.Sublist s) (h : SC P N E c Q f g s') : SC P N E c Q f g s := fun a w ha hw => h a w ha (hw.sublist hs)
theorem SC.perm {c : Code} (hs : s.Perm s') (h : SC P N E c Q f g s') : SC P N E c Q f g s := fun a w ha hw => h a w ha (hw.perm hs)
theorem ST.sub {e : Exit} (hs : Sub f' f) (h : ST N E Q e f' g s) : ST N E Q e f g s := fun a w ha hw => h a w (ha.sub hs) hw
theorem ST.drop {e : Exit} (hs : s'.Sublist s) (h : ST N E Q e f g s') : ST N E Q e f g s := fun a w ha hw => h a w ha (hw.sublist hs)
theorem ST.perm {e : Exit} (hs : s.Perm s') (h : ST N E Q e f g s') : ST N E Q e f g s := fun a w ha hw => h a w ha (hw.perm hs)

theorem SC.skip (h : ST N E Q .normal f g s) : SC P N E .skip Q f g s := fun a w ha hw => wp_skip (h a w ha hw)
theorem SC.ret (h : ST N E Q .ret f g s) : SC P N E .ret Q f g s := fun a w ha hw => wp_ret (h a w ha hw)
theorem SC.exit {id : Nat} (h : ST N E Q (.exit id) f g s) : SC P N E (.exit id) Q f g s := fun a w ha hw => wp_exit (h a w ha hw)
theorem SC.label {l : Nat} (h : ST N E Q .normal f g s) : SC P N E (.label l) Q f g s := fun a w ha hw => wp_label (h a w ha hw)
theorem SC.seq {x y : Code} (h : SC P N E x (Exit.then (y.wp P Q) Q) f g s) : SC P N E (.seq x y) Q f g s := fun a w ha hw => wp_seq (h a w ha hw)
theorem SC.block {id : Nat} {c : Code} (h : SC P N E c (Exit.inBlock id Q) f g s) : SC P N E (.block id c) Q f g s := fun a w ha hw => wp_block (h a w ha hw)
theorem SC.cond {c : Operand} {x y : Code} {t : Bool} (hc : ev f c = some (.bool t)) (h : SC P N E (if t then x else y) Q f g s) : SC P N E (.cond c x y) Q f g s :=
  fun a w ha hw => wp_cond (ha.ev hc) (h a w ha hw)
theorem SC.condT {c : Operand} {x y : Code} (hc : ev f c = some (.bool true)) (h : SC P N E x Q f g s) : SC P N E (.cond c x y) Q f g s := SC.cond hc h
theorem SC.condF {c : Operand} {x y : Code} (hc : ev f c = some (.bool false)) (h : SC P N E y Q f g s) : SC P N E (.cond c x y) Q f g s := SC.cond hc h
/-- A test that is not decided yet. -/
theorem SC.ifB {c : Operand} {x y : Code} {t : Bool} (hc : ev f c = some (.bool t)) (h1 : t = true → SC P N E x Q f g s) (h2 : t = false → SC P N E y Q f g s) :
    SC P N E (.cond c x y) Q f g s := by
  cases t
  · exact SC.condF hc (h2 rfl)
  · exact SC.condT hc (h1 rfl)
theorem SC.ifP {c : Operand} {x y : Code} {p : Prop} [Decidable p] (hc : ev f c = some (.bool (decide p))) (h1 : p → SC P N E x Q f g s) (h2 : ¬ p → SC P N E y Q f g s) :
    SC P N E (.cond c x y) Q f g s :=
  SC.ifB hc (fun h => h1 (of_decide_eq_true h)) (fun h => h2 (of_decide_eq_false h))

theorem ST.thenN {c : Code} (h : SC P N E c Q f g s) : ST N E (Exit.then (c.wp P Q) Q) .normal f g s := h
theorem ST.thenX {K : Act → World → Prop} {id : Nat} (h : ST N E Q (.exit id) f g s) : ST N E (Exit.then K Q) (.exit id) f g s := h
theorem ST.thenR {K : Act → World → Prop} (h : ST N E Q .ret f g s) : ST N E (Exit.then K Q) .ret f g s := h
theorem ST.blockN {id : Nat} (h : ST N E Q .normal f g s) : ST N E (Exit.inBlock id Q) .normal f g s := h
theorem ST.blockR {id : Nat} (h : ST N E Q .ret f g s) : ST N E (Exit.inBlock id Q) .ret f g s := h
theorem ST.blockX {id : Nat} (h : ST N E Q .normal f g s) : ST N E (Exit.inBlock id Q) (.exit id) f g s := fun a w ha hw => by
  simpa [Exit.inBlock] using h a w ha hw
theorem ST.blockO {id j : Nat} (hj : j ≠ id) (h : ST N E Q (.exit j) f g s) : ST N E (Exit.inBlock id Q) (.exit j) f g s := fun a w ha hw => by
  simpa [Exit.inBlock, hj] using h a w ha hw

/-- Where ways meet: what is known behind a piece of code, for some x. -/
def Mid {ι : Type} (N : Nat) (E : World) (F : ι → Fr) (G : ι → PH) (S : ι → Own) (J : ι → Prop) (a : Act) (w : World) : Prop := ∃ i, Ok N (F i) a ∧ At E (G i) (S i) w ∧ J i

/-- A piece of code, cut off: what it ends in, and from there on. -/
theorem SC.cut {ι : Type} {x y : Code} (F : ι → Fr) (G : ι → PH) (S : ι → Own) (J : ι → Prop) (h1 : SC P N E x (Exit.then (Mid N E F G S J) Q) f g s)
    (h2 : ∀ i, J i → SC P N E y Q (F i) (G i) (S i)) : SC P N E (.seq x y) Q f g s := by
  refine SC.seq fun a w ha hw => Code.wp_mono (fun e a' w' h => ?_) (h1 a w ha hw)
  cases e <;> first | exact h | (obtain ⟨i, h3, h4, h5⟩ := h; exact h2 i h5 a' w' h3 h4)

theorem ST.mid {ι : Type} {F : ι → Fr} {G : ι → PH} {S : ι → Own} {J : ι → Prop} (i : ι) (hf : Sub (F i) f) (hg : G i = g) (hs : S i = s) (hJ : J i) :
    ST N E (Exit.then (Mid N E F G S J) Q) .normal f g s := fun _ _ ha hw => ⟨i, ha.sub hf, by rw [hg, hs]; exact hw, hJ⟩

/-- What a round ends in. -/
def Again {ι : Type} (N : Nat) (E : World) (F : ι → Fr) (G : ι → PH) (S : ι → Own) (J : ι → Prop) (μ : ι → Nat) (i : ι) (a : Act) (w : World) : Prop :=
  ∃ j, Ok N (F j) a ∧ At E (G j) (S j) w ∧ J j ∧ μ j < μ i

theorem ST.again {ι : Type} {F : ι → Fr} {G : ι → PH} {S : ι → Own} {J : ι → Prop} {μ : ι → Nat} {i : ι} (j : ι) (hf : Sub (F j) f) (hg : G j = g) (hs : S j = s) (hJ : J j) (hμ : μ j < μ i) :
    ST N E (Exit.then (Again N E F G S J μ i) Q) .normal f g s := fun _ _ ha hw => ⟨j, ha.sub hf, by rw [hg, hs]; exact hw, hJ, hμ⟩

theorem SC.loop {ι : Type} {c : Code} (F : ι → Fr) (G : ι → PH) (S : ι → Own) (J : ι → Prop) (μ : ι → Nat) (i : ι) (hf : Sub (F i) f) (hg : G i = g) (hs : S i = s) (h0 : J i)
    (round : ∀ i, J i → SC P N E c (Exit.then (Again N E F G S J μ i) Q) (F i) (G i) (S i)) : SC P N E (.loop c) Q f g s := by
  intro a w ha hw
  have key : ∀ n, ∀ (i : ι) (a : Act) (w : World), μ i = n → Ok N (F i) a → At E (G i) (S i) w → J i → ∀ (b : Frame) (k : List Item) (cs : List Frame),
      ∃ e a' w', Q e a' w' ∧ Arrives P (lone (b.at a (.code c :: .inLoop c :: k)) cs w) b k cs e a' w' := by
    intro n
    induction n using Nat.strongRecOn with
    | _ n ih =>
      intro i a w hn ha hI hJ b k cs
      obtain ⟨e, a₁, w₁, hq, harr⟩ := round i hJ a w ha hI b (.inLoop c :: k) cs
      cases e with
      | normal =>
        obtain ⟨j, hok, hI₁, hJ₁, hlt⟩ := hq
        obtain ⟨e₂, a₂, w₂, hq₂, harr₂⟩ := ih (μ j) (hn ▸ hlt) j a₁ w₁ rfl hok hI₁ hJ₁ b k cs
        exact ⟨e₂, a₂, w₂, hq₂, .of_steps (Steps.trans harr (.one step_inLoop)) harr₂⟩
      | exit id => exact ⟨_, a₁, w₁, hq, .pass (x := .inLoop c) rfl (fun _ _ => .inl (by simp)) harr⟩
      | goto l => exact ⟨_, a₁, w₁, hq, .pass (x := .inLoop c) rfl (fun _ _ => .inl (by simp)) harr⟩
      | ret => exact ⟨_, a₁, w₁, hq, .pass (x := .inLoop c) rfl (fun _ _ => .inl (by simp)) harr⟩
      | panic ch => exact ⟨_, a₁, w₁, hq, .pass (x := .inLoop c) rfl (fun _ _ => .inl (by simp)) harr⟩
      | outgrown => exact ⟨_, a₁, w₁, hq, .pass (x := .inLoop c) rfl (fun _ _ => .inl (by simp)) harr⟩
  intro b k cs
  obtain ⟨e, a', w', hq, harr⟩ := key _ i a w rfl (ha.sub hf) (by rw [hg, hs]; exact hw) h0 b k cs
  exact ⟨e, a', w', hq, .of_steps (.one step_loop) harr⟩
end

/-! The entry and the end of a call. -/
def entryFr : Nat → List Value → Fr
  | _, [] => []
  | k, v :: r => (k, v) :: entryFr (k + 1) r

theorem get?_entryFr : ∀ (l : List Value) (k t : Nat) (v : Value), get? (entryFr k l) t = some v → k ≤ t ∧ l[t - k]? = some v
  | [], _, _, _, h => by simp [entryFr, get?] at h
  | u :: r, k, t, v, h => by
    simp only [entryFr, get?] at h
    by_cases hk : k = t
    · subst hk
      rw [if_pos rfl] at h
      exact ⟨Nat.le_refl _, by simpa using h⟩
    · rw [if_neg hk] at h
      obtain ⟨h1, h2⟩ := get?_entryFr r (k + 1) t v h
      refine ⟨by omega, ?_⟩
      have : t - k = (t - (k + 1)) + 1 := by omega
      rw [this]
      simpa using h2

theorem Ctr.of {P : Program} {n : FuncId} {fn : Func} {c : Code} {N : Nat} {args : List Value} {E : World} {g : PH} {s : Own} {R : Value → PH → Own → Prop}
    (hf : P.funcs[n]? = some fn) (hb : fn.body = some c) (hN : fn.ntmps = N) (hle : args.length ≤ N)
    (h : SC P N E c (bodyPost P fn (Post E R)) (entryFr 0 args) g s) : Ctr P E n args.toArray g s R := by
  intro w hw
  refine calls_of_wp hf hb (h _ w ⟨rfl, ?_, fun t v hv => ?_⟩ hw)
  · simp [hN]; omega
  · obtain ⟨_, h2⟩ := get?_entryFr args 0 t v hv
    have hlt : t < args.length := (List.getElem?_eq_some_iff.1 (by simpa using h2)).1
    simp only [Nat.sub_zero] at h2
    obtain ⟨_, h3⟩ := List.getElem?_eq_some_iff.1 h2
    simp [Array.getElem?_append, hlt, h3]

section
variable {P : Program} {N : Nat} {E : World} {fn : Func} {R : Value → PH → Own → Prop} {e : Exit} {f : Fr} {g : PH} {s : Own}

theorem ST.returnsV {v : Value} (he : e = .ret ∨ e = .normal)
    (hr : ∀ (tmps : Array Value) (w : World), (∀ t v, get? f t = some v → tmps.getD t undef = v) → At E g s w → (results fn tmps).run P w = .ok v w) (hR : R v g s) :
    ST N E (bodyPost P fn (Post E R)) e f g s := by
  intro a w ha hw
  have h1 := hr a.tmps w ha.at_ hw
  rcases he with rfl | rfl
  · exact ⟨ha.defers, v, h1, v, g, s, rfl, hw, hR⟩
  · exact ⟨ha.defers, v, h1, v, g, s, rfl, hw, hR⟩

theorem ST.ret1 {t : Nat} {v : Value} (he : e = .ret ∨ e = .normal) (hr : fn.results = #[.tmp t]) (hv : get? f t = some v) (hR : R v g s) : ST N E (bodyPost P fn (Post E R)) e f g s :=
  ST.returnsV he (fun tmps w ha _ => by rw [results_tmp hr, ha t v hv]) hR
theorem ST.ret0 (he : e = .ret ∨ e = .normal) (hr : fn.results = #[]) (hR : R (.tuple #[]) g s) : ST N E (bodyPost P fn (Post E R)) e f g s :=
  ST.returnsV he (fun _ _ _ _ => results_none hr _ _ _) hR
theorem ST.ret2 {t u : Nat} {v x : Value} (he : e = .ret ∨ e = .normal) (hr : fn.results = #[.tmp t, .tmp u]) (hv : get? f t = some v) (hx : get? f u = some x) (hR : R (.tuple #[v, x]) g s) :
    ST N E (bodyPost P fn (Post E R)) e f g s :=
  ST.returnsV he (fun tmps w ha _ => by rw [results_tmp2 hr, ha t v hv, ha u x hx]) hR
end

end Go.Sy
end
section
namespace Go.Sy
open Go

/-- The operation's guard, where the frame decides it. -/
def Gd (N : Nat) (ops : Array Oper) (f : Fr) (o : Oper) (t : Bool) : Prop := ∀ a, Ok N f a → Region.wanted o (yielded ops a.tmps) = t

section
variable {N : Nat} {ops : Array Oper} {f : Fr} {o : Oper}
theorem Gd.none (h : o.guard = none) : Gd N ops f o true := fun _ _ => by simp [Region.wanted, h]
theorem Gd.on {j t : Nat} {b c : Bool} (h : o.guard = some (j, b)) (hj : ((ops[j]?).bind fun o : Oper => o.dst) = some t) (hv : get? f t = some (.bool c)) (ht : t < N) : Gd N ops f o (c == b) := by
  intro a ha
  have hsz : t < a.tmps.size := by rw [ha.size]; exact ht
  have hav := ha.at_ t _ hv
  have hav' : a.tmps[t]? = some (.bool c) := by
    rw [Array.getElem?_eq_getElem hsz]
    simpa [hsz] using hav
  simp only [Region.wanted, h]
  unfold yielded
  simp only [hj, Option.bind_some, hav']
  cases c <;> cases b <;> rfl
theorem Gd.onT {j t : Nat} {b : Bool} (h : o.guard = some (j, b)) (hj : ((ops[j]?).bind fun o : Oper => o.dst) = some t) (hv : get? f t = some (.bool b)) (ht : t < N) : Gd N ops f o true := by
  have := Gd.on (N := N) h hj hv ht
  simpa using this
theorem Gd.onF {j t : Nat} {b : Bool} (h : o.guard = some (j, b)) (hj : ((ops[j]?).bind fun o : Oper => o.dst) = some t) (hv : get? f t = some (.bool (!b))) (ht : t < N) : Gd N ops f o false := by
  have := Gd.on (N := N) h hj hv ht
  cases b <;> simpa using this
theorem Gd.off {j t : Nat} {b : Bool} (h : o.guard = some (j, b)) (hj : ((ops[j]?).bind fun o : Oper => o.dst) = some t) (hv : get? f t = some undef) (ht : t < N) : Gd N ops f o false := by
  intro a ha
  have hsz : t < a.tmps.size := by rw [ha.size]; exact ht
  have hav := ha.at_ t _ hv
  have hav' : a.tmps[t]? = some undef := by
    rw [Array.getElem?_eq_getElem hsz]
    simpa [hsz] using hav
  simp only [Region.wanted, h]
  unfold yielded
  simp only [hj, Option.bind_some, hav']
  cases b <;> rfl
end

section
variable {P : Program} {N : Nat} {E : World} {ops : Array Oper} {Q : Exit → Act → World → Prop} {f f' : Fr} {g : PH} {s s' : Own} {rest : List Oper}

theorem SL.sub {l : List Oper} (hs : Sub f' f) (h : SL P N E ops Q l f' g s) : SL P N E ops Q l f g s := fun a w ha hw => h a w (ha.sub hs) hw
theorem SL.drop {l : List Oper} (hs : s'.Sublist s) (h : SL P N E ops Q l f g s') : SL P N E ops Q l f g s := fun a w ha hw => h a w ha (hw.sublist hs)
theorem SL.perm {l : List Oper} (hs : s.Perm s') (h : SL P N E ops Q l f g s') : SL P N E ops Q l f g s := fun a w ha hw => h a w ha (hw.perm hs)

/-- A region in the text's order. -/
theorem SC.region {id : Nat} {l : List Oper} (h : SL P N E l.toArray Q l f g s) : SC P N E (.region id l.toArray false) Q f g s := fun a w ha hw => wp_region_lit (h a w ha hw)

theorem SL.nil (h : ST N E Q .normal f g s) : SL P N E ops Q [] f g s := fun a w ha hw => wpList_nil (h a w ha hw)

/-- One that only computes or reads. -/
theorem SL.gq {d : Nat} {op : Op} {ty : TypeId} {pos : String} {af : Array Edge} {gd : Option (Nat × Bool)} {v : Value} (hw : Gd N ops f ⟨some d, op, ty, pos, af, gd⟩ true)
    (hq : SQ P N E ⟨some d, op, ty, pos, af, gd⟩ f g s v) (hd : d < N) (h : SL P N E ops Q rest ((d, v) :: f) g s) : SL P N E ops Q (⟨some d, op, ty, pos, af, gd⟩ :: rest) f g s := by
  intro a w ha hm
  unfold wpList
  rw [if_pos (hw a ha)]
  refine .inl ?_
  unfold Oper.wp
  rw [hq a w ha hm]
  exact h _ w (ha.put hd v) hm
theorem SL.q {d : Nat} {op : Op} {ty : TypeId} {pos : String} {af : Array Edge} {v : Value}
    (hq : SQ P N E ⟨some d, op, ty, pos, af, none⟩ f g s v) (hd : d < N) (h : SL P N E ops Q rest ((d, v) :: f) g s) : SL P N E ops Q (⟨some d, op, ty, pos, af, none⟩ :: rest) f g s :=
  SL.gq (Gd.none rfl) hq hd h
/-- One that only computes. -/
theorem SL.gu {d : Nat} {op : Op} {ty : TypeId} {pos : String} {af : Array Edge} {gd : Option (Nat × Bool)} {v : Value} (hw : Gd N ops f ⟨some d, op, ty, pos, af, gd⟩ true)
    (hq : SU P N ⟨some d, op, ty, pos, af, gd⟩ f v) (hd : d < N) (h : SL P N E ops Q rest ((d, v) :: f) g s) : SL P N E ops Q (⟨some d, op, ty, pos, af, gd⟩ :: rest) f g s := SL.gq hw hq.sq hd h
theorem SL.u {d : Nat} {op : Op} {ty : TypeId} {pos : String} {af : Array Edge} {v : Value}
    (hq : SU P N ⟨some d, op, ty, pos, af, none⟩ f v) (hd : d < N) (h : SL P N E ops Q rest ((d, v) :: f) g s) : SL P N E ops Q (⟨some d, op, ty, pos, af, none⟩ :: rest) f g s := SL.q hq.sq hd h
/-- One that turns memory, and yields a value. -/
theorem SL.go {d : Nat} {op : Op} {ty : TypeId} {pos : String} {af : Array Edge} {gd : Option (Nat × Bool)} {K : Value → PH → Own → Prop} (hw : Gd N ops f ⟨some d, op, ty, pos, af, gd⟩ true)
    (ho : SO P N E ⟨some d, op, ty, pos, af, gd⟩ f g s K) (hd : d < N) (h : ∀ v g' s', K v g' s' → SL P N E ops Q rest ((d, v) :: f) g' s') : SL P N E ops Q (⟨some d, op, ty, pos, af, gd⟩ :: rest) f g s := by
  intro a w ha hm
  unfold wpList
  rw [if_pos (hw a ha)]
  exact .inl (ho a w ha hm Q _ fun v g' s' w' hK hm' => h v g' s' hK _ w' (ha.put hd v) hm')
theorem SL.o {d : Nat} {op : Op} {ty : TypeId} {pos : String} {af : Array Edge} {K : Value → PH → Own → Prop}
    (ho : SO P N E ⟨some d, op, ty, pos, af, none⟩ f g s K) (hd : d < N) (h : ∀ v g' s', K v g' s' → SL P N E ops Q rest ((d, v) :: f) g' s') : SL P N E ops Q (⟨some d, op, ty, pos, af, none⟩ :: rest) f g s :=
  SL.go (Gd.none rfl) ho hd h
/-- One that turns memory, and yields none. -/
theorem SL.gon {op : Op} {ty : TypeId} {pos : String} {af : Array Edge} {gd : Option (Nat × Bool)} {K : Value → PH → Own → Prop} (hw : Gd N ops f ⟨none, op, ty, pos, af, gd⟩ true)
    (ho : SO P N E ⟨none, op, ty, pos, af, gd⟩ f g s K) (h : ∀ v g' s', K v g' s' → SL P N E ops Q rest f g' s') : SL P N E ops Q (⟨none, op, ty, pos, af, gd⟩ :: rest) f g s := by
  intro a w ha hm
  unfold wpList
  rw [if_pos (hw a ha)]
  exact .inl (ho a w ha hm Q _ fun v g' s' w' hK hm' => h v g' s' hK _ w' ha hm')
theorem SL.on {op : Op} {ty : TypeId} {pos : String} {af : Array Edge} {K : Value → PH → Own → Prop}
    (ho : SO P N E ⟨none, op, ty, pos, af, none⟩ f g s K) (h : ∀ v g' s', K v g' s' → SL P N E ops Q rest f g' s') : SL P N E ops Q (⟨none, op, ty, pos, af, none⟩ :: rest) f g s :=
  SL.gon (Gd.none rfl) ho h
/-- One that is not carried out. -/
theorem SL.off {d : Nat} {op : Op} {ty : TypeId} {pos : String} {af : Array Edge} {gd : Option (Nat × Bool)} (hw : Gd N ops f ⟨some d, op, ty, pos, af, gd⟩ false)
    (hd : d < N) (h : SL P N E ops Q rest ((d, undef) :: f) g s) : SL P N E ops Q (⟨some d, op, ty, pos, af, gd⟩ :: rest) f g s := by
  intro a w ha hm
  unfold wpList
  rw [if_neg (by rw [hw a ha]; simp)]
  exact h _ w (ha.put hd undef) hm
theorem SL.offn {op : Op} {ty : TypeId} {pos : String} {af : Array Edge} {gd : Option (Nat × Bool)} (hw : Gd N ops f ⟨none, op, ty, pos, af, gd⟩ false)
    (h : SL P N E ops Q rest f g s) : SL P N E ops Q (⟨none, op, ty, pos, af, gd⟩ :: rest) f g s := by
  intro a w ha hm
  unfold wpList
  rw [if_neg (by rw [hw a ha]; simp)]
  exact h _ w ha hm
theorem SQ.so {o : Oper} {v : Value} (h : SQ P N E o f g s v) : SO P N E o f g s fun v' g' s' => v' = v ∧ g' = g ∧ s' = s := by
  intro a w ha hm Q next hn
  unfold Oper.wp
  rw [h a w ha hm]
  exact hn v g s w ⟨rfl, rfl, rfl⟩ hm
end

/-! A region that draws its order. -/

/-- A panic does not look at the temporaries. -/
class Quiet (Q : Exit → Act → World → Prop) : Prop where
  out : ∀ c a a' w, a.defers = a'.defers → Q (.panic c) a w → Q (.panic c) a' w
instance quiet_then {K : Act → World → Prop} {Q : Exit → Act → World → Prop} [h : Quiet Q] : Quiet (Exit.then K Q) := ⟨fun c a a' w hd hq => h.out c a a' w hd hq⟩
instance quiet_block {id : Nat} {Q : Exit → Act → World → Prop} [h : Quiet Q] : Quiet (Exit.inBlock id Q) := ⟨fun c a a' w hd hq => h.out c a a' w hd hq⟩
instance quiet_body {P : Program} {fn : Func} {R : Ending → World → Prop} : Quiet (bodyPost P fn R) := ⟨fun _ _ _ _ hd hq => ⟨hd ▸ hq.1, hq.2⟩⟩

/-- Has one of the last operations come up? -/
def began (tail : List Nat) (L : Array Bool) : Bool := tail.any fun j => L.getD j false

def wpAnyT (P : Program) (ops : Array Oper) (Q : Exit → Act → World → Prop) (S : World → Prop) (tail : List Nat) : Nat → Array Bool → Act → World → Prop
  | 0, L, a, w => Region.ready .any ops L = [] ∧ Q .normal a w
  | n + 1, L, a, w => (Region.ready .any ops L = [] → Q .normal a w) ∧
    ∀ i ∈ Region.ready .any ops L, wpOp P ops Q i (fun a' w' => (began tail (L.setIfInBounds i true) = false → S w') ∧ wpAnyT P ops Q S tail n (L.setIfInBounds i true) a' w') a w

section
variable {P : Program} {ops : Array Oper} {Q : Exit → Act → World → Prop} {S : World → Prop} {tail : List Nat}

theorem wpAny_of_T : ∀ (n : Nat) (L : Array Bool) (a : Act) (w : World), wpAnyT P ops Q S tail n L a w → wpAny P .any ops Q n L a w
  | 0, _, _, _, h => h
  | n + 1, _, _, _, h => ⟨h.1, fun i hi => wpOp_mono (fun a' w' h' => wpAny_of_T n _ a' w' h'.2) (h.2 i hi)⟩

theorem began_set {L : Array Bool} {i : Nat} (hi : i ∉ tail) : began tail (L.setIfInBounds i true) = began tail L := by
  unfold began
  induction tail with
  | nil => rfl
  | cons j t ih =>
    simp only [List.mem_cons, not_or] at hi
    simp only [List.any_cons, getD_set_ne false hi.1, ih hi.2]

/-- What has come up has come up behind all that it waits for. -/
def Closed (ops : Array Oper) (L : Array Bool) : Prop := ∀ (q : Nat) (oq : Oper), ops[q]? = some oq → L.getD q false = true → ∀ e ∈ oq.after, Region.binds .any e = true → L.getD e.on false = true
theorem closed_set {L : Array Bool} {i : Nat} (h : Closed ops L) (hi : i ∈ Region.ready .any ops L) : Closed ops (L.setIfInBounds i true) := by
  intro q oq hq hl e he hb
  by_cases hqi : i = q
  · subst hqi
    obtain ⟨_, o, ho, hall⟩ := mem_ready.1 hi
    rw [ho] at hq
    injection hq with hq
    subst hq
    exact getD_set_true (hall e he hb)
  · rw [getD_set_ne false hqi] at hl
    exact getD_set_true (h q oq hq hl e he hb)
theorem closed_none (n : Nat) : Closed ops (Array.replicate n false) := by
  intro q oq _ hl
  exfalso
  rcases Nat.lt_or_ge q n with h | h
  · simp [h] at hl
  · simp [Nat.not_lt.2 h] at hl
/-- Number j waits for number i. -/
def waits (ops : Array Oper) : Nat → Nat → Nat → Bool
  | 0, _, _ => false
  | n + 1, j, i => match ops[j]? with
    | some oj => oj.after.any fun e => Region.binds .any e && (e.on == i || waits ops n e.on i)
    | none => false
theorem waits_spec {L : Array Bool} {i : Nat} (hc : Closed ops L) (hi : L.getD i false = false) : ∀ (n j : Nat), waits ops n j i = true → j ∉ Region.ready .any ops L ∧ L.getD j false = false
  | 0, j, h => by simp [waits] at h
  | n + 1, j, h => by
    unfold waits at h
    split at h
    · rename_i oj hoj
      obtain ⟨e, he, hb⟩ := Array.any_eq_true'.1 h
      simp only [Bool.and_eq_true, Bool.or_eq_true, beq_iff_eq] at hb
      have hpre : L.getD e.on false = false := by
        rcases hb.2 with h1 | h1
        · rw [h1]; exact hi
        · exact (waits_spec hc hi n e.on h1).2
      refine ⟨fun hr => ?_, ?_⟩
      · obtain ⟨_, o, ho, hall⟩ := mem_ready.1 hr
        rw [ho] at hoj
        injection hoj with hoj
        subst hoj
        have := hall e he hb.1
        rw [hpre] at this
        cases this
      · cases hl : L.getD j false with
        | false => rfl
        | true =>
          have := hc j oj hoj hl e he hb.1
          rw [hpre] at this
          cases this
    · cases h

theorem wpAnyT_first {i : Nat} {oi : Oper} {v : Value} (hi : ops[i]? = some oi) (hsel : ∀ (j : Nat) (o : Oper) cs b, ops[j]? = some o → o.op ≠ .select cs b)
    (hQ : ∀ c a w, Q (.panic c) (a.put oi.dst v) w → Q (.panic c) a w) (hit : i ∉ tail)
    (htail : ∀ j ∈ tail, ∃ n, waits ops n j i = true) :
    ∀ (n : Nat) (L : Array Bool) (a : Act) (w : World), Closed ops L →
      (∀ j oj, ops[j]? = some oj → j ≠ i → L.getD j true = false → (∀ e ∈ oj.after, Region.binds .any e = true → e.on ≠ i) → oi.apart ops oj = true) →
      i ∈ Region.ready .any ops L → YieldsIf P ops S oi v a → began tail L = false → S w →
      wpAnyT P ops Q S tail n (L.setIfInBounds i true) (a.put oi.dst v) w → wpAnyT P ops Q S tail (n + 1) L a w := by
  intro n
  induction n with
  | zero =>
    intro L a w _ _ hr hy hb hS H
    refine ⟨fun h => (by rw [h] at hr; cases hr), fun j hj => ?_⟩
    by_cases hji : j = i
    · subst hji; exact hy.wpOp hi hS ⟨fun _ => hS, H⟩
    · have := ready_mono hj hji
      rw [H.1] at this
      cases this
  | succ n ih =>
    intro L a w hcl hfree hr hy hb hS H
    refine ⟨fun h => (by rw [h] at hr; cases hr), fun j hj => ?_⟩
    by_cases hji : j = i
    · subst hji; exact hy.wpOp hi hS ⟨fun _ => hS, H⟩
    · have h1 := H.2 j (ready_mono hj hji)
      obtain ⟨hjun, oj, hoj, hall⟩ := mem_ready.1 hj
      have hnot : ∀ e ∈ oj.after, Region.binds .any e = true → e.on ≠ i := fun e he hb heq => by
        have h1 := hall e he hb
        have h0 := (mem_ready.1 hr).1
        rw [heq] at h1
        rcases Nat.lt_or_ge i L.size with h' | h'
        · simp [h'] at h0 h1; rw [h0] at h1; cases h1
        · simp [Array.getElem?_eq_none h'] at h1
      have hiun : L.getD i false = false := by
        have h0 := (mem_ready.1 hr).1
        rcases Nat.lt_or_ge i L.size with h' | h'
        · simpa [h'] using h0
        · simp [Array.getElem?_eq_none h'] at h0
      have hjt : j ∉ tail := fun hjt => by
        obtain ⟨n', hw'⟩ := htail j hjt
        exact (waits_spec hcl hiun n' j hw').1 hj
      have h2 := wpOp_putIf hoj (hfree j oj hoj hji hjun hnot) (fun cs b => hsel i oi cs b hi) (fun cs b => hsel j oj cs b hoj) hQ hy h1
      have hfree' : ∀ k ok, ops[k]? = some ok → k ≠ i → (L.setIfInBounds j true).getD k true = false →
          (∀ e ∈ ok.after, Region.binds .any e = true → e.on ≠ i) → oi.apart ops ok = true := fun k ok hk hki hun hno => by
        refine hfree k ok hk hki ?_ hno
        by_cases hjk : j = k
        · subst hjk; exact hjun
        · rw [getD_set_ne true hjk] at hun; exact hun
      have hbj : began tail (L.setIfInBounds j true) = false := by rw [began_set hjt]; exact hb
      refine wpOp_mono (fun a' w' h3 => ?_) h2
      have hS' : S w' := h3.2.1 (by rw [began_set hjt, began_set hit]; exact hb)
      refine ⟨fun _ => hS', ih (L.setIfInBounds j true) a' w' (closed_set hcl hj) hfree' (ready_mono hr (Ne.symm hji)) h3.1 hbj hS' ?_⟩
      rw [Array.setIfInBounds_comm _ _ hji]
      exact h3.2.2

theorem wpAnyT_pure {i : Nat} {oi : Oper} {v : Value} (hi : ops[i]? = some oi) (hsel : ∀ (j : Nat) (o : Oper) cs b, ops[j]? = some o → o.op ≠ .select cs b)
    (hQ : ∀ c a w, Q (.panic c) (a.put oi.dst v) w → Q (.panic c) a w) (hit : i ∉ tail) :
    ∀ (n : Nat) (L : Array Bool) (a : Act) (w : World),
      (∀ j oj, ops[j]? = some oj → j ≠ i → L.getD j true = false → (∀ e ∈ oj.after, Region.binds .any e = true → e.on ≠ i) → oi.apart ops oj = true) →
      i ∈ Region.ready .any ops L → Yields P ops oi v a → (began tail L = false → S w) →
      wpAnyT P ops Q S tail n (L.setIfInBounds i true) (a.put oi.dst v) w → wpAnyT P ops Q S tail (n + 1) L a w := by
  intro n
  induction n with
  | zero =>
    intro L a w _ hr hy hS H
    refine ⟨fun h => (by rw [h] at hr; cases hr), fun j hj => ?_⟩
    by_cases hji : j = i
    · subst hji; exact hy.wpOp hi ⟨fun hb => hS (by rwa [began_set hit] at hb), H⟩
    · have := ready_mono hj hji
      rw [H.1] at this
      cases this
  | succ n ih =>
    intro L a w hfree hr hy hS H
    refine ⟨fun h => (by rw [h] at hr; cases hr), fun j hj => ?_⟩
    by_cases hji : j = i
    · subst hji; exact hy.wpOp hi ⟨fun hb => hS (by rwa [began_set hit] at hb), H⟩
    · have h1 := H.2 j (ready_mono hj hji)
      obtain ⟨hjun, oj, hoj, hall⟩ := mem_ready.1 hj
      have hnot : ∀ e ∈ oj.after, Region.binds .any e = true → e.on ≠ i := fun e he hb heq => by
        have h1 := hall e he hb
        have h0 := (mem_ready.1 hr).1
        rw [heq] at h1
        rcases Nat.lt_or_ge i L.size with h' | h'
        · simp [h'] at h0 h1; rw [h0] at h1; cases h1
        · simp [Array.getElem?_eq_none h'] at h1
      have h2 := wpOp_put hoj (hfree j oj hoj hji hjun hnot) (fun cs b => hsel i oi cs b hi) (fun cs b => hsel j oj cs b hoj) hQ hy h1
      have hfree' : ∀ k ok, ops[k]? = some ok → k ≠ i → (L.setIfInBounds j true).getD k true = false →
          (∀ e ∈ ok.after, Region.binds .any e = true → e.on ≠ i) → oi.apart ops ok = true := fun k ok hk hki hun hno => by
        refine hfree k ok hk hki ?_ hno
        by_cases hjk : j = k
        · subst hjk; exact hjun
        · rw [getD_set_ne true hjk] at hun; exact hun
      refine wpOp_mono (fun a' w' h3 => ?_) h2
      have hS' : began tail (L.setIfInBounds j true) = false → S w' := fun hb => h3.2.1 (by
        have e1 : began tail ((L.setIfInBounds i true).setIfInBounds j true) = began tail (L.setIfInBounds j true) := by
          rw [Array.setIfInBounds_comm _ _ (Ne.symm hji), began_set hit]
        rw [e1]; exact hb)
      refine ⟨hS', ih (L.setIfInBounds j true) a' w' hfree' (ready_mono hr (Ne.symm hji)) h3.1 hS' ?_⟩
      rw [Array.setIfInBounds_comm _ _ hji]
      exact h3.2.2

/-- Does every operation of the tail wait for number i? -/
def tailWaits (ops : Array Oper) (tail : List Nat) (i : Nat) : Bool := tail.all fun j => waits ops 8 j i
theorem tailWaits_spec {i : Nat} (h : tailWaits ops tail i = true) : ∀ j ∈ tail, ∃ n, waits ops n j i = true := by
  intro j hj
  unfold tailWaits at h
  rw [List.all_eq_true] at h
  exact ⟨8, h j hj⟩

/-- A plan: the operations' numbers; 0: the only one that may come up; 1: it reads, and is taken first; 2: it only computes, and is taken first. -/
def planOk (ops : Array Oper) (tail : List Nat) : List (Nat × Nat) → Array Bool → Bool
  | [], L => (Region.ready .any ops L).isEmpty
  | (i, 2) :: r, L => (Region.ready .any ops L).contains i && Region.free .any ops L i && !tail.contains i && planOk ops tail r (L.setIfInBounds i true)
  | (i, 1) :: r, L => (Region.ready .any ops L).contains i && Region.free .any ops L i && tailWaits ops tail i && !tail.contains i && !began tail L && planOk ops tail r (L.setIfInBounds i true)
  | (i, _) :: r, L => (Region.ready .any ops L == [i]) && planOk ops tail r (L.setIfInBounds i true)
def drawOk (ops : Array Oper) (tail : List Nat) (plan : List (Nat × Nat)) : Bool :=
  Region.noSelect ops && (plan.length == ops.size) && planOk ops tail plan (Array.replicate ops.size false)
end

section
variable (P : Program) (N : Nat) (E : World) (ops : Array Oper) (Q : Exit → Act → World → Prop) (g0 : PH) (s0 : Own) (tail : List Nat)
def SP (plan : List (Nat × Nat)) (f : Fr) (g : PH) (s : Own) : Prop :=
  ∀ L a w, Region.noSelect ops = true → Closed ops L → planOk ops tail plan L = true → Ok N f a → At E g s w → (began tail L = false → At E g0 s0 w) → wpAnyT P ops Q (At E g0 s0) tail plan.length L a w
end

section
variable {P : Program} {N : Nat} {E : World} {ops : Array Oper} {Q : Exit → Act → World → Prop} {g0 : PH} {s0 : Own} {tail : List Nat} {f f' : Fr} {g : PH} {s s' : Own} {plan : List (Nat × Nat)}

theorem SC.draw {id : Nat} (tail : List Nat) (plan : List (Nat × Nat)) (hm : P.follows .mixedOrders = true) (hok : drawOk ops tail plan = true)
    (h : SP P N E ops Q g s tail plan f g s) : SC P N E (.region id ops true) Q f g s := by
  intro a w ha hw
  unfold drawOk at hok
  simp only [Bool.and_eq_true, beq_iff_eq] at hok
  refine wp_region_any hm (wpAny_of_T _ _ _ _ (S := At E g s) (tail := tail) ?_)
  have := h (Array.replicate ops.size false) a { w with drawn := w.drawn + 1 } hok.1.1 (closed_none _) hok.2 ha (hw.drew _ (Nat.le_succ _)) (fun _ => hw.drew _ (Nat.le_succ _))
  rw [hok.1.2] at this
  exact this

theorem SP.sub (hs : Sub f' f) (h : SP P N E ops Q g0 s0 tail plan f' g s) : SP P N E ops Q g0 s0 tail plan f g s := fun L a w h1 hcl h2 ha hw hb => h L a w h1 hcl h2 (ha.sub hs) hw hb
theorem SP.drop (hs : s'.Sublist s) (h : SP P N E ops Q g0 s0 tail plan f g s') : SP P N E ops Q g0 s0 tail plan f g s := fun L a w h1 hcl h2 ha hw hb => h L a w h1 hcl h2 ha (hw.sublist hs) hb
theorem SP.perm (hs : s.Perm s') (h : SP P N E ops Q g0 s0 tail plan f g s') : SP P N E ops Q g0 s0 tail plan f g s := fun L a w h1 hcl h2 ha hw hb => h L a w h1 hcl h2 ha (hw.perm hs) hb

theorem SP.nil (h : ST N E Q .normal f g s) : SP P N E ops Q g0 s0 tail [] f g s := by
  intro L a w _ _ hp ha hw _
  simp only [planOk, List.isEmpty_iff] at hp
  exact ⟨hp, h a w ha hw⟩

theorem putSome_defers (a : Act) (d : Nat) (v : Value) : (a.put (some d) v).defers = a.defers := rfl

theorem SP.gq [hQ : Quiet Q] {i d : Nat} {op : Op} {ty : TypeId} {pos : String} {af : Array Edge} {gd : Option (Nat × Bool)} {v : Value} (hi : ops[i]? = some ⟨some d, op, ty, pos, af, gd⟩)
    (hg : Gd N ops f ⟨some d, op, ty, pos, af, gd⟩ true) (hq : SQ P N E ⟨some d, op, ty, pos, af, gd⟩ f g0 s0 v) (hd : d < N)
    (h : SP P N E ops Q g0 s0 tail plan ((d, v) :: f) g s) : SP P N E ops Q g0 s0 tail ((i, 1) :: plan) f g s := by
  intro L a w hs hcl hp ha hw hb
  simp only [planOk, Bool.and_eq_true, Bool.not_eq_true'] at hp
  obtain ⟨⟨⟨⟨⟨h1, h2⟩, h3⟩, h4⟩, h5⟩, h6⟩ := hp
  refine wpAnyT_first hi (Region.noSelect_spec hs) (fun c a w hh => hQ.out c _ _ w (putSome_defers a d v) hh) (by simpa using h4) (tailWaits_spec h3) _ L a w hcl (Region.free_spec hi h2) (by simpa using h1)
    (.inl ⟨hg a ha, fun w' hw' => hq a w' ha hw'⟩) h5 (hb h5) ?_
  exact h _ _ w hs (closed_set hcl (by simpa using h1)) h6 (ha.put hd v) hw (fun hb' => hb h5)
theorem SP.q [hQ : Quiet Q] {i d : Nat} {op : Op} {ty : TypeId} {pos : String} {af : Array Edge} {v : Value} (hi : ops[i]? = some ⟨some d, op, ty, pos, af, none⟩)
    (hq : SQ P N E ⟨some d, op, ty, pos, af, none⟩ f g0 s0 v) (hd : d < N)
    (h : SP P N E ops Q g0 s0 tail plan ((d, v) :: f) g s) : SP P N E ops Q g0 s0 tail ((i, 1) :: plan) f g s := SP.gq hi (Gd.none rfl) hq hd h

theorem SP.gu [hQ : Quiet Q] {i d : Nat} {op : Op} {ty : TypeId} {pos : String} {af : Array Edge} {gd : Option (Nat × Bool)} {v : Value} (hi : ops[i]? = some ⟨some d, op, ty, pos, af, gd⟩)
    (hg : Gd N ops f ⟨some d, op, ty, pos, af, gd⟩ true) (hq : SU P N ⟨some d, op, ty, pos, af, gd⟩ f v) (hd : d < N)
    (h : SP P N E ops Q g0 s0 tail plan ((d, v) :: f) g s) : SP P N E ops Q g0 s0 tail ((i, 2) :: plan) f g s := by
  intro L a w hs hcl hp ha hw hb
  simp only [planOk, Bool.and_eq_true, Bool.not_eq_true'] at hp
  obtain ⟨⟨⟨h1, h2⟩, h4⟩, h6⟩ := hp
  have hit : i ∉ tail := by simpa using h4
  refine wpAnyT_pure hi (Region.noSelect_spec hs) (fun c a w hh => hQ.out c _ _ w (putSome_defers a d v) hh) hit _ L a w (Region.free_spec hi h2) (by simpa using h1)
    (.inl ⟨hg a ha, fun w' => hq a w' ha⟩) hb ?_
  exact h _ _ w hs (closed_set hcl (by simpa using h1)) h6 (ha.put hd v) hw (fun hb' => hb (by rwa [began_set hit] at hb'))
theorem SP.u [hQ : Quiet Q] {i d : Nat} {op : Op} {ty : TypeId} {pos : String} {af : Array Edge} {v : Value} (hi : ops[i]? = some ⟨some d, op, ty, pos, af, none⟩)
    (hq : SU P N ⟨some d, op, ty, pos, af, none⟩ f v) (hd : d < N)
    (h : SP P N E ops Q g0 s0 tail plan ((d, v) :: f) g s) : SP P N E ops Q g0 s0 tail ((i, 2) :: plan) f g s := SP.gu hi (Gd.none rfl) hq hd h

/-- Not carried out. -/
theorem SP.off [hQ : Quiet Q] {i d : Nat} {op : Op} {ty : TypeId} {pos : String} {af : Array Edge} {gd : Option (Nat × Bool)} (hi : ops[i]? = some ⟨some d, op, ty, pos, af, gd⟩)
    (hg : Gd N ops f ⟨some d, op, ty, pos, af, gd⟩ false) (hd : d < N)
    (h : SP P N E ops Q g0 s0 tail plan ((d, undef) :: f) g s) : SP P N E ops Q g0 s0 tail ((i, 2) :: plan) f g s := by
  intro L a w hs hcl hp ha hw hb
  simp only [planOk, Bool.and_eq_true, Bool.not_eq_true'] at hp
  obtain ⟨⟨⟨h1, h2⟩, h4⟩, h6⟩ := hp
  have hit : i ∉ tail := by simpa using h4
  refine wpAnyT_pure hi (Region.noSelect_spec hs) (fun c a w hh => hQ.out c _ _ w (putSome_defers a d undef) hh) hit _ L a w (Region.free_spec hi h2) (by simpa using h1)
    (.inr ⟨hg a ha, rfl⟩) hb ?_
  exact h _ _ w hs (closed_set hcl (by simpa using h1)) h6 (ha.put hd undef) hw (fun hb' => hb (by rwa [began_set hit] at hb'))

theorem SP.off1 [hQ : Quiet Q] {i d : Nat} {op : Op} {ty : TypeId} {pos : String} {af : Array Edge} {gd : Option (Nat × Bool)} (hi : ops[i]? = some ⟨some d, op, ty, pos, af, gd⟩)
    (hg : Gd N ops f ⟨some d, op, ty, pos, af, gd⟩ false) (hd : d < N)
    (h : SP P N E ops Q g0 s0 tail plan ((d, undef) :: f) g s) : SP P N E ops Q g0 s0 tail ((i, 1) :: plan) f g s := by
  intro L a w hs hcl hp ha hw hb
  refine SP.off hi hg hd h L a w hs hcl ?_ ha hw hb
  simp only [planOk, Bool.and_eq_true] at hp ⊢
  exact ⟨⟨⟨hp.1.1.1.1.1, hp.1.1.1.1.2⟩, hp.1.1.2⟩, hp.2⟩

theorem SP.step {i : Nat} {o : Oper} {K : Value → PH → Own → Prop} (hi : ops[i]? = some o) (hg : Gd N ops f o true) (ho : SO P N E o f g s K)
    (hk : i ∈ tail ∨ ∀ v g' s', K v g' s' → Le g0 g' ∧ s0.Sublist s')
    (h : ∀ v g' s' a, K v g' s' → Ok N f a → ∃ f', Ok N f' (a.put o.dst v) ∧ SP P N E ops Q g0 s0 tail plan f' g' s') : SP P N E ops Q g0 s0 tail ((i, 0) :: plan) f g s := by
  intro L a w hs hcl hp ha hw hb
  simp only [planOk, Bool.and_eq_true, beq_iff_eq] at hp
  refine ⟨fun h0 => (by rw [hp.1] at h0; cases h0), fun j hj => ?_⟩
  rw [hp.1] at hj
  simp only [List.mem_singleton] at hj
  subst hj
  unfold wpOp
  simp only [hi]
  rw [if_pos (hg a ha)]
  refine .inl (ho a w ha hw Q _ fun v g' s' w' hK hw' => ?_)
  have hb' : began tail (L.setIfInBounds j true) = false → At E g0 s0 w' := by
    intro h0
    rcases hk with hk | hk
    · exfalso
      have hr : j ∈ Region.ready .any ops L := by rw [hp.1]; simp
      have hlt : j < L.size := by
        rcases Nat.lt_or_ge j L.size with h' | h'
        · exact h'
        · have := (mem_ready.1 hr).1
          simp [Array.getElem?_eq_none h'] at this
      unfold began at h0
      rw [List.any_eq_false] at h0
      have := h0 j hk
      simp [hlt] at this
    · obtain ⟨h1, h2⟩ := hk v g' s' hK
      exact (hw'.less h1).sublist h2
  obtain ⟨f', hf', hn⟩ := h v g' s' a hK ha
  exact ⟨hb', hn _ _ w' hs (closed_set hcl (by rw [hp.1]; simp)) hp.2 hf' hw' hb'⟩

theorem SP.o {i d : Nat} {op : Op} {ty : TypeId} {pos : String} {af : Array Edge} {K : Value → PH → Own → Prop} (hi : ops[i]? = some ⟨some d, op, ty, pos, af, none⟩)
    (ho : SO P N E ⟨some d, op, ty, pos, af, none⟩ f g s K) (hd : d < N) (hk : i ∈ tail ∨ ∀ v g' s', K v g' s' → Le g0 g' ∧ s0.Sublist s')
    (h : ∀ v g' s', K v g' s' → SP P N E ops Q g0 s0 tail plan ((d, v) :: f) g' s') : SP P N E ops Q g0 s0 tail ((i, 0) :: plan) f g s :=
  SP.step hi (Gd.none rfl) ho hk fun v g' s' _ hK ha => ⟨_, ha.put hd v, h v g' s' hK⟩
theorem SP.on {i : Nat} {op : Op} {ty : TypeId} {pos : String} {af : Array Edge} {K : Value → PH → Own → Prop} (hi : ops[i]? = some ⟨none, op, ty, pos, af, none⟩)
    (ho : SO P N E ⟨none, op, ty, pos, af, none⟩ f g s K) (hk : i ∈ tail ∨ ∀ v g' s', K v g' s' → Le g0 g' ∧ s0.Sublist s')
    (h : ∀ v g' s', K v g' s' → SP P N E ops Q g0 s0 tail plan f g' s') : SP P N E ops Q g0 s0 tail ((i, 0) :: plan) f g s :=
  SP.step hi (Gd.none rfl) ho hk fun v g' s' _ hK ha => ⟨f, ha, h v g' s' hK⟩
theorem SP.go {i d : Nat} {op : Op} {ty : TypeId} {pos : String} {af : Array Edge} {gd : Option (Nat × Bool)} {K : Value → PH → Own → Prop} (hi : ops[i]? = some ⟨some d, op, ty, pos, af, gd⟩)
    (hg : Gd N ops f ⟨some d, op, ty, pos, af, gd⟩ true)
    (ho : SO P N E ⟨some d, op, ty, pos, af, gd⟩ f g s K) (hd : d < N) (hk : i ∈ tail ∨ ∀ v g' s', K v g' s' → Le g0 g' ∧ s0.Sublist s')
    (h : ∀ v g' s', K v g' s' → SP P N E ops Q g0 s0 tail plan ((d, v) :: f) g' s') : SP P N E ops Q g0 s0 tail ((i, 0) :: plan) f g s :=
  SP.step hi hg ho hk fun v g' s' _ hK ha => ⟨_, ha.put hd v, h v g' s' hK⟩
/-- The only one that may come up only computes or reads. -/
theorem SP.oq {i d : Nat} {op : Op} {ty : TypeId} {pos : String} {af : Array Edge} {v : Value} (hi : ops[i]? = some ⟨some d, op, ty, pos, af, none⟩)
    (hq : SQ P N E ⟨some d, op, ty, pos, af, none⟩ f g s v) (hd : d < N) (hk : i ∈ tail ∨ (Le g0 g ∧ s0.Sublist s))
    (h : SP P N E ops Q g0 s0 tail plan ((d, v) :: f) g s) : SP P N E ops Q g0 s0 tail ((i, 0) :: plan) f g s :=
  SP.o hi hq.so hd (hk.imp id fun hk v g' s' ⟨_, e1, e2⟩ => by subst e1; subst e2; exact hk) fun v' g' s' ⟨e1, e2, e3⟩ => by subst e1; subst e2; subst e3; exact h
/-- The only one that may come up only computes. -/
theorem SP.ou {i d : Nat} {op : Op} {ty : TypeId} {pos : String} {af : Array Edge} {v : Value} (hi : ops[i]? = some ⟨some d, op, ty, pos, af, none⟩)
    (hq : SU P N ⟨some d, op, ty, pos, af, none⟩ f v) (hd : d < N) (hk : i ∈ tail ∨ (Le g0 g ∧ s0.Sublist s))
    (h : SP P N E ops Q g0 s0 tail plan ((d, v) :: f) g s) : SP P N E ops Q g0 s0 tail ((i, 0) :: plan) f g s := SP.oq hi hq.sq hd hk h
theorem SP.offo {i d : Nat} {op : Op} {ty : TypeId} {pos : String} {af : Array Edge} {gd : Option (Nat × Bool)} (hi : ops[i]? = some ⟨some d, op, ty, pos, af, gd⟩)
    (hg : Gd N ops f ⟨some d, op, ty, pos, af, gd⟩ false) (hd : d < N) (hk : Le g0 g ∧ s0.Sublist s)
    (h : SP P N E ops Q g0 s0 tail plan ((d, undef) :: f) g s) : SP P N E ops Q g0 s0 tail ((i, 0) :: plan) f g s := by
  intro L a w hs hcl hp ha hw hb
  simp only [planOk, Bool.and_eq_true, beq_iff_eq] at hp
  refine ⟨fun h0 => (by rw [hp.1] at h0; cases h0), fun j hj => ?_⟩
  rw [hp.1] at hj
  simp only [List.mem_singleton] at hj
  subst hj
  unfold wpOp
  simp only [hi]
  rw [if_neg (by rw [hg a ha]; simp)]
  have hb' : began tail (L.setIfInBounds j true) = false → At E g0 s0 w := fun _ => (hw.less hk.1).sublist hk.2
  exact ⟨hb', h _ _ w hs (closed_set hcl (by rw [hp.1]; simp)) hp.2 (ha.put hd undef) hw hb'⟩
end

end Go.Sy
end
section
namespace Go.Sy
open Go

/-- The address of a cell. -/
abbrev pp (b o : Nat) : Value := .pointer (some ⟨b, o, none⟩)
abbrev vi (n : Int) : Value := .int .i64 n
abbrev vb (b : Bool) : Value := .bool b

section
variable {P : Program} {N : Nat} {E : World} {f : Fr} {g : PH} {s : Own} {dst : Option Tmp} {ty : TypeId} {pos : String} {af : Array Edge} {gd : Option (Nat × Bool)}

theorem SU.move {x : Operand} {v : Value} (hx : ev f x = some v) : SU P N ⟨dst, .move x, ty, pos, af, gd⟩ f v := fun a w ha => by
  simp only [execOp, ha.ev hx]; rfl
theorem SU.assign {x : Operand} {v : Value} (hx : ev f x = some v) : SU P N ⟨dst, .assign x, ty, pos, af, gd⟩ f v := fun a w ha => by
  simp only [execOp, ha.ev hx]; rfl
theorem SU.pickT {c x y : Operand} {v : Value} (hc : ev f c = some (.bool true)) (hx : ev f x = some v) : SU P N ⟨dst, .pick c x y, ty, pos, af, gd⟩ f v := fun a w ha => by
  simp only [execOp, ha.ev hc, ha.ev hx]; rfl
theorem SU.pickF {c x y : Operand} {v : Value} (hc : ev f c = some (.bool false)) (hy : ev f y = some v) : SU P N ⟨dst, .pick c x y, ty, pos, af, gd⟩ f v := fun a w ha => by
  simp only [execOp, ha.ev hc, ha.ev hy]; rfl
theorem SU.extract {x : Operand} {vs : Array Value} {v : Value} {i : Nat} (hx : ev f x = some (.tuple vs)) (hi : vs[i]? = some v) : SU P N ⟨dst, .extract x i, ty, pos, af, gd⟩ f v := fun a w ha => by
  simp only [execOp, ha.ev hx, Instr.extract, hi]; rfl
theorem SU.nilCheck {x : Operand} {ad : Addr} (hx : ev f x = some (.pointer (some ad))) : SU P N ⟨dst, .nilCheck x, ty, pos, af, gd⟩ f (.pointer (some ad)) := fun a w ha => by
  simp only [execOp, ha.ev hx]; rfl
theorem SU.nilCheckF {x : Operand} {n : FuncId} {c : Array Value} (hx : ev f x = some (.func (.func n) #[] c)) : SU P N ⟨dst, .nilCheck x, ty, pos, af, gd⟩ f (.func (.func n) #[] c) := fun a w ha => by
  simp only [execOp, ha.ev hx]; rfl
theorem SU.not {x : Operand} {T : TypeId} {b : Bool} (hx : ev f x = some (.bool b)) : SU P N ⟨dst, .unOp .not T x, ty, pos, af, gd⟩ f (.bool !b) := fun a w ha => by
  simp only [execOp, ha.ev hx]; rfl
theorem SU.notP {x : Operand} {T : TypeId} {p : Prop} [Decidable p] (hx : ev f x = some (.bool (decide p))) : SU P N ⟨dst, .unOp .not T x, ty, pos, af, gd⟩ f (.bool (decide (¬ p))) := by
  have : decide (¬ p) = !decide p := by simp
  rw [this]
  exact SU.not hx
theorem SU.neg {x : Operand} {T : TypeId} {n : Int} (hx : ev f x = some (vi n)) : SU P N ⟨dst, .unOp .neg T x, ty, pos, af, gd⟩ f (vi (IntKind.i64.wrap (0 - n))) := fun a w ha => by
  simp only [execOp, ha.ev hx]; rfl

/-! Numbers. -/
theorem SU.addW {x y : Operand} {T U : TypeId} {k : IntKind} {m n : Int} (hx : ev f x = some (.int k m)) (hy : ev f y = some (.int k n)) :
    SU P N ⟨dst, .binOp .add T x y U, ty, pos, af, gd⟩ f (.int k (k.wrap (m + n))) := fun a w ha => by
  simp only [execOp, ha.ev hx, ha.ev hy, eqGuard, binOp, ne_eq, not_true_eq_false, if_false, Op.intArith]; rfl
theorem SU.subW {x y : Operand} {T U : TypeId} {k : IntKind} {m n : Int} (hx : ev f x = some (.int k m)) (hy : ev f y = some (.int k n)) :
    SU P N ⟨dst, .binOp .sub T x y U, ty, pos, af, gd⟩ f (.int k (k.wrap (m - n))) := fun a w ha => by
  simp only [execOp, ha.ev hx, ha.ev hy, eqGuard, binOp, ne_eq, not_true_eq_false, if_false, Op.intArith]; rfl
theorem SU.mulW {x y : Operand} {T U : TypeId} {k : IntKind} {m n : Int} (hx : ev f x = some (.int k m)) (hy : ev f y = some (.int k n)) :
    SU P N ⟨dst, .binOp .mul T x y U, ty, pos, af, gd⟩ f (.int k (k.wrap (m * n))) := fun a w ha => by
  simp only [execOp, ha.ev hx, ha.ev hy, eqGuard, binOp, ne_eq, not_true_eq_false, if_false, Op.intArith]; rfl
theorem SU.add {x y : Operand} {T U : TypeId} {m n : Int} (hx : ev f x = some (vi m)) (hy : ev f y = some (vi n)) (h : -9223372036854775808 ≤ m + n ∧ m + n ≤ 9223372036854775807) :
    SU P N ⟨dst, .binOp .add T x y U, ty, pos, af, gd⟩ f (vi (m + n)) := by
  have := SU.addW (P := P) (N := N) (dst := dst) (ty := ty) (pos := pos) (af := af) (gd := gd) (T := T) (U := U) hx hy
  rwa [IntWalk.i64_in _ h] at this
theorem SU.sub {x y : Operand} {T U : TypeId} {m n : Int} (hx : ev f x = some (vi m)) (hy : ev f y = some (vi n)) (h : -9223372036854775808 ≤ m - n ∧ m - n ≤ 9223372036854775807) :
    SU P N ⟨dst, .binOp .sub T x y U, ty, pos, af, gd⟩ f (vi (m - n)) := by
  have := SU.subW (P := P) (N := N) (dst := dst) (ty := ty) (pos := pos) (af := af) (gd := gd) (T := T) (U := U) hx hy
  rwa [IntWalk.i64_in _ h] at this
theorem SU.mul {x y : Operand} {T U : TypeId} {m n : Int} (hx : ev f x = some (vi m)) (hy : ev f y = some (vi n)) (h : -9223372036854775808 ≤ m * n ∧ m * n ≤ 9223372036854775807) :
    SU P N ⟨dst, .binOp .mul T x y U, ty, pos, af, gd⟩ f (vi (m * n)) := by
  have := SU.mulW (P := P) (N := N) (dst := dst) (ty := ty) (pos := pos) (af := af) (gd := gd) (T := T) (U := U) hx hy
  rwa [IntWalk.i64_in _ h] at this
theorem SU.quo {x y : Operand} {T U : TypeId} {k : IntKind} {m n : Int} (hx : ev f x = some (.int k m)) (hy : ev f y = some (.int k n)) (h : n ≠ 0) :
    SU P N ⟨dst, .binOp .quo T x y U, ty, pos, af, gd⟩ f (.int k (k.wrap (m.tdiv n))) := fun a w ha => by
  simp only [execOp, ha.ev hx, ha.ev hy, eqGuard, binOp, ne_eq, not_true_eq_false, if_false, Op.intDiv, h]; rfl
theorem SU.rem {x y : Operand} {T U : TypeId} {k : IntKind} {m n : Int} (hx : ev f x = some (.int k m)) (hy : ev f y = some (.int k n)) (h : n ≠ 0) :
    SU P N ⟨dst, .binOp .rem T x y U, ty, pos, af, gd⟩ f (.int k (m.tmod n)) := fun a w ha => by
  simp only [execOp, ha.ev hx, ha.ev hy, eqGuard, binOp, ne_eq, not_true_eq_false, if_false, Op.intDiv, h]; rfl
theorem SU.and {x y : Operand} {T U : TypeId} {k : IntKind} {m n : Int} (hx : ev f x = some (.int k m)) (hy : ev f y = some (.int k n)) :
    SU P N ⟨dst, .binOp .and T x y U, ty, pos, af, gd⟩ f (.int k (k.wrap (BitVec.ofInt k.bits m &&& BitVec.ofInt k.bits n).toNat)) := fun a w ha => by
  simp only [execOp, ha.ev hx, ha.ev hy, eqGuard, binOp, ne_eq, not_true_eq_false, if_false, Op.intBits]; rfl
theorem SU.xor {x y : Operand} {T U : TypeId} {k : IntKind} {m n : Int} (hx : ev f x = some (.int k m)) (hy : ev f y = some (.int k n)) :
    SU P N ⟨dst, .binOp .xor T x y U, ty, pos, af, gd⟩ f (.int k (k.wrap (BitVec.ofInt k.bits m ^^^ BitVec.ofInt k.bits n).toNat)) := fun a w ha => by
  simp only [execOp, ha.ev hx, ha.ev hy, eqGuard, binOp, ne_eq, not_true_eq_false, if_false, Op.intBits]; rfl
theorem SU.shl {x y : Operand} {T U : TypeId} {k k' : IntKind} {m n : Int} (hx : ev f x = some (.int k m)) (hy : ev f y = some (.int k' n)) (h : 0 ≤ n) :
    SU P N ⟨dst, .binOp .shl T x y U, ty, pos, af, gd⟩ f (.int k (k.wrap (m * 2 ^ min n.toNat k.bits))) := fun a w ha => by
  simp only [execOp, ha.ev hx, ha.ev hy, eqGuard, binOp, Op.shift, if_neg (Int.not_lt.2 h)]; rfl
theorem SU.shr {x y : Operand} {T U : TypeId} {k k' : IntKind} {m n : Int} (hx : ev f x = some (.int k m)) (hy : ev f y = some (.int k' n)) (h : 0 ≤ n) :
    SU P N ⟨dst, .binOp .shr T x y U, ty, pos, af, gd⟩ f (.int k (m.fdiv (2 ^ min n.toNat k.bits))) := fun a w ha => by
  simp only [execOp, ha.ev hx, ha.ev hy, eqGuard, binOp, Op.shift, if_neg (Int.not_lt.2 h)]; rfl
theorem SU.lss {x y : Operand} {T U : TypeId} {k : IntKind} {m n : Int} (hx : ev f x = some (.int k m)) (hy : ev f y = some (.int k n)) :
    SU P N ⟨dst, .binOp .lss T x y U, ty, pos, af, gd⟩ f (.bool (decide (m < n))) := fun a w ha => by
  simp only [execOp, ha.ev hx, ha.ev hy, eqGuard, binOp, ne_eq, not_true_eq_false, if_false, Op.intCmp]; rfl
theorem SU.leq {x y : Operand} {T U : TypeId} {k : IntKind} {m n : Int} (hx : ev f x = some (.int k m)) (hy : ev f y = some (.int k n)) :
    SU P N ⟨dst, .binOp .leq T x y U, ty, pos, af, gd⟩ f (.bool (decide (m ≤ n))) := fun a w ha => by
  simp only [execOp, ha.ev hx, ha.ev hy, eqGuard, binOp, ne_eq, not_true_eq_false, if_false, Op.intCmp]; rfl
theorem SU.gtr {x y : Operand} {T U : TypeId} {k : IntKind} {m n : Int} (hx : ev f x = some (.int k m)) (hy : ev f y = some (.int k n)) :
    SU P N ⟨dst, .binOp .gtr T x y U, ty, pos, af, gd⟩ f (.bool (decide (n < m))) := fun a w ha => by
  simp only [execOp, ha.ev hx, ha.ev hy, eqGuard, binOp, ne_eq, not_true_eq_false, if_false, Op.intCmp]; rfl
theorem SU.geq {x y : Operand} {T U : TypeId} {k : IntKind} {m n : Int} (hx : ev f x = some (.int k m)) (hy : ev f y = some (.int k n)) :
    SU P N ⟨dst, .binOp .geq T x y U, ty, pos, af, gd⟩ f (.bool (decide (n ≤ m))) := fun a w ha => by
  simp only [execOp, ha.ev hx, ha.ev hy, eqGuard, binOp, ne_eq, not_true_eq_false, if_false, Op.intCmp]; rfl
theorem SU.eql {x y : Operand} {T U : TypeId} {k : IntKind} {m n : Int} (hx : ev f x = some (.int k m)) (hy : ev f y = some (.int k n)) :
    SU P N ⟨dst, .binOp .eql T x y U, ty, pos, af, gd⟩ f (.bool (decide (m = n))) := fun a w ha => by
  have : (m == n) = decide (m = n) := rfl
  rw [← this]
  simp only [execOp, ha.ev hx, ha.ev hy, eqGuard, binOp, ne_eq, not_true_eq_false, if_false, Op.intCmp]; rfl
theorem SU.neq {x y : Operand} {T U : TypeId} {k : IntKind} {m n : Int} (hx : ev f x = some (.int k m)) (hy : ev f y = some (.int k n)) :
    SU P N ⟨dst, .binOp .neq T x y U, ty, pos, af, gd⟩ f (.bool (decide (m ≠ n))) := fun a w ha => by
  have : (m != n) = decide (m ≠ n) := by rw [Bool.eq_iff_iff]; simp
  rw [← this]
  simp only [execOp, ha.ev hx, ha.ev hy, eqGuard, binOp, ne_eq, not_true_eq_false, if_false, Op.intCmp]; rfl
theorem SU.convert {x : Operand} {T U : TypeId} {k k' : IntKind} {d : TypeDesc} {n : Int} (hT : P.underlying T = some d) (hU : P.underlying U = some (.int k')) (hx : ev f x = some (.int k n)) :
    SU P N ⟨dst, .convert T U x, ty, pos, af, gd⟩ f (.int k' (k'.wrap n)) := fun a w ha => by
  simp [execOp, ha.ev hx, Go.convert, run_underlying hT, run_underlying hU, Conv.intToInt]

/-! Places. -/
theorem SU.fieldAddr {x : Operand} {S : TypeId} {fields : Array Field} {fd : Field} {i b o k : Nat} (hu : P.underlying S = some (.struct fields)) (hf : fields[i]? = some fd)
    (hs : ∀ w, (sizeOf fd.type).run P w = .ok (k + 1) w) (hx : ev f x = some (pp b o)) : SU P N ⟨dst, .fieldAddr S x i, ty, pos, af, gd⟩ f (pp b (o + fd.offset)) := fun a w ha => by
  have hadd : (⟨b, o, none⟩ : Addr).add fd.offset = ⟨b, o + fd.offset, none⟩ := by unfold Addr.add; split <;> simp_all
  simp [execOp, ha.ev hx, Instr.fieldAt, run_underlying hu, hf, Instr.sureAddr, fieldPlace, hs w, hadd]
theorem SU.field {x : Operand} {S : TypeId} {fields : Array Field} {fd : Field} {i : Nat} {cs : Array Value} {v : Value} (hu : P.underlying S = some (.struct fields)) (hf : fields[i]? = some fd)
    (hs : ∀ w, (isAgg fd.type).run P w = .ok false w) (hx : ev f x = some (.agg cs)) (hv : cs[fd.offset]? = some v) : SU P N ⟨dst, .field S x i, ty, pos, af, gd⟩ f v := fun a w ha => by
  simp [execOp, ha.ev hx, Instr.field, run_underlying hu, hf, part, hs w, asAgg, hv]
theorem SU.makeFunc {n : FuncId} {c : Array Operand} {cv : Array Value} (hc : ∀ a, Ok N f a → c.map a.eval = cv) : SU P N ⟨dst, .makeFunc (.func n) #[] c, ty, pos, af, gd⟩ f (.func (.func n) #[] cv) := fun a w ha => by
  simp [execOp, Instr.makeFunc, hc a ha]

/-- The length of a slice's value. -/
def slen : Value → Nat
  | .slice _ n _ => n
  | _ => 0
def scap : Value → Nat
  | .slice _ _ c => c
  | _ => 0
def isSl : Value → Bool
  | .slice .. => true
  | _ => false
/-- The address of cell number o behind a slice's start. -/
def cptr (v : Value) (o : Nat) : Value :=
  match v with
  | .slice (some a) _ _ => .pointer (some ⟨a.block, a.off + o, none⟩)
  | _ => .pointer none
/-- The slice's value has an address without a spot. -/
def based : Value → Bool
  | .slice (some a) _ _ => a.spot.isNone
  | _ => false

theorem SU.len {x : Operand} {T e : TypeId} {v : Value} (hT : P.underlying T = some (.slice e)) (hx : ev f x = some v) (hv : isSl v = true) :
    SU P N ⟨dst, .call ⟨.builtin .len, #[x], #[T]⟩, ty, pos, af, gd⟩ f (vi (slen v)) := fun a w ha => by
  cases v <;> simp [isSl] at hv
  simp [execOp, resolve, invoke, builtin, ha.ev hx, Builtin.len_, run_underlying hT, goInt, slen]
theorem SU.lenN {x : Operand} {T e : TypeId} {p : Option Addr} {n c : Nat} (hT : P.underlying T = some (.slice e)) (hx : ev f x = some (.slice p n c)) :
    SU P N ⟨dst, .call ⟨.builtin .len, #[x], #[T]⟩, ty, pos, af, gd⟩ f (vi n) := SU.len hT hx rfl

theorem SU.eqlNil {x y : Operand} {T U e : TypeId} {p : Option Addr} {n c : Nat} (hT : P.underlying T = some (.slice e)) (hx : ev f x = some (.slice p n c)) (hy : ev f y = some (.slice none 0 0)) :
    SU P N ⟨dst, .binOp .eql T x y U, ty, pos, af, gd⟩ f (.bool p.isNone) := fun a w ha => by
  have hg : (eqGuard .eql T x y (.slice p n c) (.slice none 0 0)).run P w = .ok () w := by simp [eqGuard]
  have hb := Lib.run_eql_slice_nil (P := P) w T e p n c 0 0 hT
  simp only [execOp, ha.ev hx, ha.ev hy, Sem.run_bind, hg, Result.andThen_ok, hb]
  rfl

theorem SU.indexAddr {x y : Operand} {T e : TypeId} {k : Nat} {v : Value} {i : Int} (hT : P.underlying T = some (.slice e)) (hs : ∀ w, (sizeOf e).run P w = .ok k w)
    (hx : ev f x = some v) (hy : ev f y = some (vi i)) (hb : based v = true) (h0 : 0 ≤ i) (h1 : i < slen v) :
    SU P N ⟨dst, .indexAddr T x y, ty, pos, af, gd⟩ f (cptr v (i.toNat * k)) := fun a w ha => by
  cases v <;> simp [based] at hb
  rename_i p n c
  cases p <;> simp at hb
  rename_i ad
  obtain ⟨b, o, sp⟩ := ad
  simp at hb
  subst hb
  simp only [slen] at h1
  have hadd : (⟨b, o, none⟩ : Addr).add (i.toNat * k) = ⟨b, o + i.toNat * k, none⟩ := by unfold Addr.add; split <;> simp_all
  simp [execOp, ha.ev hx, ha.ev hy, Instr.indexAt, asIntOf, run_underlying hT, h0, h1, hs w, cptr, hadd]
theorem SU.indexAddrA {x y : Operand} {T e : TypeId} {k n b o : Nat} {i : Int} (hT : P.underlying T = some (.array n e)) (hs : ∀ w, (sizeOf e).run P w = .ok k w)
    (hx : ev f x = some (pp b o)) (hy : ev f y = some (vi i)) (h0 : 0 ≤ i) (h1 : i < n) :
    SU P N ⟨dst, .indexAddr T x y, ty, pos, af, gd⟩ f (pp b (o + i.toNat * k)) := fun a w ha => by
  have hadd : (⟨b, o, none⟩ : Addr).add (i.toNat * k) = ⟨b, o + i.toNat * k, none⟩ := by unfold Addr.add; split <;> simp_all
  simp [execOp, ha.ev hx, ha.ev hy, Instr.indexAt, asIntOf, run_underlying hT, Instr.sureAddr, h0, h1, hs w, hadd]
theorem SU.fieldAddrC {x : Operand} {S : TypeId} {fields : Array Field} {fd : Field} {i o k : Nat} {v : Value} (hu : P.underlying S = some (.struct fields)) (hf : fields[i]? = some fd)
    (hs : ∀ w, (sizeOf fd.type).run P w = .ok (k + 1) w) (hx : ev f x = some (cptr v o)) (hb : based v = true) : SU P N ⟨dst, .fieldAddr S x i, ty, pos, af, gd⟩ f (cptr v (o + fd.offset)) := by
  cases v <;> simp [based] at hb
  rename_i p n c
  cases p <;> simp at hb
  simp only [cptr] at hx ⊢
  have := SU.fieldAddr (P := P) (N := N) (dst := dst) (ty := ty) (pos := pos) (af := af) (gd := gd) hu hf hs hx
  rwa [Nat.add_assoc] at this
end

/-! Reading. -/
/-- In every memory of which (g, s) speaks the cell holds v. -/
def CellAt (g : PH) (s : Own) (ad : Addr) (v : Value) : Prop := ∀ E w, At E g s w → w.cell? ad = some v

theorem CellAt.own {g : PH} {s : Own} {b o : Nat} {cs : Array Value} {T : TypeId} {fr : Nat × Nat} {v : Value} (i : Nat) (hs : s[i]? = some (pt b (.cells cs T fr))) (hc : cs[o]? = some v) : CellAt g s ⟨b, o, none⟩ v := fun E w hw => by
  have := hw.own _ (List.mem_of_getElem? hs)
  simp only [pt, Option.bind_some] at this
  simp [World.cell?, this, hc]
theorem CellAt.known {g : PH} {s : Own} {b o : Nat} {cs : Array Value} {T : TypeId} {fr : Nat × Nat} {v : Value} (hg : g b = some (.cells cs T fr)) (hc : cs[o]? = some v) : CellAt g s ⟨b, o, none⟩ v := fun E w hw => by
  simp [World.cell?, hw.known _ _ hg, hc]

/-- A slice's cells, from its start, read as xs. -/
def Rd (g : PH) (s : Own) (v : Value) (xs : List Value) : Prop := ∀ E w, At E g s w → ∀ j x, xs[j]? = some x → ∃ a n c, v = .slice (some a) n c ∧ a.spot = none ∧ w.cell? ⟨a.block, a.off + j, none⟩ = some x

section
variable {P : Program} {N : Nat} {E : World} {f : Fr} {g : PH} {s : Own} {dst : Option Tmp} {ty : TypeId} {pos : String} {af : Array Edge} {gd : Option (Nat × Bool)}

theorem SQ.loadAt {x : Operand} {T : TypeId} {ad : Addr} {v : Value} (hT : ∀ w, (isAgg T).run P w = .ok false w) (hx : ev f x = some (.pointer (some ad))) (hc : CellAt g s ad v) :
    SQ P N E ⟨dst, .load T x, ty, pos, af, gd⟩ f g s v := fun a w ha hw => by
  have := hc E w hw
  simp [execOp, ha.ev hx, Instr.loadAt, Instr.sureAddr, loadVar, hT w, load, Sem.run, this]
theorem SQ.load {x : Operand} {T : TypeId} {b o : Nat} {v : Value} (hT : ∀ w, (isAgg T).run P w = .ok false w) (hx : ev f x = some (pp b o)) (hc : CellAt g s ⟨b, o, none⟩ v) :
    SQ P N E ⟨dst, .load T x, ty, pos, af, gd⟩ f g s v := SQ.loadAt hT hx hc
theorem SQ.loadC {x : Operand} {T : TypeId} {u : Value} {o : Nat} {xs : List Value} {v : Value} (hT : ∀ w, (isAgg T).run P w = .ok false w) (hx : ev f x = some (cptr u o)) (hr : Rd g s u xs) (hv : xs[o]? = some v) :
    SQ P N E ⟨dst, .load T x, ty, pos, af, gd⟩ f g s v := fun a w ha hw => by
  obtain ⟨ad, n, c, rfl, _, hc⟩ := hr E w hw o v hv
  simp only [cptr] at hx
  simp [execOp, ha.ev hx, Instr.loadAt, Instr.sureAddr, loadVar, hT w, load, Sem.run, hc]

theorem run_loadCellsFrom {w : World} {b o : Nat} : ∀ (k i : Nat) (vs : List Value) (acc : Array Value), vs.length = k → (∀ j x, vs[j]? = some x → w.cell? ⟨b, o + (i + j), none⟩ = some x) →
    (loadCellsFrom ⟨b, o, none⟩ i k acc).run P w = .ok (acc ++ vs.toArray) w
  | 0, _, vs, acc, hl, _ => by
    have : vs = [] := List.eq_nil_of_length_eq_zero hl
    subst this
    simp [loadCellsFrom]
  | k + 1, i, vs, acc, hl, hc => by
    cases vs with
    | nil => simp at hl
    | cons x r =>
      have h0 := hc 0 x (by simp)
      have hadd : (⟨b, o, none⟩ : Addr).add i = ⟨b, o + (i + 0), none⟩ := by unfold Addr.add; split <;> simp_all
      have := run_loadCellsFrom k (i + 1) r (acc.push x) (by simpa using hl) (fun j y hy => by have := hc (j + 1) y (by simpa using hy); rwa [show i + (j + 1) = i + 1 + j by omega] at this)
      simp only [loadCellsFrom, load, hadd, Sem.run_bind, Sem.run, h0, Result.andThen_ok, this]
      simp

theorem SQ.loadAggAt {x : Operand} {T : TypeId} {b o k : Nat} {vs : List Value} (hT : ∀ w, (isAgg T).run P w = .ok true w) (hk : ∀ w, (sizeOf T).run P w = .ok k w) (hx : ev f x = some (pp b o)) (hl : vs.length = k)
    (hc : ∀ j v, vs[j]? = some v → CellAt g s ⟨b, o + j, none⟩ v) : SQ P N E ⟨dst, .load T x, ty, pos, af, gd⟩ f g s (.agg vs.toArray) := fun a w ha hw => by
  have := run_loadCellsFrom (P := P) (w := w) (b := b) (o := o) k 0 vs #[] hl (fun j y hy => by simpa using hc j y hy E w hw)
  simp [execOp, ha.ev hx, Instr.loadAt, Instr.sureAddr, loadVar, hT w, hk w, loadCells, this]
/-- A whole variable. -/
theorem SQ.loadVar {x : Operand} {T U : TypeId} {b : Nat} {cs : Array Value} {fr : Nat × Nat} (i : Nat) (hT : ∀ w, (isAgg T).run P w = .ok true w) (hk : ∀ w, (sizeOf T).run P w = .ok cs.size w) (hx : ev f x = some (pp b 0))
    (hs : s[i]? = some (pt b (.cells cs U fr))) : SQ P N E ⟨dst, .load T x, ty, pos, af, gd⟩ f g s (.agg cs) := by
  have := SQ.loadAggAt (P := P) (N := N) (E := E) (g := g) (s := s) (dst := dst) (ty := ty) (pos := pos) (af := af) (gd := gd) (vs := cs.toList) hT hk hx (by simp)
    (fun j v hv => CellAt.own (o := 0 + j) i hs (by simpa using hv))
  simpa using this
/-- An element of a slice, of several cells. -/
theorem SQ.loadAggC {x : Operand} {T : TypeId} {u : Value} {o k : Nat} {xs vs : List Value} (hT : ∀ w, (isAgg T).run P w = .ok true w) (hk : ∀ w, (sizeOf T).run P w = .ok k w) (hx : ev f x = some (cptr u o)) (hr : Rd g s u xs)
    (hl : vs.length = k) (hpos : 0 < k) (hv : ∀ j v, vs[j]? = some v → xs[o + j]? = some v) : SQ P N E ⟨dst, .load T x, ty, pos, af, gd⟩ f g s (.agg vs.toArray) := fun a w ha hw => by
  have h0 : ∃ v, vs[0]? = some v := by
    cases vs with
    | nil => simp at hl; omega
    | cons y r => exact ⟨y, rfl⟩
  obtain ⟨v0, hv0⟩ := h0
  obtain ⟨ad, n, c, rfl, hsp, _⟩ := hr E w hw (o + 0) v0 (hv 0 v0 hv0)
  simp only [cptr] at hx
  have := run_loadCellsFrom (P := P) (w := w) (b := ad.block) (o := ad.off + o) k 0 vs #[] hl (fun j y hy => by
    obtain ⟨a', n', c', he, _, hc⟩ := hr E w hw (o + j) y (hv j y hy)
    cases he
    rw [Nat.zero_add, Nat.add_assoc]
    exact hc)
  simp [execOp, ha.ev hx, Instr.loadAt, Instr.sureAddr, Go.loadVar, hT w, hk w, loadCells, this]
end

end Go.Sy
end
section
namespace Go.Sy
open Go

/-! How memory is turned. -/
theorem At.alloc {E : World} {g : PH} {s : Own} {w : World} (h : At E g s w) {e : Ent} {o : Obj} (hb : e.blk = some w.heap.size) (he : e.holds (some o)) : At E g (e :: s) { w with heap := w.heap.push o } := by
  have hold : ∀ k, k < w.heap.size → (w.heap.push o)[k]? = w.heap[k]? := fun k hk => by
    rw [Array.getElem?_push]
    split
    · omega
    · rfl
  have hg : g w.heap.size = none := by
    cases hg : g w.heap.size with
    | none => rfl
    | some x => exact absurd (h.lt hg) (Nat.lt_irrefl _)
  refine ⟨h.os, h.tape, h.output, fun b x hx => ?_, fun e' he' => ?_, fun e' he' b hb' => ?_, List.pairwise_cons.2 ⟨fun e' he' b hb1 hb2 => ?_, h.apart⟩⟩
  · show (w.heap.push o)[b]? = some x
    rw [hold b (h.lt hx)]
    exact h.known b x hx
  · rcases List.mem_cons.1 he' with rfl | he'
    · simp only [hb, Option.bind_some]
      simpa using he
    · have h1 := h.own e' he'
      cases hbk : e'.blk with
      | none => simpa [hbk] using h1
      | some b =>
        have := (h.fresh e' he' b hbk).2
        simp only [hbk, Option.bind_some] at h1 ⊢
        rw [hold b this]
        exact h1
  · rcases List.mem_cons.1 he' with rfl | he'
    · rw [hb] at hb'
      cases hb'
      exact ⟨hg, by simp⟩
    · have := h.fresh e' he' b hb'
      exact ⟨this.1, by simp; omega⟩
  · rw [hb] at hb1
    cases hb1
    exact absurd (h.fresh e' he' _ hb2).2 (Nat.lt_irrefl _)

theorem pairwise_set {e e' : Ent} : ∀ {s : Own} {i : Nat}, s.Pairwise Apart → s[i]? = some e → (∀ x ∈ s, Apart e x → Apart e' x) → (s.set i e').Pairwise Apart
  | [], _, _, h, _ => by simp at h
  | x :: r, 0, hp, h, hk => by
    simp only [List.getElem?_cons_zero, Option.some.injEq] at h
    subst h
    obtain ⟨h1, h2⟩ := List.pairwise_cons.1 hp
    exact List.pairwise_cons.2 ⟨fun y hy => hk y (List.mem_cons_of_mem _ hy) (h1 y hy), h2⟩
  | x :: r, i + 1, hp, h, hk => by
    simp only [List.getElem?_cons_succ] at h
    obtain ⟨h1, h2⟩ := List.pairwise_cons.1 hp
    refine List.pairwise_cons.2 ⟨fun y hy => ?_, pairwise_set h2 h (fun y hy => hk y (List.mem_cons_of_mem _ hy))⟩
    rcases List.mem_or_eq_of_mem_set hy with hy | rfl
    · exact h1 y hy
    · exact (hk x (by simp) (h1 e (List.mem_of_getElem? h)).symm).symm

/-- One thing that is owned is turned; the rest stays; new blocks may come. -/
theorem At.turn {E : World} {g : PH} {s : Own} {w w' : World} {e e' : Ent} {i : Nat} (h : At E g s w) (hi : s[i]? = some e) (hos : w'.os = w.os) (htape : w'.tape = w.tape ∧ w.drawn ≤ w'.drawn) (hout : w'.output = w.output)
    (hsz : w.heap.size ≤ w'.heap.size) (hk : ∀ k, k < w.heap.size → some k ≠ e.blk → w'.heap[k]? = w.heap[k]?) (he : e'.holds (e'.blk.bind fun b => w'.heap[b]?))
    (hb : ∀ b, e'.blk = some b → b < w'.heap.size ∧ (e.blk = some b ∨ w.heap.size ≤ b)) : At E g (s.set i e') w' := by
  have hem := List.mem_of_getElem? hi
  have hmem : ∀ x ∈ s.set i e', x = e' ∨ (x ∈ s ∧ Apart e x) := by
    clear he hb
    have hp := h.apart
    clear h hk
    induction s generalizing i with
    | nil => simp at hi
    | cons y r ih =>
      obtain ⟨h1, h2⟩ := List.pairwise_cons.1 hp
      cases i with
      | zero =>
        simp only [List.getElem?_cons_zero, Option.some.injEq] at hi
        subst hi
        intro x hx
        simp only [List.set_cons_zero, List.mem_cons] at hx
        rcases hx with rfl | hx
        · exact .inl rfl
        · exact .inr ⟨by simp [hx], h1 x hx⟩
      | succ i =>
        simp only [List.getElem?_cons_succ] at hi
        intro x hx
        simp only [List.set_cons_succ, List.mem_cons] at hx
        rcases hx with rfl | hx
        · exact .inr ⟨by simp, (h1 e (List.mem_of_getElem? hi)).symm⟩
        · rcases ih hi (List.mem_of_getElem? hi) h2 x hx with hx | ⟨hx, ha⟩
          · exact .inl hx
          · exact .inr ⟨by simp [hx], ha⟩
  refine ⟨hos.trans h.os, ⟨htape.1.trans h.tape.1, Nat.le_trans h.tape.2 htape.2⟩, hout.trans h.output, fun b o hg => ?_, fun x hx => ?_, fun x hx b hbx => ?_, pairwise_set h.apart hi fun x hx ha b hb1 hb2 => ?_⟩
  · rw [hk b (h.lt hg) (fun hb' => by rw [(h.fresh e hem b hb'.symm).1] at hg; cases hg)]
    exact h.known b o hg
  · rcases hmem x hx with rfl | ⟨hx', ha⟩
    · exact he
    · have h1 := h.own x hx'
      cases hbk : x.blk with
      | none => simpa [hbk] using h1
      | some b =>
        simp only [hbk, Option.bind_some] at h1 ⊢
        rw [hk b (h.fresh x hx' b hbk).2 (fun hb' => ha b hb'.symm hbk)]
        exact h1
  · rcases hmem x hx with rfl | ⟨hx', _⟩
    · obtain ⟨h1, h2⟩ := hb b hbx
      refine ⟨?_, h1⟩
      rcases h2 with h2 | h2
      · exact (h.fresh e hem b h2).1
      · cases hg : g b with
        | none => rfl
        | some o => exact absurd (h.lt hg) (Nat.not_lt.2 h2)
    · have := h.fresh x hx' b hbx
      exact ⟨this.1, Nat.lt_of_lt_of_le this.2 hsz⟩
  · rcases (hb b hb1).2 with h2 | h2
    · exact ha b h2 hb2
    · exact absurd (h.fresh x hx b hb2).2 (Nat.not_lt.2 h2)

section
variable {P : Program} {N : Nat} {E : World} {f : Fr} {g : PH} {s : Own} {dst : Option Tmp} {ty : TypeId} {pos : String} {af : Array Edge} {gd : Option (Nat × Bool)}

theorem SO.of_run {o : Oper} {K : Value → PH → Own → Prop} (h : ∀ a w, Ok N f a → At E g s w → ∃ v w' g' s', (execOp a.eval o).run P w = .ok (.value v) w' ∧ At E g' s' w' ∧ K v g' s') : SO P N E o f g s K := by
  intro a w ha hw Q next hn
  obtain ⟨v, w', g', s', hr, hw', hK⟩ := h a w ha hw
  unfold Oper.wp
  rw [hr]
  exact hn v g' s' w' hK hw'
theorem SO.of_skip {o : Oper} {K : Value → PH → Own → Prop} (h : ∀ a w, Ok N f a → At E g s w → ∃ w' g' s', (execOp a.eval o).run P w = .ok .skip w' ∧ At E g' s' w' ∧ K undef g' s') : SO P N E o f g s K := by
  intro a w ha hw Q next hn
  obtain ⟨w', g', s', hr, hw', hK⟩ := h a w ha hw
  unfold Oper.wp
  rw [hr]
  exact hn _ g' s' w' hK hw'

theorem SO.alloc {T : TypeId} {z : Value} (hz : ∀ w, (zeroValue T).run P w = .ok z w) :
    SO P N E ⟨dst, .alloc T, ty, pos, af, gd⟩ f g s fun v g' s' => ∃ b, v = pp b 0 ∧ g = g' ∧ s' = pt b (.cells z.cells T (0, 0)) :: s :=
  SO.of_run fun a w _ hw => ⟨pp w.heap.size 0, _, g, _, by simp [execOp, Instr.alloc, hz w, newVar, newRow], hw.alloc (e := pt w.heap.size (.cells z.cells T (0, 0))) rfl rfl, _, rfl, rfl, rfl⟩
theorem SO.box {T : TypeId} {x : Operand} {v : Value} (hx : ev f x = some v) :
    SO P N E ⟨dst, .box T x, ty, pos, af, gd⟩ f g s fun u g' s' => ∃ b, u = pp b 0 ∧ g = g' ∧ s' = pt b (.cells v.cells T (0, 0)) :: s :=
  SO.of_run fun a w ha hw => ⟨pp w.heap.size 0, _, g, _, by simp [execOp, Instr.box, ha.ev hx, newVar, newRow], hw.alloc (e := pt w.heap.size (.cells v.cells T (0, 0))) rfl rfl, _, rfl, rfl, rfl⟩
theorem SO.makeMap {T : TypeId} : SO P N E ⟨dst, .makeMap T none, ty, pos, af, gd⟩ f g s fun u g' s' => ∃ b, u = .map (some b) ∧ g = g' ∧ s' = pt b (.map #[] 0) :: s :=
  SO.of_run fun a w _ hw => ⟨.map (some w.heap.size), _, g, _, by simp [execOp, Instr.makeMap], hw.alloc (e := pt w.heap.size (.map #[] 0)) rfl rfl, _, rfl, rfl, rfl⟩

/-! Stores into a variable of the call's own. -/
def spl (cs : Array Value) (o : Nat) (vs : List Value) : Array Value := (cs.toList.take o ++ vs ++ cs.toList.drop (o + vs.length)).toArray

theorem At.setRow {w : World} {b i : Nat} {cs cs' : Array Value} {T : TypeId} (h : At E g s w) (hi : s[i]? = some (pt b (.cells cs T (0, 0)))) : At E g (s.set i (pt b (.cells cs' T (0, 0)))) (w.setRow b cs') := by
  have h1 := h.own _ (List.mem_of_getElem? hi)
  have h2 := h.fresh _ (List.mem_of_getElem? hi) b rfl
  simp only [pt, Option.bind_some] at h1
  refine h.turn hi rfl ⟨rfl, (by first | exact Nat.le_refl _ | exact Nat.le_add_right _ _ | exact Nat.le_succ _)⟩ rfl (by simp) (fun k _ hk => setRow_other w b k cs' (fun e => hk (by simp [pt, e]))) ?_ (fun b' hb' => ?_)
  · simp only [pt, Option.bind_some]
    exact setRow_heap w b cs cs' T (0, 0) h1
  · simp only [pt, Option.some.injEq] at hb'
    subst hb'
    exact ⟨by simpa using h2.2, .inl rfl⟩

theorem SO.storeAt {T U : TypeId} {x y : Operand} {b o i k : Nat} {cs : Array Value} {v : Value} (hk : ∀ w, (sizeOf T).run P w = .ok k w) (hx : ev f x = some (pp b o)) (hy : ev f y = some v) (hi : s[i]? = some (pt b (.cells cs U (0, 0))))
    (hv : v.cells.size = k) (hl : o + k ≤ cs.size) (h1 : ∀ u ∈ v.cells.toList, u.oneCell' = true) :
    SO P N E ⟨dst, .store T x y, ty, pos, af, gd⟩ f g s fun _ g' s' => g = g' ∧ s' = s.set i (pt b (.cells (spl cs o v.cells.toList) U (0, 0))) :=
  SO.of_skip fun a w ha hw => by
    have h2 := hw.own _ (List.mem_of_getElem? hi)
    simp only [pt, Option.bind_some] at h2
    have hst := run_storeCells_at P b o U v.cells.toList 0 cs w h2 (by simp [hv]; omega) h1
    refine ⟨_, g, _, ?_, hw.setRow (cs' := spl cs o v.cells.toList) hi, rfl, rfl⟩
    simp [execOp, ha.ev hx, ha.ev hy, Instr.storeAt, Instr.sureAddr, storeVar, hk w, hv, hst, spl]
/-- One cell. -/
theorem SO.store1 {T U : TypeId} {x y : Operand} {b o : Nat} {cs : Array Value} {v : Value} (i : Nat) (hk : ∀ w, (sizeOf T).run P w = .ok 1 w) (hx : ev f x = some (pp b o)) (hy : ev f y = some v) (hi : s[i]? = some (pt b (.cells cs U (0, 0))))
    (hv : v.cells = #[v]) (hl : o < cs.size) (h1 : v.oneCell' = true) :
    SO P N E ⟨dst, .store T x y, ty, pos, af, gd⟩ f g s fun _ g' s' => g = g' ∧ s' = s.set i (pt b (.cells (cs.setIfInBounds o v) U (0, 0))) := by
  have := SO.storeAt (P := P) (N := N) (E := E) (g := g) (dst := dst) (ty := ty) (pos := pos) (af := af) (gd := gd) hk hx hy hi (by rw [hv]; rfl) (by omega) (by rw [hv]; simpa using h1)
  have he : spl cs o v.cells.toList = cs.setIfInBounds o v := by
    rw [hv]
    unfold spl
    apply Array.ext'
    simp only [Array.toList_setIfInBounds]
    rw [List.set_eq_take_append_cons_drop]
    simp [hl]
  rwa [he] at this
/-- A whole variable. -/
theorem SO.storeAll {T U : TypeId} {x y : Operand} {b : Nat} {cs : Array Value} {v : Value} (i : Nat) (hk : ∀ w, (sizeOf T).run P w = .ok cs.size w) (hx : ev f x = some (pp b 0)) (hy : ev f y = some v) (hi : s[i]? = some (pt b (.cells cs U (0, 0))))
    (hv : v.cells.size = cs.size) (h1 : ∀ u ∈ v.cells.toList, u.oneCell' = true) :
    SO P N E ⟨dst, .store T x y, ty, pos, af, gd⟩ f g s fun _ g' s' => g = g' ∧ s' = s.set i (pt b (.cells v.cells U (0, 0))) := by
  have := SO.storeAt (P := P) (N := N) (E := E) (g := g) (dst := dst) (ty := ty) (pos := pos) (af := af) (gd := gd) hk hx hy hi hv (by omega) h1
  have he : spl cs 0 v.cells.toList = v.cells := by
    unfold spl
    apply Array.ext'
    simp [hv]
  rwa [he] at this

/-! Lists of operands. -/
def evs (f : Fr) : List Operand → Option (List Value)
  | [] => some []
  | x :: r => match ev f x with
    | some v => match evs f r with
      | some vs => some (v :: vs)
      | none => none
    | none => none
theorem Ok.evs {a : Act} (h : Ok N f a) : ∀ {l : List Operand} {vs : List Value}, Sy.evs f l = some vs → l.map a.eval = vs
  | [], vs, hv => by simp only [Sy.evs, Option.some.injEq] at hv; subst hv; rfl
  | x :: r, vs, hv => by
    simp only [Sy.evs] at hv
    split at hv
    · rename_i v hx
      split at hv
      · rename_i vs' hr
        simp only [Option.some.injEq] at hv
        subst hv
        simp [h.ev hx, Ok.evs h hr]
      · cases hv
    · cases hv

theorem SU.mkFunc {n : FuncId} {l : List Operand} {vs : List Value} (hl : evs f l = some vs) : SU P N ⟨dst, .makeFunc (.func n) #[] l.toArray, ty, pos, af, gd⟩ f (.func (.func n) #[] vs.toArray) :=
  SU.makeFunc fun a ha => by simp [ha.evs hl]

/-! Calls. -/
/-- What calling a function's value comes to. -/
def CallV (P : Program) (E : World) (v : Value) (args : List Value) (g : PH) (s : Own) (R : Value → PH → Own → Prop) : Prop :=
  ∃ n cap, v = .func (.func n) #[] cap ∧ (∀ args w, (callFunc n args).run P w = .ok (.enter n args) w) ∧ Ctr P E n (args.toArray ++ cap) g s R

theorem SO.callV {x : Operand} {l : List Operand} {tys : Array TypeId} {v : Value} {vs : List Value} {R : Value → PH → Own → Prop} (hx : ev f x = some v) (hl : evs f l = some vs) (hc : CallV P E v vs g s R) :
    SO P N E ⟨dst, .call ⟨.value x, l.toArray, tys⟩, ty, pos, af, gd⟩ f g s R := by
  intro a w ha hw Q next hn
  obtain ⟨n, cap, rfl, hcall, hfn⟩ := hc
  unfold Oper.wp
  have hr : (execOp a.eval ⟨dst, .call ⟨.value x, l.toArray, tys⟩, ty, pos, af, gd⟩).run P w = .ok (.enter n (vs.toArray ++ cap)) w := by
    simp [execOp, resolve, ha.ev hx, Deferred.ofValue, invoke, hcall, ha.evs hl]
  rw [hr]
  refine (hfn w hw).mono fun e w' he => ?_
  obtain ⟨u, g', s', rfl, hw', hR⟩ := he
  exact hn u g' s' w' hR hw'
theorem SO.call {n : FuncId} {l : List Operand} {tys : Array TypeId} {vs : List Value} {R : Value → PH → Own → Prop} (hcall : ∀ args w, (callFunc n args).run P w = .ok (.enter n args) w) (hl : evs f l = some vs) (hc : Ctr P E n vs.toArray g s R) :
    SO P N E ⟨dst, .call ⟨.value (.func n), l.toArray, tys⟩, ty, pos, af, gd⟩ f g s R :=
  SO.callV rfl hl ⟨n, #[], rfl, hcall, by simpa using hc⟩
theorem CallV.mk {n : FuncId} {args cap : List Value} {R : Value → PH → Own → Prop} (hcall : ∀ args w, (callFunc n args).run P w = .ok (.enter n args) w) (hf : Ctr P E n (args ++ cap).toArray g s R) :
    CallV P E (.func (.func n) #[] cap.toArray) args g s R := ⟨n, cap.toArray, rfl, hcall, by simpa using hf⟩
end

/-! Results that lie in memory. -/
section
variable {P : Program} {N : Nat} {E : World} {fn : Func} {R : Value → PH → Own → Prop} {e : Exit} {f : Fr} {g : PH} {s : Own}

theorem run_loadVar_own {w : World} {T U : TypeId} {b i : Nat} {cs : Array Value} {fr : Nat × Nat} (hw : At E g s w) (hT : ∀ w, (isAgg T).run P w = .ok true w) (hk : ∀ w, (sizeOf T).run P w = .ok cs.size w) (hs : s[i]? = some (pt b (.cells cs U fr))) :
    (Go.loadVar T ⟨b, 0, none⟩).run P w = .ok (.agg cs) w := by
  have := run_loadCellsFrom (P := P) (w := w) (b := b) (o := 0) cs.size 0 cs.toList #[] (by simp) (fun j y hy => by
    have := CellAt.own (g := g) (o := 0 + (0 + j)) i hs (v := y) (by simpa using hy)
    exact this E w hw)
  simp [Go.loadVar, hT w, hk w, loadCells, this]

theorem ST.retC {T U : TypeId} {t b : Nat} {cs : Array Value} {fr : Nat × Nat} (i : Nat) (he : e = .ret ∨ e = .normal) (hr : fn.results = #[.cell t T]) (hv : get? f t = some (pp b 0)) (hT : ∀ w, (isAgg T).run P w = .ok true w) (hk : ∀ w, (sizeOf T).run P w = .ok cs.size w)
    (hs : s[i]? = some (pt b (.cells cs U fr))) (hR : R (.agg cs) g s) : ST N E (bodyPost P fn (Post E R)) e f g s :=
  ST.returnsV he (fun tmps w ha hw => by
    have h1 := run_loadVar_own (P := P) hw hT hk hs
    have h2 := ha t _ hv
    simp only [Array.getD_eq_getD_getElem?] at h2
    simp [results, hr, asAddr, pp, h2, h1]) hR
theorem ST.retC1 {T U : TypeId} {t u b : Nat} {cs : Array Value} {fr : Nat × Nat} {x : Value} (i : Nat) (he : e = .ret ∨ e = .normal) (hr : fn.results = #[.cell t T, .tmp u]) (hv : get? f t = some (pp b 0)) (hu : get? f u = some x) (hT : ∀ w, (isAgg T).run P w = .ok true w)
    (hk : ∀ w, (sizeOf T).run P w = .ok cs.size w) (hs : s[i]? = some (pt b (.cells cs U fr))) (hR : R (.tuple #[.agg cs, x]) g s) : ST N E (bodyPost P fn (Post E R)) e f g s :=
  ST.returnsV he (fun tmps w ha hw => by
    have h1 := run_loadVar_own (P := P) hw hT hk hs
    have h2 := ha t _ hv
    have h3 := ha u _ hu
    simp only [Array.getD_eq_getD_getElem?] at h2 h3
    simp [results, hr, asAddr, pp, h2, h1, h3]) hR
end

end Go.Sy
end
section
namespace Go.Sy
open Go

/-- A slice's type: its elements' type, their cells, bytes and zero. -/
structure STy (P : Program) (t e : TypeId) (k bytes : Nat) (z : Value) : Prop where
  und : P.underlying t = some (.slice e)
  info : ∃ i, P.info? e = some i ∧ i.zero = some z ∧ i.size = k ∧ i.bytes = bytes
  zs : z.cells.size = k
  pos : 0 < k

theorem STy.size {P : Program} {t e : TypeId} {k bytes : Nat} {z : Value} (h : STy P t e k bytes z) (w : World) : (sizeOf e).run P w = .ok k w := by
  obtain ⟨i, h1, _, h3, _⟩ := h.info
  simp [sizeOf, typeInfo, h1, h3]
theorem STy.zero {P : Program} {t e : TypeId} {k bytes : Nat} {z : Value} (h : STy P t e k bytes z) (w : World) : (zeroValue e).run P w = .ok z w := by
  obtain ⟨i, h1, h2, _, _⟩ := h.info
  simp [zeroValue, typeInfo, h1, h2]

/-- The block that a slice of the call's own lies in; one without capacity has none. -/
def rblk : Value → Option Nat
  | .slice (some a) _ (_ + 1) => some a.block
  | _ => none

/-- A row that the call owns: slice v, of n elements of k cells, reads as xs; it may be appended to. -/
def row (T : TypeId) (k : Nat) (v : Value) (n : Nat) (xs : List Value) : Ent :=
  ⟨rblk v, fun oo => xs.length = n * k ∧ ((∃ p, v = .slice p 0 0 ∧ n = 0) ∨
    ∃ b cap cur, v = .slice (some ⟨b, 0, none⟩) n (cap + 1) ∧ oo = some (.cells cur T (0, 0)) ∧ n ≤ cap + 1 ∧ cap + 1 ≤ maxLen ∧ cur.size = (cap + 1) * k ∧ cur.toList.take (n * k) = xs)⟩

/-- What a row comes to in a memory. -/
theorem row_is {E : World} {g : PH} {s : Own} {w : World} {T : TypeId} {k n i : Nat} {v : Value} {xs : List Value} (h : At E g s w) (hi : s[i]? = some (row T k v n xs)) : xs.length = n * k ∧ ((∃ p, v = .slice p 0 0 ∧ n = 0) ∨
    ∃ b cap cur, v = .slice (some ⟨b, 0, none⟩) n (cap + 1) ∧ w.heap[b]? = some (.cells cur T (0, 0)) ∧ n ≤ cap + 1 ∧ cap + 1 ≤ maxLen ∧ cur.size = (cap + 1) * k ∧ cur.toList.take (n * k) = xs) := by
  obtain ⟨h1, h2⟩ := h.own _ (List.mem_of_getElem? hi)
  refine ⟨h1, ?_⟩
  rcases h2 with h2 | ⟨b, cap, cur, rfl, ho, h3⟩
  · exact .inl h2
  · refine .inr ⟨b, cap, cur, rfl, ?_, h3⟩
    simpa [row, rblk] using ho
theorem row_holds {w : World} {T : TypeId} {k n b cap : Nat} {xs : List Value} {cur : Array Value} (h1 : xs.length = n * k) (hb : w.heap[b]? = some (.cells cur T (0, 0))) (hn : n ≤ cap + 1) (hc : cap + 1 ≤ maxLen) (hs : cur.size = (cap + 1) * k) (ht : cur.toList.take (n * k) = xs) :
    (row T k (.slice (some ⟨b, 0, none⟩) n (cap + 1)) n xs).holds ((row T k (.slice (some ⟨b, 0, none⟩) n (cap + 1)) n xs).blk.bind fun b => w.heap[b]?) :=
  ⟨h1, .inr ⟨b, cap, cur, rfl, by simpa [row, rblk] using hb, hn, hc, hs, ht⟩⟩

theorem row_form {E : World} {g : PH} {s : Own} {w : World} {T : TypeId} {k n i : Nat} {v : Value} {xs : List Value} (h : At E g s w) (hi : s[i]? = some (row T k v n xs)) : (∃ p c, v = .slice p n c) ∧ xs.length = n * k := by
  obtain ⟨h1, h2⟩ := row_is h hi
  refine ⟨?_, h1⟩
  rcases h2 with ⟨p, rfl, rfl⟩ | ⟨b, cap, cur, rfl, _⟩
  · exact ⟨_, _, rfl⟩
  · exact ⟨_, _, rfl⟩

section
variable {P : Program} {N : Nat} {E : World} {ops : Array Oper} {Q : Exit → Act → World → Prop} {f : Fr} {g : PH} {s : Own} {dst : Option Tmp} {ty : TypeId} {pos : String} {af : Array Edge} {gd : Option (Nat × Bool)}

/-- Nothing is owned yet: nil. -/
theorem At.emptyRow {w : World} (h : At E g s w) (T : TypeId) (k : Nat) (p : Option Addr) : At E g (row T k (.slice p 0 0) 0 [] :: s) w := by
  have hr : rblk (.slice p 0 0) = none := by cases p <;> rfl
  refine ⟨h.os, h.tape, h.output, h.known, fun e he => ?_, fun e he b hb => ?_, List.pairwise_cons.2 ⟨fun e _ b hb => by simp [row, hr] at hb, h.apart⟩⟩
  · rcases List.mem_cons.1 he with rfl | he
    · exact ⟨by simp, .inl ⟨p, rfl, rfl⟩⟩
    · exact h.own e he
  · rcases List.mem_cons.1 he with rfl | he
    · simp [row, hr] at hb
    · exact h.fresh e he b hb
theorem At.nilRow {w : World} (h : At E g s w) (T : TypeId) (k : Nat) : At E g (row T k (.slice none 0 0) 0 [] :: s) w := h.emptyRow T k none
theorem SL.emptyRow {l : List Oper} (T : TypeId) (k : Nat) (p : Option Addr) (h : SL P N E ops Q l f g (row T k (.slice p 0 0) 0 [] :: s)) : SL P N E ops Q l f g s := fun a w ha hw => h a w ha (hw.emptyRow T k p)
theorem SC.nilRow {c : Code} (T : TypeId) (k : Nat) (h : SC P N E c Q f g (row T k (.slice none 0 0) 0 [] :: s)) : SC P N E c Q f g s := fun a w ha hw => h a w ha (hw.nilRow T k)
theorem SL.nilRow {l : List Oper} (T : TypeId) (k : Nat) (h : SL P N E ops Q l f g (row T k (.slice none 0 0) 0 [] :: s)) : SL P N E ops Q l f g s := fun a w ha hw => h a w ha (hw.nilRow T k)
theorem ST.nilRow {e : Exit} (T : TypeId) (k : Nat) (h : ST N E Q e f g (row T k (.slice none 0 0) 0 [] :: s)) : ST N E Q e f g s := fun a w ha hw => h a w ha (hw.nilRow T k)

theorem Rd.row {T : TypeId} {k n : Nat} {v : Value} {xs : List Value} (i : Nat) (hi : s[i]? = some (row T k v n xs)) : Rd g s v xs := by
  intro E w hw j x hj
  obtain ⟨hlen, h1⟩ := row_is hw hi
  rcases h1 with ⟨p, rfl, hn⟩ | ⟨b, cap, cur, rfl, hb, _, _, _, ht⟩
  · subst hn
    have : xs = [] := List.eq_nil_of_length_eq_zero (by simpa using hlen)
    subst this
    simp at hj
  · refine ⟨⟨b, 0, none⟩, n, cap + 1, rfl, rfl, ?_⟩
    rw [← ht, List.getElem?_take] at hj
    split at hj
    · simp [World.cell?, hb]
      simpa using hj
    · cases hj

/-- The judgements may be shown for a memory that there is. -/
theorem SC.facts {c : Code} (h : (∃ w, At E g s w) → SC P N E c Q f g s) : SC P N E c Q f g s := fun a w ha hw => h ⟨w, hw⟩ a w ha hw
theorem SL.facts {l : List Oper} (h : (∃ w, At E g s w) → SL P N E ops Q l f g s) : SL P N E ops Q l f g s := fun a w ha hw => h ⟨w, hw⟩ a w ha hw
theorem ST.facts {e : Exit} (h : (∃ w, At E g s w) → ST N E Q e f g s) : ST N E Q e f g s := fun a w ha hw => h ⟨w, hw⟩ a w ha hw
theorem SP.facts {g0 : PH} {s0 : Own} {tail : List Nat} {plan : List (Nat × Nat)} (h : (∃ w, At E g s w) → SP P N E ops Q g0 s0 tail plan f g s) : SP P N E ops Q g0 s0 tail plan f g s :=
  fun L a w h1 hcl h2 ha hw hb => h ⟨w, hw⟩ L a w h1 hcl h2 ha hw hb

theorem At.newRow {w w' : World} {T : TypeId} {k n i cap : Nat} {v : Value} {xs ys : List Value} {zs : List Value} {m : Nat} (h : At E g s w) (hi : s[i]? = some (row T k v n xs)) (hw' : w' = w.drew.alloc (.cells (xs.toArray ++ ys.toArray ++ zs.toArray) T))
    (hx : xs.length = n * k) (hy : ys.length = m * k) (hc : n + m ≤ cap) (hpos : 0 < n + m) (hcm : cap ≤ maxLen) (hz : zs.length = (cap - (n + m)) * k) :
    At E g (s.set i (row T k (.slice (some ⟨w.heap.size, 0, none⟩) (n + m) cap) (n + m) (xs ++ ys))) w' := by
  subst hw'
  obtain ⟨cap, rfl⟩ : ∃ c, cap = c + 1 := ⟨cap - 1, by omega⟩
  have hnew : (w.drew.alloc (.cells (xs.toArray ++ ys.toArray ++ zs.toArray) T)).heap[w.heap.size]? = some (.cells (xs.toArray ++ ys.toArray ++ zs.toArray) T (0, 0)) := heap_alloc_new w.drew _
  refine h.turn hi rfl ⟨rfl, (by first | exact Nat.le_refl _ | exact Nat.le_add_right _ _ | exact Nat.le_succ _)⟩ rfl (by simp) (fun k hk _ => heap_alloc_old w.drew _ k hk) (row_holds (by simp [hx, hy, Nat.add_mul]) hnew hc hcm ?_ ?_) (fun b hb => ?_)
  · simp only [Array.size_append, List.size_toArray, hx, hy, hz, ← Nat.add_mul]
    congr 1
    omega
  · have : (n + m) * k = (xs ++ ys).length := by simp [hx, hy, Nat.add_mul]
    rw [this]
    simp only [Array.toList_append, List.append_assoc]
    rw [← List.append_assoc]
    exact List.take_left
  · simp only [row, rblk, Option.some.injEq] at hb
    subst hb
    exact ⟨by simp, .inr (Nat.le_refl _)⟩

theorem zeroCells_list (z : Array Value) (n : Nat) : Builtin.zeroCells z n = (Builtin.zeroCells z n).toList.toArray := by simp

theorem SO.append {x y : Operand} {t e : TypeId} {k bytes n m : Nat} {z v u : Value} {xs ys : List Value} (i : Nat) (hT : STy P t e k bytes z) (hx : ev f x = some v) (hi : s[i]? = some (row e k v n xs)) (hy : ev f y = some u)
    (hu : isSl u = true) (hm : slen u = m) (hr : Rd g s u ys) (hl : ys.length = m * k) (h1 : ∀ q ∈ ys, q.oneCell' = true) (hb : (n + m) * bytes ≤ 140737488355328) (hlen : n + m ≤ 4611686018427387904) :
    SO P N E ⟨dst, .call ⟨.builtin .append, #[x, y], #[t, t]⟩, ty, pos, af, gd⟩ f g s fun v' g' s' => g = g' ∧ s' = s.set i (row e k v' (n + m) (xs ++ ys)) :=
  SO.of_run fun a w ha hw => by
    obtain ⟨hxl, hform⟩ := row_is hw hi
    obtain ⟨ti, ht1, ht2, ht3, ht4⟩ := hT.info
    have hset : s.set i (row e k v n xs) = s := by
      apply List.ext_getElem?
      intro q
      rw [List.getElem?_set]
      split
      · rename_i e1; subst e1
        split
        · exact hi.symm
        · rename_i h2; simp at h2; rw [List.getElem?_eq_none (by omega)]
      · rfl
    have key : ∃ v' w', (Builtin.append_ #[t, t] ty #[v, u]).run P w = .ok v' w' ∧ At E g (s.set i (row e k v' (n + m) (xs ++ ys))) w' := by
      cases u <;> simp [isSl] at hu
      rename_i p m' c
      simp only [slen] at hm
      subst hm
      have hnil : ys = [] → m' = 0 := fun e => by
        rw [e] at hl
        have := hT.pos
        rcases Nat.mul_eq_zero.1 hl.symm with h | h <;> omega
      have h0 : m' = 0 → ys = [] := fun e => List.eq_nil_of_length_eq_zero (by rw [hl, e]; simp)
      -- nothing is appended
      by_cases hm0 : m' = 0
      · have hy0 := h0 hm0
        subst hm0
        subst hy0
        refine ⟨v, w, ?_, by simpa [hset] using hw⟩
        rcases hform with ⟨q, rfl, rfl⟩ | ⟨b, cap, cur, rfl, _, hle, _⟩
        · cases p <;> cases q <;> simp [Builtin.append_, run_underlying hT.und, hT.size w, Builtin.lenOf, Builtin.firstCells, loadCells, loadCellsFrom, storeCells]
        · cases p <;> simp [Builtin.append_, run_underlying hT.und, hT.size w, Builtin.lenOf, hle, Builtin.firstCells, loadCells, loadCellsFrom, storeCells]
      · have hne : ys ≠ [] := fun e => hm0 (hnil e)
        obtain ⟨y0, hy0⟩ : ∃ y0, ys[0]? = some y0 := by
          cases ys with
          | nil => exact absurd rfl hne
          | cons y r => exact ⟨y, rfl⟩
        obtain ⟨ad, _, _, he, hsp, _⟩ := hr E w hw 0 y0 hy0
        cases he
        have hcells : ∀ j q, ys[j]? = some q → w.cell? (ad.add j) = some q := fun j q hq => by
          obtain ⟨a', _, _, he, _, hc⟩ := hr E w hw j q hq
          cases he
          have hadd : ad.add j = ⟨ad.block, ad.off + j, none⟩ := by
            obtain ⟨b1, o1, s1⟩ := ad
            simp only at hsp
            subst hsp
            unfold Addr.add
            split <;> simp_all
          rw [hadd]
          exact hc
        have hbb : m' * bytes ≤ 140737488355328 := Nat.le_trans (Nat.mul_le_mul_right _ (by omega)) hb
        have hzs : ∀ c, (Builtin.zeroCells z.cells c).toList.length = c * k := fun c => by simp [size_zeroCells, hT.zs]
        rcases hform with ⟨q, rfl, rfl⟩ | ⟨b, cap, cur, rfl, hg, hle, hcm, hcs, htake⟩
        · have hx0 : xs = [] := List.eq_nil_of_length_eq_zero (by simpa using hxl)
          subst hx0
          have hge := grownCap_ge w (0 + m') 0 e
          have hcm := grownCap_le_maxLen w (0 + m') 0 e (by unfold maxLen; omega)
          cases q with
          | none =>
            have h5 := run_append_nil (P := P) w t ty e ti z hT.und ht1 ht2 ad m' c ys (by rw [ht3]; exact hl) hcells (by omega) (by omega) (by rw [ht4]; omega)
            have h6 := hw.newRow (zs := (Builtin.zeroCells z.cells (grownCap w (0 + m') 0 e - (0 + m'))).toList) hi rfl hxl hl hge (by omega) hcm (by rw [hzs])
            refine ⟨_, _, h5, ?_⟩
            simpa using h6
          | some q =>
            have h5 := run_append_grow (P := P) w t ty e ti z hT.und ht1 ht2 q 0 0 [] (by simp) (by simp) ad m' c ys (by rw [ht3]; exact hl) hcells (by omega) (by omega) (by rw [ht4]; exact growslice_fits (by omega) (by simpa using hbb))
            have h6 := hw.newRow (zs := (Builtin.zeroCells z.cells (grownCap w (0 + m') 0 e - (0 + m'))).toList) hi rfl hxl hl hge (by omega) hcm (by rw [hzs])
            refine ⟨_, _, h5, ?_⟩
            simpa using h6
        · by_cases hroom : n + m' ≤ cap + 1
          · have h5 := run_append_room (P := P) w t ty e ti hT.und ht1 b n (cap + 1) cur hg ad m' c ys (by rw [ht3]; exact hl) hcells h1 hroom (by rw [hl, hcs, ht3, ← Nat.add_mul]; exact Nat.mul_le_mul_right _ hroom)
            refine ⟨_, _, h5, ?_⟩
            have hlen2 : n * k + ys.length ≤ cur.size := by rw [hl, hcs, ← Nat.add_mul]; exact Nat.mul_le_mul_right _ hroom
            have hfr := hw.fresh _ (List.mem_of_getElem? hi) b rfl
            refine hw.turn hi rfl ⟨rfl, (by first | exact Nat.le_refl _ | exact Nat.le_add_right _ _ | exact Nat.le_succ _)⟩ rfl (by simp) (fun k' _ hk' => setRow_other w b k' _ (fun e1 => hk' (by simp [row, rblk, e1]))) (row_holds (by simp [hxl, hl, Nat.add_mul]) (setRow_heap w b cur _ e _ hg) hroom hcm ?_ ?_) (fun b' hb' => ?_)
            · rw [ht3]
              simp only [List.size_toArray, List.length_append, List.length_take, List.length_drop, Array.length_toList]
              omega
            · rw [ht3, htake]
              have : (n + m') * k = (xs ++ ys).length := by simp [hxl, hl, Nat.add_mul]
              rw [this]
              exact List.take_left
            · simp only [row, rblk, Option.some.injEq] at hb'
              subst hb'
              exact ⟨by simpa using hfr.2, .inl rfl⟩
          · have holds : ∀ j q, xs[j]? = some q → w.cell? ((⟨b, 0, none⟩ : Addr).add j) = some q := fun j q hq => by
              have hadd : (⟨b, 0, none⟩ : Addr).add j = ⟨b, j, none⟩ := by unfold Addr.add; split <;> simp_all
              rw [← htake, List.getElem?_take] at hq
              split at hq
              · rw [hadd]; simp [World.cell?, hg]; simpa using hq
              · cases hq
            have hge := grownCap_ge w (n + m') (cap + 1) e
            have hcm' := grownCap_le_maxLen w (n + m') (cap + 1) e (by unfold maxLen; omega)
            have h5 := run_append_grow (P := P) w t ty e ti z hT.und ht1 ht2 ⟨b, 0, none⟩ n (cap + 1) xs (by rw [ht3]; exact hxl) holds ad m' c ys (by rw [ht3]; exact hl) hcells (by omega) (by omega) (by rw [ht4]; exact growslice_fits (by omega) hb)
            have h6 := hw.newRow (zs := (Builtin.zeroCells z.cells (grownCap w (n + m') (cap + 1) e - (n + m'))).toList) hi rfl hxl hl hge (by omega) hcm' (by rw [hzs])
            refine ⟨_, _, h5, ?_⟩
            simpa using h6
    obtain ⟨v', w', hr1, hr2⟩ := key
    refine ⟨v', w', g, _, ?_, hr2, rfl, rfl⟩
    simp [execOp, resolve, invoke, builtin, ha.ev hx, ha.ev hy, hr1]
end

/-! A composite literal of a slice. -/
theorem fold_set : ∀ (l : List Value) (m off : Nat) (cs : List Value), off + m + l.length ≤ cs.length →
    ((l.zipIdx m).foldl (fun (a : Array Value) p => a.setIfInBounds (off + p.2) p.1) cs.toArray) = (cs.take (off + m) ++ l ++ cs.drop (off + m + l.length)).toArray
  | [], m, off, cs, _ => by simp
  | x :: r, m, off, cs, h => by
    simp only [List.zipIdx_cons, List.foldl_cons, List.setIfInBounds_toArray]
    have hlen : off + (m + 1) + r.length ≤ (cs.set (off + m) x).length := by simp at h ⊢; omega
    rw [fold_set r (m + 1) off (cs.set (off + m) x) hlen]
    have hlt : off + m < cs.length := by simp at h; omega
    congr 1
    rw [← Nat.add_assoc]
    rw [List.take_succ_eq_append_getElem (by simpa using hlt)]
    simp only [List.getElem_set_self, List.take_set_of_le (Nat.le_refl _)]
    rw [List.drop_set_of_lt (by omega)]
    simp only [List.append_assoc, List.cons_append, List.nil_append, List.length_cons]
    rw [show off + m + 1 + r.length = off + m + (r.length + 1) by omega]

theorem fill_all (k : Nat) : ∀ (vs : List Value) (i : Nat) (cs : List Value), (∀ v ∈ vs, v.cells.size = k) → cs.length = (i + vs.length) * k →
    Instr.fill (fun i => some (i * k, k)) cs.toArray ((vs.zipIdx i).map fun p => (p.2, p.1)) = some (cs.take (i * k) ++ vs.flatMap fun v => v.cells.toList).toArray
  | [], i, cs, _, hl => by
    simp only [List.zipIdx_nil, List.map_nil, Instr.fill, List.flatMap_nil, List.append_nil]
    rw [List.take_of_length_le (by simp at hl; omega)]
  | v :: r, i, cs, hv, hl => by
    have hk := hv v (by simp)
    have hle : i * k + k ≤ cs.length := by rw [hl, ← Nat.succ_mul]; exact Nat.mul_le_mul_right k (by simp)
    simp only [List.zipIdx_cons, List.map_cons, Instr.fill]
    rw [if_neg (by simp [hk]; omega)]
    have hf : v.cells.zipIdx.foldl (fun cs (c, j) => cs.setIfInBounds (i * k + j) c) cs.toArray = (cs.take (i * k) ++ v.cells.toList ++ cs.drop (i * k + k)).toArray := by
      have := fold_set v.cells.toList 0 (i * k) cs (by simp [hk]; omega)
      rw [← Array.foldl_toList, Array.toList_zipIdx]
      simpa [hk] using this
    rw [hf]
    have hlen2 : (cs.take (i * k) ++ v.cells.toList ++ cs.drop (i * k + k)).length = (i + 1 + r.length) * k := by
      simp [hk]
      rw [Nat.min_eq_left (by omega)]
      rw [hl] at hle ⊢
      simp only [List.length_cons] at *
      rw [show i + (r.length + 1) = i + 1 + r.length by omega] at *
      omega
    rw [fill_all k r (i + 1) _ (fun u hu => hv u (by simp [hu])) hlen2]
    congr 2
    have hlen3 : (cs.take (i * k) ++ v.cells.toList).length = (i + 1) * k := by simp [hk, Nat.succ_mul, Nat.min_eq_left (show i * k ≤ cs.length by omega)]
    rw [List.take_append_of_le_length (Nat.le_of_eq hlen3.symm), List.take_of_length_le (Nat.le_of_eq hlen3)]
    simp

theorem run_buildSlice {P : Program} {w : World} {t e : TypeId} {k bytes : Nat} {z : Value} (hT : STy P t e k bytes z) (vs : List Value) (hv : ∀ v ∈ vs, v.cells.size = k) (hb : vs.length * k ≤ 16777216) :
    (Instr.buildSlice t vs.length ((vs.zipIdx).map fun p => (p.2, p.1)).toArray).run P w = .ok (.slice (some ⟨w.heap.size, 0, none⟩) vs.length vs.length) { w with heap := w.heap.push (.cells (vs.flatMap fun v => v.cells.toList).toArray e (0, 0)) } := by
  have hz : ∀ (zs : Array Value), Instr.fill (fun i => some (i * k, k)) ((Array.range (vs.length * k)).map (zs[· % zs.size]!)) ((vs.zipIdx).map fun p => (p.2, p.1)) = some (vs.flatMap fun v => v.cells.toList).toArray := by
    intro zs
    have := fill_all k vs 0 ((Array.range (vs.length * k)).map (zs[· % zs.size]!)).toList hv (by simp)
    simp only [Array.toArray_toList, Nat.zero_mul, List.take_zero, List.nil_append] at this
    exact this
  have hn : ¬ (vs.length * k > 16777216) := by omega
  by_cases h0 : vs.length * k = 0
  · have h1 := hz #[]
    simp only [h0] at h1
    simp [Instr.buildSlice, run_underlying hT.und, hT.size w, h0, newRow]
    simp at h1
    simp [h1]
  · have h1 := hz z.cells
    simp only [Instr.buildSlice, Sem.run_bind, run_underlying hT.und, hT.size w, Result.andThen_ok, h0, if_false, Sem.run_pure, hT.zero w]
    simp [h1, newRow, hn, hT.zero]

section
variable {P : Program} {N : Nat} {E : World} {f : Fr} {g : PH} {s : Own} {dst : Option Tmp} {ty : TypeId} {pos : String} {af : Array Edge} {gd : Option (Nat × Bool)}

/-- The parts of a literal are its elements, in order. -/
def inOrder : Nat → List (Nat × Operand) → Bool
  | _, [] => true
  | i, (j, _) :: r => i == j && inOrder (i + 1) r
theorem inOrder_map {a : Act} (ha : Ok N f a) : ∀ (ps : List (Nat × Operand)) (i : Nat) (vs : List Value), inOrder i ps = true → evs f (ps.map (·.2)) = some vs → (ps.map fun p => (p.1, a.eval p.2)) = (vs.zipIdx i).map fun p => (p.2, p.1)
  | [], _, vs, _, hv => by
    simp only [List.map_nil, evs, Option.some.injEq] at hv
    subst hv
    rfl
  | (j, x) :: r, i, vs, ho, hv => by
    simp only [inOrder, Bool.and_eq_true, beq_iff_eq] at ho
    obtain ⟨rfl, ho⟩ := ho
    simp only [List.map_cons, evs] at hv
    split at hv
    · rename_i v hx
      split at hv
      · rename_i vs' hr
        simp only [Option.some.injEq] at hv
        subst hv
        simp only [List.map_cons, List.zipIdx_cons, ha.ev hx]
        rw [inOrder_map ha r (i + 1) vs' ho hr]
      · cases hv
    · cases hv

theorem SO.buildSlice {t e : TypeId} {k bytes n : Nat} {z : Value} {ps : List (Nat × Operand)} {vs : List Value} (hT : STy P t e k bytes z) (ho : inOrder 0 ps = true) (hp : evs f (ps.map (·.2)) = some vs) (hn : vs.length = n) (hv : ∀ v ∈ vs, v.cells.size = k) (hb : n * k ≤ 16777216) :
    SO P N E ⟨dst, .buildSlice t n ps.toArray, ty, pos, af, gd⟩ f g s fun u g' s' => ∃ b, u = .slice (some ⟨b, 0, none⟩) n n ∧ g = g' ∧ s' = pt b (.cells (vs.flatMap fun v => v.cells.toList).toArray e (0, 0)) :: s :=
  SO.of_run fun a w ha hw => by
    subst hn
    have hr := run_buildSlice (P := P) (w := w) hT vs hv hb
    refine ⟨_, _, g, _, ?_, hw.alloc (e := pt w.heap.size (.cells (vs.flatMap fun v => v.cells.toList).toArray e (0, 0))) rfl rfl, _, rfl, rfl, rfl⟩
    have hm := inOrder_map ha ps 0 vs ho hp
    simp only [execOp, List.map_toArray, hm]
    simp [hr]
end

/-! Slices that are known for good. -/
/-- The slice v has n elements of k cells, and reads as xs. -/
def Sl (g : PH) (k : Nat) (v : Value) (n : Nat) (xs : List Value) : Prop :=
  ∃ p c, v = .slice p n c ∧ (xs.length = n * k ∧ n ≤ c) ∧ (xs ≠ [] → ∃ b o cs T fr, p = some ⟨b, o, none⟩ ∧ g b = some (.cells cs T fr) ∧ ∀ j x, xs[j]? = some x → cs[o + j]? = some x)

section
variable {g g' : PH} {s : Own} {k n : Nat} {v : Value} {xs : List Value}
theorem Sl.mono (h : Sl g k v n xs) (hl : Le g g') : Sl g' k v n xs := by
  obtain ⟨p, c, h1, h2, h3⟩ := h
  refine ⟨p, c, h1, h2, fun hne => ?_⟩
  obtain ⟨b, o, cs, T, fr, h4, h5, h6⟩ := h3 hne
  exact ⟨b, o, cs, T, fr, h4, hl _ _ h5, h6⟩
theorem Sl.isSl (h : Sl g k v n xs) : isSl v = true := by obtain ⟨p, c, rfl, _⟩ := h; rfl
theorem Sl.slen (h : Sl g k v n xs) : slen v = n := by obtain ⟨p, c, rfl, _⟩ := h; rfl
theorem Sl.length (h : Sl g k v n xs) : xs.length = n * k := by obtain ⟨p, c, _, h1, _⟩ := h; exact h1.1
theorem Sl.cells (h : Sl g k v n xs) : v.cells = #[v] := by obtain ⟨p, c, rfl, _⟩ := h; rfl
theorem Sl.one (h : Sl g k v n xs) : v.oneCell' = true := by obtain ⟨p, c, rfl, _⟩ := h; rfl
theorem Sl.based (h : Sl g k v n xs) (hn : 0 < n) (hk : 0 < k) : based v = true := by
  obtain ⟨p, c, rfl, ⟨h2, _⟩, h3⟩ := h
  have : xs ≠ [] := fun e => by rw [e] at h2; have := Nat.mul_pos hn hk; simp at h2; omega
  obtain ⟨b, o, cs, T, fr, rfl, _⟩ := h3 this
  rfl
theorem Sl.rd (h : Sl g k v n xs) : Rd g s v xs := by
  intro E w hw j x hj
  obtain ⟨p, c, rfl, h2, h3⟩ := h
  obtain ⟨b, o, cs, T, fr, rfl, h5, h6⟩ := h3 (fun e => by rw [e] at hj; simp at hj)
  exact ⟨_, _, _, rfl, rfl, CellAt.known (s := s) h5 (h6 j x hj) E w hw⟩
theorem Sl.nil (g : PH) (k : Nat) : Sl g k (.slice none 0 0) 0 [] := ⟨_, _, rfl, ⟨by simp, Nat.le_refl _⟩, fun h => absurd rfl h⟩

/-- What is owned becomes known: a row. -/
theorem At.freezeRow {E : World} {w : World} {T : TypeId} (h : At E g (row T k v n xs :: s) w) : ∃ g', Le g g' ∧ At E g' s w ∧ Sl g' k v n xs := by
  obtain ⟨hlen, h1⟩ := row_is (i := 0) h rfl
  rcases h1 with ⟨p, rfl, rfl⟩ | ⟨b, cap, cur, rfl, hb, hle, _, hsz, htake⟩
  · have : xs = [] := List.eq_nil_of_length_eq_zero (by simpa using hlen)
    subst this
    exact ⟨g, Le.refl g, h.sublist (List.sublist_cons_self _ _), p, 0, rfl, ⟨by simp, Nat.le_refl _⟩, fun h => absurd rfl h⟩
  · obtain ⟨h2, h3⟩ := h.freeze (b := b) rfl hb
    refine ⟨_, h3, h2, some ⟨b, 0, none⟩, cap + 1, rfl, ⟨hlen, hle⟩, fun _ => ⟨b, 0, cur, T, (0, 0), rfl, upd_self _ _ _, fun j x hj => ?_⟩⟩
    rw [← htake, List.getElem?_take] at hj
    split at hj
    · simpa using hj
    · cases hj
end

end Go.Sy
end
section
namespace Go.Sy
open Go

section
variable {P : Program} {N : Nat} {E : World} {ops : Array Oper} {Q : Exit → Act → World → Prop} {f f0 : Fr} {g g' : PH} {s : Own}

def Mid1 (N : Nat) (E : World) (f : Fr) (g : PH) (s : Own) (a : Act) (w : World) : Prop := Ok N f a ∧ At E g s w

/-- A piece of code that leaves one truth value behind. -/
theorem SC.cutB {x y : Code} (r : Nat) (b : Bool) (h1 : SC P N E x (Exit.then (Mid1 N E ((r, .bool b) :: f) g s) Q) f g s) (h2 : SC P N E y Q ((r, .bool b) :: f) g s) : SC P N E (.seq x y) Q f g s := by
  refine SC.seq fun a w ha hw => Code.wp_mono (fun e a' w' h => ?_) (h1 a w ha hw)
  cases e <;> first | exact h | exact h2 a' w' h.1 h.2
/-- f0 says no more than f, but for slot r. -/
def SubX (r : Nat) : Fr → Fr → Prop
  | [], _ => True
  | (t, v) :: q, f => (get? f t = some v ∨ t = r) ∧ SubX r q f
theorem SubX.get {r : Nat} : ∀ {f0 f : Fr}, SubX r f0 f → ∀ t v, t ≠ r → get? f0 t = some v → get? f t = some v
  | [], _, _, _, _, _, hv => by simp [get?] at hv
  | (k, u) :: q, f, h, t, v, ht, hv => by
    simp only [get?] at hv
    by_cases hk : k = t
    · subst hk
      rw [if_pos rfl] at hv
      injection hv with hv
      subst hv
      exact h.1.resolve_right ht
    · rw [if_neg hk] at hv
      exact SubX.get h.2 t v ht hv
theorem ST.mid1 {r : Nat} {b : Bool} (hb : get? f r = some (.bool b)) (hf : SubX r f0 f) : ST N E (Exit.then (Mid1 N E ((r, .bool b) :: f0) g s) Q) .normal f g s :=
  fun a _ ha hw => ⟨⟨ha.defers, ha.size, fun t v hv => by
    simp only [get?] at hv
    by_cases hr : r = t
    · subst hr
      rw [if_pos rfl] at hv
      injection hv with hv
      subst hv
      exact ha.at_ _ _ hb
    · rw [if_neg hr] at hv
      exact ha.at_ t v (hf.get t v (fun e => hr e.symm) hv)⟩, hw⟩

theorem SL.split {l : List Oper} {d : Nat} {p : Prop} [Decidable p] (h1 : p → SL P N E ops Q l ((d, .bool true) :: f) g s) (h2 : ¬ p → SL P N E ops Q l ((d, .bool false) :: f) g s) : SL P N E ops Q l ((d, .bool (decide p)) :: f) g s := by
  by_cases hp : p
  · rw [decide_eq_true hp]; exact h1 hp
  · rw [decide_eq_false hp]; exact h2 hp
theorem SP.split {g0 : PH} {s0 : Own} {tail : List Nat} {plan : List (Nat × Nat)} {d : Nat} {p : Prop} [Decidable p] (h1 : p → SP P N E ops Q g0 s0 tail plan ((d, .bool true) :: f) g s) (h2 : ¬ p → SP P N E ops Q g0 s0 tail plan ((d, .bool false) :: f) g s) :
    SP P N E ops Q g0 s0 tail plan ((d, .bool (decide p)) :: f) g s := by
  by_cases hp : p
  · rw [decide_eq_true hp]; exact h1 hp
  · rw [decide_eq_false hp]; exact h2 hp
end

/-- Each value takes one cell. -/
def Ones : List Value → Prop
  | [] => True
  | u :: r => u.oneCell' = true ∧ Ones r
theorem ones_mk : ∀ {l : List Value}, Ones l → ∀ u ∈ l, u.oneCell' = true
  | [], _, u, hu => by cases hu
  | x :: r, h, u, hu => by
    rcases List.mem_cons.1 hu with rfl | hu
    · exact h.1
    · exact ones_mk h.2 u hu
/-- Each value takes k cells. -/
def Szs (k : Nat) : List Value → Prop
  | [] => True
  | u :: r => u.cells.size = k ∧ Szs k r
theorem szs_mk {k : Nat} : ∀ {l : List Value}, Szs k l → ∀ u ∈ l, u.cells.size = k
  | [], _, u, hu => by cases hu
  | x :: r, h, u, hu => by
    rcases List.mem_cons.1 hu with rfl | hu
    · exact h.1
    · exact szs_mk h.2 u hu

section
variable {P : Program} {N : Nat} {E : World} {f : Fr} {g : PH} {s s1 : Own} {dst : Option Tmp} {ty : TypeId} {pos : String} {af : Array Edge} {gd : Option (Nat × Bool)}

theorem Rd.pt {b n c : Nat} {cs : Array Value} {T : TypeId} {fr : Nat × Nat} (i : Nat) (hi : s[i]? = some (pt b (.cells cs T fr))) : Rd g s (.slice (some ⟨b, 0, none⟩) n c) cs.toList := fun E w hw j x hj =>
  ⟨_, _, _, rfl, rfl, CellAt.own (g := g) (o := 0 + j) i hi (by simpa using hj) E w hw⟩

theorem SO.drop {o : Oper} {K : Value → PH → Own → Prop} {e : Ent} (h : SO P N E o f g (e :: s) fun v g' s' => ∃ s1, s' = e :: s1 ∧ K v g' s1) : SO P N E o f g (e :: s) K := by
  intro a w ha hw Q next hn
  refine h a w ha hw Q next fun v g' s' w' hK hw' => ?_
  obtain ⟨s1, rfl, hK⟩ := hK
  exact hn v g' s1 w' hK (hw'.sublist (List.sublist_cons_self _ _))

theorem SO.mono {o : Oper} {K K' : Value → PH → Own → Prop} (h : SO P N E o f g s K) (hk : ∀ v g' s', K v g' s' → K' v g' s') : SO P N E o f g s K' :=
  fun a w ha hw Q next hn => h a w ha hw Q next fun v g' s' w' hK hw' => hn v g' s' w' (hk v g' s' hK) hw'

/-- append of one element, which lies in a block made for it, the first that is owned. -/
theorem SO.app1 {x y : Operand} {t e : TypeId} {k bytes n b : Nat} {z v : Value} {xs : List Value} {cs : Array Value} (i : Nat) (xs' : List Value) (n' : Nat) (hT : STy P t e k bytes z) (hx : ev f x = some v) (hy : ev f y = some (.slice (some ⟨b, 0, none⟩) 1 1))
    (hs : s = pt b (.cells cs e (0, 0)) :: s1) (hi : s1[i]? = some (row e k v n xs)) (hk : cs.size = k) (h1 : Ones cs.toList) (he : xs ++ cs.toList = xs') (hn : n + 1 = n') (hb : (n + 1) * bytes ≤ 140737488355328) (hlen : n + 1 ≤ 4611686018427387904) :
    SO P N E ⟨dst, .call ⟨.builtin .append, #[x, y], #[t, t]⟩, ty, pos, af, gd⟩ f g s fun v' g' s' => g = g' ∧ s' = s1.set i (row e k v' n' xs') := by
  subst hs
  subst he
  subst hn
  refine SO.drop ((SO.append (i + 1) hT hx hi hy rfl rfl (Rd.pt 0 rfl) (by simp [hk, slen]) (ones_mk h1) hb hlen).mono fun v' g' s' ⟨h2, h3⟩ => ⟨s1.set i (row e k v' (n + 1) (xs ++ cs.toList)), h3, h2, rfl⟩)
end

theorem Sl.form {g : PH} {k n : Nat} {v : Value} {xs : List Value} (h : Sl g k v n xs) : ∃ p c, v = .slice p n c := by obtain ⟨p, c, h1, _⟩ := h; exact ⟨p, c, h1⟩

end Go.Sy
end
section
namespace Go.Sy
open Go

section
variable {P : Program} {N : Nat} {E : World} {ops : Array Oper} {Q : Exit → Act → World → Prop} {f : Fr} {g g' : PH} {s : Own}

theorem SC.less {c : Code} (hl : Le g' g) (h : SC P N E c Q f g' s) : SC P N E c Q f g s := fun a w ha hw => h a w ha (hw.less hl)
theorem SL.less {l : List Oper} (hl : Le g' g) (h : SL P N E ops Q l f g' s) : SL P N E ops Q l f g s := fun a w ha hw => h a w ha (hw.less hl)
theorem ST.less {e : Exit} (hl : Le g' g) (h : ST N E Q e f g' s) : ST N E Q e f g s := fun a w ha hw => h a w ha (hw.less hl)

/-- A variable that is not turned any more is known for good. -/
theorem SC.freeze {c : Code} {b : Nat} {o : Obj} (h : ∀ g', Le g g' → g' b = some o → SC P N E c Q f g' s) : SC P N E c Q f g (pt b o :: s) := fun a w ha hw => by
  have h1 := hw.own (pt b o) (by simp)
  simp only [pt, Option.bind_some] at h1
  obtain ⟨h2, h3⟩ := hw.freeze (b := b) rfl h1
  exact h _ h3 (upd_self _ _ _) a w ha h2
theorem SL.freeze {l : List Oper} {b : Nat} {o : Obj} (h : ∀ g', Le g g' → g' b = some o → SL P N E ops Q l f g' s) : SL P N E ops Q l f g (pt b o :: s) := fun a w ha hw => by
  have h1 := hw.own (pt b o) (by simp)
  simp only [pt, Option.bind_some] at h1
  obtain ⟨h2, h3⟩ := hw.freeze (b := b) rfl h1
  exact h _ h3 (upd_self _ _ _) a w ha h2
theorem ST.freeze {e : Exit} {b : Nat} {o : Obj} (h : ∀ g', Le g g' → g' b = some o → ST N E Q e f g' s) : ST N E Q e f g (pt b o :: s) := fun a w ha hw => by
  have h1 := hw.own (pt b o) (by simp)
  simp only [pt, Option.bind_some] at h1
  obtain ⟨h2, h3⟩ := hw.freeze (b := b) rfl h1
  exact h _ h3 (upd_self _ _ _) a w ha h2
theorem SC.freezeRow {c : Code} {T : TypeId} {k n : Nat} {v : Value} {xs : List Value} (h : ∀ g', Le g g' → Sl g' k v n xs → SC P N E c Q f g' s) : SC P N E c Q f g (row T k v n xs :: s) := fun a w ha hw => by
  obtain ⟨g', h1, h2, h3⟩ := hw.freezeRow
  exact h g' h1 h3 a w ha h2
theorem SL.freezeRow {l : List Oper} {T : TypeId} {k n : Nat} {v : Value} {xs : List Value} (h : ∀ g', Le g g' → Sl g' k v n xs → SL P N E ops Q l f g' s) : SL P N E ops Q l f g (row T k v n xs :: s) := fun a w ha hw => by
  obtain ⟨g', h1, h2, h3⟩ := hw.freezeRow
  exact h g' h1 h3 a w ha h2
theorem ST.freezeRow {e : Exit} {T : TypeId} {k n : Nat} {v : Value} {xs : List Value} (h : ∀ g', Le g g' → Sl g' k v n xs → ST N E Q e f g' s) : ST N E Q e f g (row T k v n xs :: s) := fun a w ha hw => by
  obtain ⟨g', h1, h2, h3⟩ := hw.freezeRow
  exact h g' h1 h3 a w ha h2
end

theorem Ctr.facts {P : Program} {E : World} {n : FuncId} {args : Array Value} {g : PH} {s : Own} {R : Value → PH → Own → Prop} (h : (∃ w, At E g s w) → Ctr P E n args g s R) : Ctr P E n args g s R := fun w hw => h ⟨w, hw⟩ w hw

/-! Things of k cells each. -/
structure Enc (α : Type) (k : Nat) where
  enc : α → List Value
  len : ∀ a, (enc a).length = k
  one : ∀ a, ∀ u ∈ enc a, u.oneCell' = true
  pos : 0 < k

section
variable {α : Type} {k : Nat} (e : Enc α k)

theorem Enc.length (l : List α) : (l.flatMap e.enc).length = l.length * k := by
  induction l with
  | nil => simp
  | cons a r ih => simp [ih, e.len, Nat.succ_mul]; omega

theorem Enc.get {l : List α} {i j : Nat} {a : α} {v : Value} (ha : l[i]? = some a) (hv : (e.enc a)[j]? = some v) : (l.flatMap e.enc)[i * k + j]? = some v := by
  induction l generalizing i with
  | nil => simp at ha
  | cons x r ih =>
    have hj : j < k := by rw [← e.len a]; exact (List.getElem?_eq_some_iff.1 hv).1
    simp only [List.flatMap_cons]
    cases i with
    | zero =>
      simp only [List.getElem?_cons_zero, Option.some.injEq] at ha
      subst ha
      rw [List.getElem?_append_left (by rw [e.len]; omega)]
      simpa using hv
    | succ i =>
      simp only [List.getElem?_cons_succ] at ha
      rw [List.getElem?_append_right (by rw [e.len, Nat.succ_mul]; omega), e.len, show (i + 1) * k + j - k = i * k + j by rw [Nat.succ_mul]; omega]
      exact ih ha

theorem Enc.ones (l : List α) : ∀ u ∈ l.flatMap e.enc, u.oneCell' = true := by
  intro u hu
  obtain ⟨a, _, h⟩ := List.mem_flatMap.1 hu
  exact e.one a u h

theorem Enc.set {l : List α} {i : Nat} {a : α} (hi : i < l.length) : (l.flatMap e.enc).take (i * k) ++ e.enc a ++ (l.flatMap e.enc).drop (i * k + k) = (l.set i a).flatMap e.enc := by
  induction l generalizing i with
  | nil => simp at hi
  | cons x r ih =>
    cases i with
    | zero =>
      simp only [Nat.zero_mul, List.take_zero, List.nil_append, Nat.zero_add, List.flatMap_cons, List.set_cons_zero]
      rw [List.drop_append_of_le_length (by rw [e.len]; omega), List.drop_of_length_le (by rw [e.len]; omega)]
      simp
    | succ i =>
      simp only [List.flatMap_cons, List.set_cons_succ]
      rw [← ih (by simpa using hi)]
      rw [List.take_append, List.drop_append, e.len, List.take_of_length_le (by rw [e.len, Nat.succ_mul]; omega), List.drop_of_length_le (by rw [e.len, Nat.succ_mul]; omega)]
      rw [show (i + 1) * k - k = i * k by rw [Nat.succ_mul]; omega, show (i + 1) * k + k - k = i * k + k by rw [Nat.succ_mul]; omega]
      simp

theorem take_splice {β : Type} (L ys : List β) (o m : Nat) (ho : o ≤ L.length) (hm : o + ys.length ≤ m) : (L.take o ++ ys ++ L.drop (o + ys.length)).take m = (L.take m).take o ++ ys ++ (L.take m).drop (o + ys.length) := by
  have hlen : (L.take o ++ ys).length = o + ys.length := by simp [Nat.min_eq_left ho]
  rw [List.take_append, hlen, List.take_of_length_le (by omega), List.drop_take, List.take_take, Nat.min_eq_left (by omega)]

/-- A row of such things that the call owns. -/
def rowA (T : TypeId) (v : Value) (l : List α) : Ent := row T k v l.length (l.flatMap e.enc)
/-- A slice of such things, known for good. -/
def SlA (g : PH) (v : Value) (l : List α) : Prop := Sl g k v l.length (l.flatMap e.enc)
end

section
variable {α : Type} {k : Nat} {e : Enc α k} {P : Program} {N : Nat} {E : World} {ops : Array Oper} {f : Fr} {g : PH} {s : Own} {dst : Option Tmp} {ty : TypeId} {pos : String} {af : Array Edge} {gd : Option (Nat × Bool)}

theorem SlA.mono {g' : PH} {v : Value} {l : List α} (h : SlA e g v l) (hl : Le g g') : SlA e g' v l := Sl.mono h hl
theorem SlA.form {v : Value} {l : List α} (h : SlA e g v l) : ∃ p c, v = .slice p l.length c := Sl.form h
theorem SlA.based {v : Value} {l : List α} (h : SlA e g v l) (hn : 0 < l.length) : based v = true := Sl.based h hn e.pos

/-- An element, of several cells. -/
theorem SQ.elemA {x : Operand} {T : TypeId} {v : Value} {l : List α} {a : α} {j : Nat} (hT : ∀ w, (isAgg T).run P w = .ok true w) (hk : ∀ w, (sizeOf T).run P w = .ok k w) (hx : ev f x = some (cptr v (j * k))) (hr : Rd g s v (l.flatMap e.enc)) (ha : l[j]? = some a) :
    SQ P N E ⟨dst, .load T x, ty, pos, af, gd⟩ f g s (.agg (e.enc a).toArray) :=
  SQ.loadAggC hT hk hx hr (e.len a) e.pos fun _ _ hv => e.get ha hv
/-- A part of an element. -/
theorem SQ.partA {x : Operand} {T : TypeId} {v : Value} {l : List α} {a : α} {j o : Nat} {u : Value} (hT : ∀ w, (isAgg T).run P w = .ok false w) (hx : ev f x = some (cptr v (j * k + o))) (hr : Rd g s v (l.flatMap e.enc)) (ha : l[j]? = some a) (hu : (e.enc a)[o]? = some u) :
    SQ P N E ⟨dst, .load T x, ty, pos, af, gd⟩ f g s u := SQ.loadC hT hx hr (e.get ha hu)
/-- An element of one cell. -/
theorem SQ.elem1 {e : Enc α 1} {x : Operand} {T : TypeId} {v : Value} {l : List α} {a : α} {j : Nat} {u : Value} (hT : ∀ w, (isAgg T).run P w = .ok false w) (hx : ev f x = some (cptr v (j * 1))) (hr : Rd g s v (l.flatMap e.enc)) (ha : l[j]? = some a) (hu : e.enc a = [u]) :
    SQ P N E ⟨dst, .load T x, ty, pos, af, gd⟩ f g s u := SQ.loadC hT hx hr (by have := e.get (j := 0) ha (v := u) (by rw [hu]; rfl); simpa using this)

theorem SlA.rd {v : Value} {l : List α} (h : SlA e g v l) : Rd g s v (l.flatMap e.enc) := Sl.rd h
theorem Rd.rowA {T : TypeId} {v : Value} {l : List α} (i : Nat) (hi : s[i]? = some (rowA e T v l)) : Rd g s v (l.flatMap e.enc) := Rd.row i hi

theorem rowA_form {w : World} {T : TypeId} {v : Value} {l : List α} {i : Nat} (h : At E g s w) (hi : s[i]? = some (rowA e T v l)) : ∃ p c, v = .slice p l.length c := (row_form h hi).1
theorem rowA_based {w : World} {T : TypeId} {v : Value} {l : List α} {i : Nat} (h : At E g s w) (hi : s[i]? = some (rowA e T v l)) (hn : 0 < l.length) : ∃ b c, v = .slice (some ⟨b, 0, none⟩) l.length c := by
  obtain ⟨_, h2⟩ := row_is h hi
  rcases h2 with ⟨p, rfl, hn'⟩ | ⟨b, cap, cur, rfl, _⟩
  · omega
  · exact ⟨b, cap + 1, rfl⟩

/-- An element of a row of the call's own is written. -/
theorem SO.setA {x y : Operand} {T U : TypeId} {v u : Value} {l : List α} {a : α} {j : Nat} (i : Nat) (hk : ∀ w, (sizeOf T).run P w = .ok k w) (hx : ev f x = some (cptr v (j * k))) (hy : ev f y = some u) (hi : s[i]? = some (rowA e U v l)) (hj : j < l.length) (hu : u.cells.toList = e.enc a) :
    SO P N E ⟨dst, .store T x y, ty, pos, af, gd⟩ f g s fun _ g' s' => g = g' ∧ s' = s.set i (rowA e U v (l.set j a)) :=
  SO.of_skip fun ac w ha hw => by
    obtain ⟨hlen, h2⟩ := row_is hw hi
    have hfr := hw.fresh _ (List.mem_of_getElem? hi)
    rcases h2 with ⟨p, rfl, hn⟩ | ⟨b, cap, cur, rfl, hb, hle, hcm, hcs, ht⟩
    · omega
    · simp only [cptr, Nat.zero_add] at hx
      have husz : u.cells.size = k := by rw [← Array.length_toList, hu, e.len]
      have hjk : j * k + k ≤ l.length * k := by rw [← Nat.succ_mul]; exact Nat.mul_le_mul_right k hj
      have hlk : l.length * k ≤ (cap + 1) * k := Nat.mul_le_mul_right k hle
      have hst := run_storeCells_at P b (j * k) U u.cells.toList 0 cur w hb (by simp [husz]; omega) (by rw [hu]; exact e.one a)
      refine ⟨w.setRow b (cur.toList.take (j * k + 0) ++ u.cells.toList ++ cur.toList.drop (j * k + 0 + u.cells.toList.length)).toArray, g, s.set i (rowA e U (.slice (some ⟨b, 0, none⟩) l.length (cap + 1)) (l.set j a)), ?_, ?_, rfl, rfl⟩
      · simp [execOp, ha.ev hx, ha.ev hy, Instr.storeAt, Instr.sureAddr, storeVar, hk w, husz]
        rw [hst]
        simp [husz]
      · refine hw.turn hi rfl ⟨rfl, (by first | exact Nat.le_refl _ | exact Nat.le_add_right _ _ | exact Nat.le_succ _)⟩ rfl (by simp) (fun k' _ hk' => setRow_other w b k' _ (fun e1 => hk' (by simp [rowA, row, rblk, e1]))) ?_ (fun b' hb' => ?_)
        · have h5 := setRow_heap w b cur (cur.toList.take (j * k + 0) ++ u.cells.toList ++ cur.toList.drop (j * k + 0 + u.cells.toList.length)).toArray U (0, 0) hb
          have hset := e.set (l := l) (a := a) hj
          have := row_holds (T := U) (k := k) (n := l.length) (xs := (l.set j a).flatMap e.enc) (by rw [e.length]; simp) h5 hle hcm (by simp [husz]; omega) (by
            rw [← hset, ← ht, hu]
            have := take_splice cur.toList (e.enc a) (j * k) (l.length * k) (by simp; omega) (by rw [e.len]; omega)
            simpa only [Nat.add_zero, e.len] using this)
          simpa [rowA] using this
        · simp only [rowA, row, rblk, Option.some.injEq] at hb'
          subst hb'
          exact ⟨by simpa using (hfr b rfl).2, .inl rfl⟩
end

end Go.Sy
end
