/-
  Variables of several cells: loads, stores and results, with their sizes apart. No program in sight. A part of an element of a row is written; struct literals; lists held side by side. No program in sight. Maps with integer keys over a symbolic memory: look-ups, stores, lengths, ranges. No program in sight. Ranges over maps with integer keys, by their pairs; sets of integers. No program in sight. A region in a drawn order, where several effects may come up: every order is gone through. No program in sight. Further operations over a symbolic memory: parts of slices, capacities, literals as rows, an element removed. No program in sight. Rows that are made shorter, and cleared parts of rows. No program in sight. A slice of zeros that is appended to nothing. No program in sight. Plain laws on lists: stable sorting by a key. No program in sight. Facts on the program's types that the walks use, and how numbers, sides and cells lie in memory. No condition.
-/
import Derived.Test.YtbfeggodaaojgaaGreatDoorBa01
import Derived.MapKept
import Derived.Laws.Slices
import Derived.Laws.MakeOwn
import Derived.Laws.CopyRow
import Derived.Lib.AppendZeros
import Derived.Below
import Derived.Test.YtbfeggodaaojgaaGreatDoorProg
import Derived.KernelRfl
set_option linter.all false
section
namespace Go.Sy
open Go

section
variable {P : Program} {N : Nat} {E : World} {f : Fr} {g : PH} {s : Own} {dst : Option Tmp} {ty : TypeId} {pos : String} {af : Array Edge} {gd : Option (Nat × Bool)}

theorem SQ.loadVarK {x : Operand} {T U : TypeId} {b k : Nat} {cs : Array Value} {fr : Nat × Nat} (i : Nat) (hT : ∀ w, (isAgg T).run P w = .ok true w) (hk : ∀ w, (sizeOf T).run P w = .ok k w) (hx : ev f x = some (pp b 0))
    (hs : s[i]? = some (pt b (.cells cs U fr))) (hc : cs.size = k) : SQ P N E ⟨dst, .load T x, ty, pos, af, gd⟩ f g s (.agg cs) := SQ.loadVar i hT (by rw [hc]; exact hk) hx hs
theorem SO.storeAllK {T U : TypeId} {x y : Operand} {b k : Nat} {cs : Array Value} {v : Value} (i : Nat) (hk : ∀ w, (sizeOf T).run P w = .ok k w) (hx : ev f x = some (pp b 0)) (hy : ev f y = some v) (hi : s[i]? = some (pt b (.cells cs U (0, 0))))
    (hc : cs.size = k) (hv : v.cells.size = k) (h1 : Ones v.cells.toList) :
    SO P N E ⟨dst, .store T x y, ty, pos, af, gd⟩ f g s fun _ g' s' => g = g' ∧ s' = s.set i (pt b (.cells v.cells U (0, 0))) :=
  SO.storeAll i (by rw [hc]; exact hk) hx hy hi (by rw [hv, hc]) (ones_mk h1)
theorem SO.appendE {x y : Operand} {t e : TypeId} {k bytes n m : Nat} {z v u : Value} {xs ys : List Value} (i n' : Nat) (xs' : List Value) (hT : STy P t e k bytes z) (hx : ev f x = some v) (hi : s[i]? = some (row e k v n xs)) (hy : ev f y = some u)
    (hu : isSl u = true) (hm : slen u = m) (hr : Rd g s u ys) (hl : ys.length = m * k) (h1 : ∀ q ∈ ys, q.oneCell' = true) (hn : n + m = n') (hxs : xs ++ ys = xs') (hb : n' * bytes ≤ 140737488355328) (hlen : n' ≤ 4611686018427387904) :
    SO P N E ⟨dst, .call ⟨.builtin .append, #[x, y], #[t, t]⟩, ty, pos, af, gd⟩ f g s fun v' g' s' => g = g' ∧ s' = s.set i (row e k v' n' xs') := by
  subst hn
  subst hxs
  exact SO.append i hT hx hi hy hu hm hr hl h1 hb hlen
end

section
variable {P : Program} {N : Nat} {E : World} {fn : Func} {R : Value → PH → Own → Prop} {e : Exit} {f : Fr} {g : PH} {s : Own}
/-- The result is a variable; what is owned goes. -/
theorem ST.retCD {T U : TypeId} {t b k : Nat} {cs : Array Value} {fr : Nat × Nat} (i : Nat) (s' : Own) (he : e = .ret ∨ e = .normal) (hr : fn.results = #[.cell t T]) (hv : get? f t = some (pp b 0)) (hT : ∀ w, (isAgg T).run P w = .ok true w) (hk : ∀ w, (sizeOf T).run P w = .ok k w)
    (hs : s[i]? = some (pt b (.cells cs U fr))) (hc : cs.size = k) (hs' : s'.Sublist s) (hR : R (.agg cs) g s') : ST N E (bodyPost P fn (Post E R)) e f g s :=
  fun a w ha hw => by
    have h1 := run_loadVar_own (P := P) hw hT (by rw [hc]; exact hk) hs
    have h2 := ha.at_ t _ hv
    simp only [Array.getD_eq_getD_getElem?] at h2
    have h3 : (results fn a.tmps).run P w = .ok (.agg cs) w := by simp [results, hr, asAddr, pp, h2, h1]
    have h4 : Post E R (.returned (.agg cs)) w := ⟨.agg cs, g, s', rfl, hw.sublist hs', hR⟩
    rcases he with rfl | rfl
    · exact ⟨ha.defers, _, h3, h4⟩
    · exact ⟨ha.defers, _, h3, h4⟩
theorem ST.retCD1 {T U : TypeId} {t u b k : Nat} {cs : Array Value} {fr : Nat × Nat} {x : Value} (i : Nat) (s' : Own) (he : e = .ret ∨ e = .normal) (hr : fn.results = #[.cell t T, .tmp u]) (hv : get? f t = some (pp b 0)) (hu : get? f u = some x)
    (hT : ∀ w, (isAgg T).run P w = .ok true w) (hk : ∀ w, (sizeOf T).run P w = .ok k w)
    (hs : s[i]? = some (pt b (.cells cs U fr))) (hc : cs.size = k) (hs' : s'.Sublist s) (hR : R (.tuple #[.agg cs, x]) g s') : ST N E (bodyPost P fn (Post E R)) e f g s :=
  fun a w ha hw => by
    have h1 := run_loadVar_own (P := P) hw hT (by rw [hc]; exact hk) hs
    have h2 := ha.at_ t _ hv
    have h5 := ha.at_ u _ hu
    simp only [Array.getD_eq_getD_getElem?] at h2 h5
    have h3 : (results fn a.tmps).run P w = .ok (.tuple #[.agg cs, x]) w := by simp [results, hr, asAddr, pp, h2, h1, h5]
    have h4 : Post E R (.returned (.tuple #[.agg cs, x])) w := ⟨_, g, s', rfl, hw.sublist hs', hR⟩
    rcases he with rfl | rfl
    · exact ⟨ha.defers, _, h3, h4⟩
    · exact ⟨ha.defers, _, h3, h4⟩
end

end Go.Sy
end
section
namespace Go.Sy
open Go

theorem Enc.setPart {α : Type} {k : Nat} (e : Enc α k) : ∀ {l : List α} {j o : Nat} {a a' : α} {u : Value}, l[j]? = some a → o < k → e.enc a' = (e.enc a).set o u → (l.flatMap e.enc).set (j * k + o) u = (l.set j a').flatMap e.enc
  | [], _, _, _, _, _, h, _, _ => by simp at h
  | x :: r, 0, o, a, a', u, h, ho, he => by
    simp only [List.getElem?_cons_zero, Option.some.injEq] at h
    subst h
    simp only [List.flatMap_cons, List.set_cons_zero, Nat.zero_mul, Nat.zero_add, he]
    rw [List.set_append_left _ _ (by rw [e.len]; exact ho)]
  | x :: r, j + 1, o, a, a', u, h, ho, he => by
    simp only [List.getElem?_cons_succ] at h
    simp only [List.flatMap_cons, List.set_cons_succ]
    rw [List.set_append_right _ _ (by rw [e.len, Nat.succ_mul]; omega), e.len, show (j + 1) * k + o - k = j * k + o by rw [Nat.succ_mul]; omega, Enc.setPart e h ho he]

section
variable {α : Type} {k : Nat} {e : Enc α k} {P : Program} {N : Nat} {E : World} {f : Fr} {g : PH} {s : Own} {dst : Option Tmp} {ty : TypeId} {pos : String} {af : Array Edge} {gd : Option (Nat × Bool)}

theorem SO.partA {x y : Operand} {T U : TypeId} {v u : Value} {l : List α} {a : α} {j o : Nat} (i : Nat) (a' : α) (hk : ∀ w, (sizeOf T).run P w = .ok 1 w) (hx : ev f x = some (cptr v (j * k + o))) (hy : ev f y = some u) (hi : s[i]? = some (rowA e U v l)) (ha : l[j]? = some a)
    (hu : u.cells = #[u]) (hu1 : u.oneCell' = true) (ho : o < k) (he : e.enc a' = (e.enc a).set o u) :
    SO P N E ⟨dst, .store T x y, ty, pos, af, gd⟩ f g s fun _ g' s' => g = g' ∧ s' = s.set i (rowA e U v (l.set j a')) :=
  SO.of_skip fun ac w hac hw => by
    obtain ⟨hlen, h2⟩ := row_is hw hi
    have hfr := hw.fresh _ (List.mem_of_getElem? hi)
    have hj := (List.getElem?_eq_some_iff.1 ha).1
    rcases h2 with ⟨p, rfl, hn⟩ | ⟨b, cap, cur, rfl, hb, hle, hcm, hcs, ht⟩
    · omega
    · simp only [cptr, Nat.zero_add] at hx
      have hjk : j * k + k ≤ l.length * k := by rw [← Nat.succ_mul]; exact Nat.mul_le_mul_right k hj
      have hlk : l.length * k ≤ (cap + 1) * k := Nat.mul_le_mul_right k hle
      have hst := run_storeCells_at P b (j * k + o) U [u] 0 cur w hb (by simp; omega) (by simpa using hu1)
      refine ⟨w.setRow b (cur.toList.take (j * k + o + 0) ++ [u] ++ cur.toList.drop (j * k + o + 0 + [u].length)).toArray, g, s.set i (rowA e U (.slice (some ⟨b, 0, none⟩) l.length (cap + 1)) (l.set j a')), ?_, ?_, rfl, rfl⟩
      · simp [execOp, hac.ev hx, hac.ev hy, Instr.storeAt, Instr.sureAddr, storeVar, hk w, hu]
        rw [hst]
        simp
      · refine hw.turn hi rfl ⟨rfl, (by first | exact Nat.le_refl _ | exact Nat.le_add_right _ _ | exact Nat.le_succ _)⟩ rfl (by simp) (fun k' _ hk' => setRow_other w b k' _ (fun e1 => hk' (by simp [rowA, row, rblk, e1]))) ?_ (fun b' hb' => ?_)
        · have h5 := setRow_heap w b cur (cur.toList.take (j * k + o + 0) ++ [u] ++ cur.toList.drop (j * k + o + 0 + [u].length)).toArray U (0, 0) hb
          have hset := e.setPart (u := u) ha ho he
          have := row_holds (T := U) (k := k) (n := l.length) (xs := (l.set j a').flatMap e.enc) (by rw [e.length]; simp) h5 hle hcm (by simp; omega) (by
            rw [← hset, ← ht]
            have h6 := take_splice cur.toList [u] (j * k + o) (l.length * k) (by simp; omega) (by simp; omega)
            simp only [Nat.add_zero, List.length_singleton] at h6 ⊢
            rw [h6, List.set_eq_take_append_cons_drop, if_pos (by simp; omega)]
            simp)
          simpa [rowA] using this
        · simp only [rowA, row, rblk, Option.some.injEq] at hb'
          subst hb'
          exact ⟨by simpa using (hfr b rfl).2, .inl rfl⟩

/-- A struct's literal. -/
def evps (f : Fr) : List (Nat × Operand) → Option (List (Nat × Value))
  | [] => some []
  | (i, x) :: r => match ev f x with
    | some v => match evps f r with
      | some vs => some ((i, v) :: vs)
      | none => none
    | none => none
theorem Ok.evps {a : Act} (h : Ok N f a) : ∀ {l : List (Nat × Operand)} {vs : List (Nat × Value)}, Sy.evps f l = some vs → l.map (fun p => (p.1, a.eval p.2)) = vs
  | [], vs, hv => by simp only [Sy.evps, Option.some.injEq] at hv; subst hv; rfl
  | (i, x) :: r, vs, hv => by
    simp only [Sy.evps] at hv
    split at hv
    · rename_i v hx
      split at hv
      · rename_i vs' hr
        simp only [Option.some.injEq] at hv
        subst hv
        simp [h.ev hx, Ok.evps h hr]
      · cases hv
    · cases hv
theorem SU.build {T : TypeId} {ps : List (Nat × Operand)} {vs : List (Nat × Value)} {v : Value} (hp : evps f ps = some vs) (hr : ∀ w, (Instr.build T vs.toArray).run P w = .ok v w) : SU P N ⟨dst, .build T ps.toArray, ty, pos, af, gd⟩ f v := fun a w ha => by
  simp only [execOp, List.map_toArray, ha.evps hp, Sem.run_bind, hr w, Result.andThen_ok]
  rfl
end

/-! Lists held side by side. -/
def All2 {α β : Type} (R : α → β → Prop) : List α → List β → Prop
  | [], [] => True
  | a :: l, b :: m => R a b ∧ All2 R l m
  | _, _ => False
section
variable {α β : Type} {R R' : α → β → Prop}
theorem All2.length : ∀ {l : List α} {m : List β}, All2 R l m → l.length = m.length
  | [], [], _ => rfl
  | _ :: _, _ :: _, h => by simp [All2.length h.2]
  | [], _ :: _, h => h.elim
  | _ :: _, [], h => h.elim
theorem All2.mono (hr : ∀ a b, R a b → R' a b) : ∀ {l : List α} {m : List β}, All2 R l m → All2 R' l m
  | [], [], _ => trivial
  | _ :: _, _ :: _, h => ⟨hr _ _ h.1, All2.mono hr h.2⟩
  | [], _ :: _, h => h.elim
  | _ :: _, [], h => h.elim
theorem All2.get : ∀ {l : List α} {m : List β} {i : Nat} {a : α} {b : β}, All2 R l m → l[i]? = some a → m[i]? = some b → R a b
  | x :: l, y :: m, 0, a, b, h, ha, hb => by simp at ha hb; subst ha; subst hb; exact h.1
  | x :: l, y :: m, i + 1, a, b, h, ha, hb => All2.get (i := i) h.2 (by simpa using ha) (by simpa using hb)
  | [], [], _, _, _, _, ha, _ => by simp at ha
  | [], _ :: _, _, _, _, h, _, _ => h.elim
  | _ :: _, [], _, _, _, h, _, _ => h.elim
theorem All2.append : ∀ {l l' : List α} {m m' : List β}, All2 R l m → All2 R l' m' → All2 R (l ++ l') (m ++ m')
  | [], _, [], _, _, h' => h'
  | _ :: _, _, _ :: _, _, h, h' => ⟨h.1, All2.append h.2 h'⟩
  | [], _, _ :: _, _, h, _ => h.elim
  | _ :: _, _, [], _, h, _ => h.elim
theorem All2.cons_right {l : List α} {b : β} {m : List β} (h : All2 R l (b :: m)) : ∃ a l', l = a :: l' ∧ R a b ∧ All2 R l' m := by
  cases l with
  | nil => exact h.elim
  | cons a l' => exact ⟨a, l', rfl, h.1, h.2⟩
theorem All2.nil_right {l : List α} (h : All2 R l []) : l = [] := by
  cases l with
  | nil => rfl
  | cons a l' => exact h.elim
end

end Go.Sy
end
section
namespace Go.Sy
open Go Go.MapKept

/-- A map's type: int keys. -/
structure MTy (P : Program) (t kt et : TypeId) (z : Value) : Prop where
  und : P.underlying t = some (.map kt et)
  key : P.underlying kt = some (.int .i64)
  zero : ∀ w, (zeroValue et).run P w = .ok z w

def pairV (p : Int × Value) : Value × Value := (vi p.1, p.2)
def entV (e : MapEntry) : Value × Value := (e.key, e.val)

/-- The map's entries, in the order in which they came. -/
def MapI (l : List (Int × Value)) (es : Array MapEntry) (clk : Nat) : Prop := es.toList.map entV = l.map pairV ∧ Stamped es clk

def mp (b : Nat) (l : List (Int × Value)) : Ent := ⟨some b, fun oo => ∃ es clk, oo = some (.map es clk) ∧ MapI l es clk⟩
def Mp (g : PH) (b : Nat) (l : List (Int × Value)) : Prop := ∃ es clk, g b = some (.map es clk) ∧ MapI l es clk
theorem Mp.mono {g g' : PH} {b : Nat} {l : List (Int × Value)} (h : Mp g b l) (hl : Le g g') : Mp g' b l := by
  obtain ⟨es, clk, h1, h2⟩ := h
  exact ⟨es, clk, hl _ _ h1, h2⟩

def fnd (k : Int) : List (Int × Value) → Nat → Option (Nat × Value)
  | [], _ => none
  | (a, v) :: r, i => if k = a then some (i, v) else fnd k r (i + 1)
def mget (l : List (Int × Value)) (k : Int) : Option Value := (fnd k l 0).map (·.2)
def mput (l : List (Int × Value)) (k : Int) (v : Value) : List (Int × Value) :=
  match l with
  | [] => [(k, v)]
  | (a, u) :: r => if k = a then (k, v) :: r else (a, u) :: mput r k v

theorem fnd_shift (k : Int) : ∀ (l : List (Int × Value)) (i : Nat), (fnd k l i).map (·.2) = mget l k
  | [], _ => rfl
  | (a, v) :: r, i => by
    unfold mget
    simp only [fnd]
    split
    · rfl
    · rw [fnd_shift k r (i + 1), fnd_shift k r (0 + 1)]
theorem mget_nil (k : Int) : mget [] k = none := rfl
theorem mget_cons (a : Int) (v : Value) (r : List (Int × Value)) (k : Int) : mget ((a, v) :: r) k = if k = a then some v else mget r k := by
  unfold mget
  simp only [fnd]
  split
  · rfl
  · exact fnd_shift k r 1
theorem mget_mput (l : List (Int × Value)) (k : Int) (v : Value) (j : Int) : mget (mput l k v) j = if j = k then some v else mget l j := by
  induction l with
  | nil => simp [mput, mget_cons, mget_nil]
  | cons p r ih =>
    obtain ⟨a, u⟩ := p
    simp only [mput]
    split
    · rename_i h
      subst h
      simp only [mget_cons]
      split <;> simp_all
    · rename_i h
      simp only [mget_cons, ih]
      by_cases hj : j = a
      · subst hj
        simp [Ne.symm h]
      · simp [hj]

theorem findNow_eq (k : Int) : ∀ (es : List MapEntry) (l : List (Int × Value)) (i : Nat), es.map entV = l.map pairV → Instr.findNow (.int .i64) (vi k) es i = some (fnd k l i)
  | [], [], _, _ => rfl
  | [], _ :: _, _, h => by simp at h
  | _ :: _, [], _, h => by simp at h
  | e :: es, (a, v) :: l, i, h => by
    simp only [List.map_cons, List.cons.injEq, entV, pairV, Prod.mk.injEq] at h
    obtain ⟨⟨h1, h2⟩, h3⟩ := h
    simp only [Instr.findNow, h1, Instr.sameNow, if_true, fnd]
    by_cases hk : k = a
    · simp [hk, h2]
    · have : (k == a) = false := by simpa using hk
      rw [this]
      simp only [hk, if_false]
      exact findNow_eq k es l (i + 1) h3

section
variable {P : Program} {w : World} {t kt et : TypeId} {z : Value} {b : Nat} {es : Array MapEntry} {clk : Nat} {l : List (Int × Value)}

theorem run_lookup_map (hT : MTy P t kt et z) (hb : w.heap[b]? = some (.map es clk)) (hm : MapI l es clk) (k : Int) (ok : Bool) :
    (Instr.lookup t (.map (some b)) (vi k) ok).run P w = .ok (if ok then .tuple #[(mget l k).getD z, .bool (mget l k).isSome] else (mget l k).getD z) w := by
  have hf := findNow_eq k es.toList l 0 hm.1
  have h1 := MapKept.run_findKey (w := w) hT.key hf
  have h2 := MapKept.run_checkKey (P := P) (w := w) hT.key (k := vi k) rfl es.isEmpty 9999
  unfold Instr.lookup
  simp only [Sem.run_bind, run_underlying hT.und, Result.andThen_ok, MapKept.run_getObj_map hb, Sem.run_pure, h2, h1]
  unfold mget
  cases hc : fnd k l 0 with
  | none => simp [hT.zero w]
  | some q => obtain ⟨i, v⟩ := q; simp

theorem fnd_spec (k : Int) : ∀ (l : List (Int × Value)) (i : Nat), (fnd k l i = none ∧ ∀ p ∈ l, p.1 ≠ k) ∨ ∃ j v, fnd k l i = some (i + j, v) ∧ l[j]? = some (k, v) ∧ ∀ u, mput l k u = l.set j (k, u)
  | [], _ => .inl ⟨rfl, by simp⟩
  | (a, v) :: r, i => by
    by_cases h : k = a
    · subst h
      exact .inr ⟨0, v, by simp [fnd], rfl, by simp [mput]⟩
    · rcases fnd_spec k r (i + 1) with ⟨h1, h2⟩ | ⟨j, v', h1, h2, h3⟩
      · refine .inl ⟨by simp [fnd, h, h1], fun p hp => ?_⟩
        rcases List.mem_cons.1 hp with e | e
        · rw [e]; exact fun e2 => h e2.symm
        · exact h2 p e
      · exact .inr ⟨j + 1, v', by simp [fnd, h, h1]; omega, by simpa using h2, by simp [mput, h, h3]⟩

theorem mput_none (k : Int) (v : Value) : ∀ (l : List (Int × Value)), (∀ p ∈ l, p.1 ≠ k) → mput l k v = l ++ [(k, v)]
  | [], _ => rfl
  | (a, u) :: r, h => by
    have h1 : k ≠ a := fun e => h (a, u) (by simp) e.symm
    simp only [mput, h1, if_false, List.cons_append, mput_none k v r (fun p hp => h p (by simp [hp]))]

theorem run_mapUpdate_map (hT : MTy P t kt et z) (hb : w.heap[b]? = some (.map es clk)) (hm : MapI l es clk) (k : Int) (v : Value) :
    ∃ es' clk', (Instr.mapUpdate t (.map (some b)) (vi k) v).run P w = .ok () { w with heap := w.heap.setIfInBounds b (.map es' clk') } ∧ MapI (mput l k v) es' clk' := by
  have hf := findNow_eq k es.toList l 0 hm.1
  have h1 := MapKept.run_findKey (w := w) hT.key hf
  have h2 := MapKept.run_checkKey (P := P) (w := w) hT.key (k := vi k) rfl false 9999
  have hlen : es.toList.length = l.length := by have := congrArg List.length hm.1; simpa using this
  rcases fnd_spec k l 0 with ⟨hn, hne⟩ | ⟨j, u, hs, hj, hput⟩
  · refine ⟨es.push { key := vi k, val := v, born := clk }, clk + 1, ?_, ?_, ?_⟩
    · rw [hn] at h1
      simp [Instr.mapUpdate, run_underlying hT.und, MapKept.run_getObj_map hb, h2, h1, MapKept.run_setObj_map _ hb]
    · rw [mput_none k v l hne]
      simp [hm.1, entV, pairV]
    · refine stamped_push hm.2 ?_
      intro x hx e
      have : entV x ∈ l.map pairV := by rw [← hm.1]; exact List.mem_map.2 ⟨x, hx, rfl⟩
      obtain ⟨p, hp, hpe⟩ := List.mem_map.1 this
      simp only [pairV, entV, Prod.mk.injEq] at hpe
      refine hne p hp ?_
      rw [e] at hpe
      simpa using hpe.1
  · have hjl : j < es.toList.length := by rw [hlen]; exact (List.getElem?_eq_some_iff.1 hj).1
    have hkey : (es.toList[j]).key = vi k := by
      have h3 := congrArg (·[j]?) hm.1
      simp only [List.getElem?_map, hj, Option.map_some, List.getElem?_eq_getElem hjl, Option.some.injEq, entV, pairV, Prod.mk.injEq] at h3
      exact h3.1
    have hje : es[j]? = some es.toList[j] := by simp at hjl; simp [hjl]
    rw [hs, Nat.zero_add] at h1
    refine ⟨es.modify j fun e => { e with key := vi k, val := v }, clk, ?_, ?_, ?_⟩
    · have h4 := MapKept.run_keyThatStays (P := P) (w := w) (d := .int .i64) (k := vi k) rfl
      have hkey' : ∀ h : j < es.size, es[j].key = vi k := fun h => by simpa using hkey
      simp [Instr.mapUpdate, run_underlying hT.und, MapKept.run_getObj_map hb, h2, h1, hje, hkey', h4, MapKept.run_setObj_map _ hb]
    · rw [hput v]
      apply List.ext_getElem?
      intro q
      have h3 := congrArg (·[q]?) hm.1
      simp only [List.getElem?_map] at h3
      rw [List.getElem?_map, List.getElem?_map, List.getElem?_set, Array.toList_modify, List.getElem?_modify]
      by_cases hq : j = q
      · subst hq
        have : j < l.length := by omega
        simp [this, List.getElem?_eq_getElem hjl, entV, pairV]
      · simp only [hq, if_false]
        simpa using h3
    · exact stamped_modify hm.2 _ _ (fun _ _ => rfl) (fun e' _ he' => by
        rw [hje] at he'
        injection he' with he'
        rw [← he', hkey])
end

section
variable {P : Program} {N : Nat} {E : World} {ops : Array Oper} {Q : Exit → Act → World → Prop} {f : Fr} {g : PH} {s : Own} {dst : Option Tmp} {ty : TypeId} {pos : String} {af : Array Edge} {gd : Option (Nat × Bool)}
variable {t kt et : TypeId} {z : Value} {b : Nat} {l : List (Int × Value)} {x y u : Operand} {k : Int} {v : Value}

/-- In every memory of which (g, s) speaks block b is the map l. -/
def MapAt (g : PH) (s : Own) (b : Nat) (l : List (Int × Value)) : Prop := ∀ E w, At E g s w → ∃ es clk, w.heap[b]? = some (.map es clk) ∧ MapI l es clk
theorem MapAt.own (i : Nat) (hi : s[i]? = some (mp b l)) : MapAt g s b l := fun E w hw => by
  obtain ⟨es, clk, h1, h2⟩ := hw.own _ (List.mem_of_getElem? hi)
  exact ⟨es, clk, by simpa [mp] using h1, h2⟩
theorem MapAt.known (h : Mp g b l) : MapAt g s b l := fun E w hw => by
  obtain ⟨es, clk, h1, h2⟩ := h
  exact ⟨es, clk, hw.known _ _ h1, h2⟩

theorem SQ.lookup (hT : MTy P t kt et z) (hx : ev f x = some (.map (some b))) (hy : ev f y = some (vi k)) (hm : MapAt g s b l) : SQ P N E ⟨dst, .lookup t x y false, ty, pos, af, gd⟩ f g s ((mget l k).getD z) := fun a w ha hw => by
  obtain ⟨es, clk, h1, h2⟩ := hm E w hw
  simp [execOp, ha.ev hx, ha.ev hy, run_lookup_map hT h1 h2]
theorem SQ.lookupOk (hT : MTy P t kt et z) (hx : ev f x = some (.map (some b))) (hy : ev f y = some (vi k)) (hm : MapAt g s b l) : SQ P N E ⟨dst, .lookup t x y true, ty, pos, af, gd⟩ f g s (.tuple #[(mget l k).getD z, .bool (mget l k).isSome]) := fun a w ha hw => by
  obtain ⟨es, clk, h1, h2⟩ := hm E w hw
  simp [execOp, ha.ev hx, ha.ev hy, run_lookup_map hT h1 h2]
theorem SQ.lenMap (hT : P.underlying t = some (.map kt et)) (hx : ev f x = some (.map (some b))) (hm : MapAt g s b l) : SQ P N E ⟨dst, .call ⟨.builtin .len, #[x], #[t]⟩, ty, pos, af, gd⟩ f g s (vi l.length) := fun a w ha hw => by
  obtain ⟨es, clk, h1, h2⟩ := hm E w hw
  have hlen : es.toList.length = l.length := by have := congrArg List.length h2.1; simpa using this
  simp at hlen
  simp [execOp, resolve, invoke, builtin, ha.ev hx, Builtin.len_, run_underlying hT, MapKept.run_getObj_map h1, goInt, hlen]

theorem SO.mkMap {T : TypeId} : SO P N E ⟨dst, .makeMap T none, ty, pos, af, gd⟩ f g s fun u g' s' => ∃ b, u = .map (some b) ∧ g = g' ∧ s' = mp b [] :: s :=
  SO.of_run fun a w _ hw => ⟨.map (some w.heap.size), _, g, _, by simp [execOp, Instr.makeMap], hw.alloc (e := mp w.heap.size []) rfl ⟨#[], 0, rfl, rfl, stamped_empty 0⟩, _, rfl, rfl, rfl⟩

theorem SO.mapUpdate (i : Nat) (hT : MTy P t kt et z) (hx : ev f x = some (.map (some b))) (hy : ev f y = some (vi k)) (hu : ev f u = some v) (hi : s[i]? = some (mp b l)) :
    SO P N E ⟨dst, .mapUpdate t x y u, ty, pos, af, gd⟩ f g s fun _ g' s' => g = g' ∧ s' = s.set i (mp b (mput l k v)) :=
  SO.of_skip fun a w ha hw => by
    obtain ⟨es, clk, h1, h2⟩ := hw.own _ (List.mem_of_getElem? hi)
    have hb : w.heap[b]? = some (.map es clk) := by simpa [mp] using h1
    obtain ⟨es', clk', hr, hm'⟩ := run_mapUpdate_map hT hb h2 k v
    have hfr := hw.fresh _ (List.mem_of_getElem? hi) b rfl
    obtain ⟨e1, e2⟩ := MapKept.heap_set (o' := .map es' clk') hb
    refine ⟨_, g, s.set i (mp b (mput l k v)), by simp [execOp, ha.ev hx, ha.ev hy, ha.ev hu, hr]; rfl, ?_, rfl, rfl⟩
    refine hw.turn hi rfl ⟨rfl, (by first | exact Nat.le_refl _ | exact Nat.le_add_right _ _ | exact Nat.le_succ _)⟩ rfl (by simp) (fun q _ hne => e2 q (fun e => hne (by simp [mp, e]))) ⟨es', clk', by simpa [mp] using e1, hm'⟩ (fun b' hb' => ?_)
    simp only [mp, Option.some.injEq] at hb'
    subst hb'
    exact ⟨by simpa using hfr.2, .inl rfl⟩

/-- A map that is not turned any more is known for good. -/
theorem At.freezeMap {w : World} (h : At E g (mp b l :: s) w) : ∃ g', Le g g' ∧ At E g' s w ∧ Mp g' b l := by
  obtain ⟨es, clk, h1, h2⟩ := h.own _ (List.mem_cons_self ..)
  have hb : w.heap[b]? = some (.map es clk) := by simpa [mp] using h1
  obtain ⟨h3, h4⟩ := h.freeze (b := b) rfl hb
  exact ⟨_, h4, h3, es, clk, upd_self _ _ _, h2⟩
theorem SC.freezeMap {c : Code} (h : ∀ g', Le g g' → Mp g' b l → SC P N E c Q f g' s) : SC P N E c Q f g (mp b l :: s) := fun a w ha hw => by
  obtain ⟨g', h1, h2, h3⟩ := hw.freezeMap
  exact h g' h1 h3 a w ha h2
theorem SL.freezeMap {l' : List Oper} (h : ∀ g', Le g g' → Mp g' b l → SL P N E ops Q l' f g' s) : SL P N E ops Q l' f g (mp b l :: s) := fun a w ha hw => by
  obtain ⟨g', h1, h2, h3⟩ := hw.freezeMap
  exact h g' h1 h3 a w ha h2
theorem ST.freezeMap {e : Exit} (h : ∀ g', Le g g' → Mp g' b l → ST N E Q e f g' s) : ST N E Q e f g (mp b l :: s) := fun a w ha hw => by
  obtain ⟨g', h1, h2, h3⟩ := hw.freezeMap
  exact h g' h1 h3 a w ha h2
end

/-! A range over a map that is known for good. -/
/-- The iterator in block r: it has met the entries vis. -/
def iter (r m : Nat) (es : Array MapEntry) (clk : Nat) (vis : List MapEntry) : Ent := ⟨some r, fun oo => oo = some (.mapIter (some m) clk (vis.map (·.born)).toArray clk)⟩
/-- What the iterator's list of entries must be. -/
structure Vis (es : Array MapEntry) (vis : List MapEntry) : Prop where
  sub : ∀ e ∈ vis, e ∈ es.toList
  nodup : (vis.map (·.born)).Nodup

theorem born_inj {es : Array MapEntry} {clk : Nat} (h : Stamped es clk) {a b : MapEntry} (ha : a ∈ es.toList) (hb : b ∈ es.toList) (he : a.born = b.born) : a = b := by
  have h1 := h.2.1
  obtain ⟨i, hi, rfl⟩ := List.getElem_of_mem ha
  obtain ⟨j, hj, rfl⟩ := List.getElem_of_mem hb
  have : i = j := by
    have h2 := List.nodup_iff_pairwise_ne.1 h1
    by_cases hij : i = j
    · exact hij
    · exfalso
      rcases Nat.lt_or_gt_of_ne hij with h3 | h3
      · have := List.pairwise_iff_getElem.1 h2 i j (by simpa using hi) (by simpa using hj) h3
        simp at this; exact this (by simpa using he)
      · have := List.pairwise_iff_getElem.1 h2 j i (by simpa using hj) (by simpa using hi) h3
        simp at this; exact this (by simpa using he.symm)
  subst this
  rfl

section
variable {P : Program} {N : Nat} {E : World} {f : Fr} {g : PH} {s : Own} {dst : Option Tmp} {ty : TypeId} {pos : String} {af : Array Edge} {gd : Option (Nat × Bool)}
variable {t kt et : TypeId} {m r clk : Nat} {es : Array MapEntry} {vis : List MapEntry} {x : Operand}

theorem SO.range (hT : P.underlying t = some (.map kt et)) (hx : ev f x = some (.map (some m))) (hm : g m = some (.map es clk)) :
    SO P N E ⟨dst, .range t x, ty, pos, af, gd⟩ f g s fun u g' s' => ∃ r, u = pp r 0 ∧ g = g' ∧ s' = iter r m es clk [] :: s :=
  SO.of_run fun a w ha hw => ⟨pp w.heap.size 0, { w with heap := w.heap.push (.mapIter (some m) clk #[] clk) }, g, iter w.heap.size m es clk [] :: s, by
    have hb := hw.known _ _ hm
    simp [execOp, ha.ev hx, Instr.range, run_underlying hT, MapKept.run_getObj_map hb], hw.alloc (e := iter w.heap.size m es clk []) rfl rfl, _, rfl, rfl, rfl⟩

theorem SO.next (i : Nat) (hx : ev f x = some (pp r 0)) (hi : s[i]? = some (iter r m es clk vis)) (hm : g m = some (.map es clk)) (hst : Stamped es clk) (hv : Vis es vis) :
    SO P N E ⟨dst, .next x false, ty, pos, af, gd⟩ f g s fun u g' s' => g = g' ∧
      ((u = .tuple #[.bool false] ∧ s = s' ∧ ∀ e ∈ es.toList, e ∈ vis) ∨ ∃ e, e ∈ es.toList ∧ e.born ∉ vis.map (·.born) ∧ u = .tuple #[.bool true, e.key, e.val] ∧ s' = s.set i (iter r m es clk (vis ++ [e]))) :=
  SO.of_run fun a w ha hw => by
    have hit := hw.own _ (List.mem_of_getElem? hi)
    have hb := hw.known _ _ hm
    have hr : w.heap[r]? = some (.mapIter (some m) clk (vis.map (·.born)).toArray clk) := by simpa [iter] using hit
    have hget : (getObj r).run P w = .ok (.mapIter (some m) clk (vis.map (·.born)).toArray clk) w := by simp [getObj, Sem.run, hr]
    have hold : ∀ e ∈ es.toList, e.born < clk := hst.1
    have hall : (es.all (·.born ≥ clk)) = true → es = #[] := fun h => by
      rw [Array.all_eq_true_iff_forall_mem] at h
      apply Array.eq_empty_of_size_eq_zero
      cases hsz : es.size with
      | zero => rfl
      | succ q =>
        exfalso
        have h0 : 0 < es.size := by omega
        have h1 := h es[0] (Array.getElem_mem h0)
        have h2 := hold es[0] (by simp)
        simp at h1
        omega
    have hfl : (es.filter fun e => !(vis.map (·.born)).toArray.contains e.born).filter (·.born < clk) = es.filter fun e => !(vis.map (·.born)).toArray.contains e.born := by
      apply Array.ext'
      simp only [Array.toList_filter]
      rw [List.filter_eq_self]
      intro e he
      have := hold e (List.mem_filter.1 he).1
      simpa using this
    have hfn : (es.filter fun e => !(vis.map (·.born)).toArray.contains e.born).filter (·.born ≥ clk) = #[] := by
      apply Array.ext'
      simp only [Array.toList_filter]
      rw [List.filter_eq_nil_iff]
      intro e he
      have := hold e (List.mem_filter.1 he).1
      simp; omega
    generalize hL : es.filter (fun e => !(vis.map (·.born)).toArray.contains e.born) = left at hfl hfn
    have hmem : ∀ e, e ∈ left.toList ↔ e ∈ es.toList ∧ e.born ∉ vis.map (·.born) := fun e => by
      rw [← hL]
      simp
    have hguard : (!(vis.map (·.born)).toArray.isEmpty && !es.isEmpty && es.all (·.born ≥ clk)) = false := by
      cases h1 : es.all (·.born ≥ clk) with
      | false => simp
      | true => rw [hall h1]; simp
    have hfresh := hw.fresh _ (List.mem_of_getElem? hi) r rfl
    by_cases hempty : left = #[]
    · -- none is left
      refine ⟨.tuple #[.bool false], w, g, s, ?_, hw, rfl, .inl ⟨rfl, rfl, fun e he => ?_⟩⟩
      · simp only [execOp, ha.ev hx, Instr.next, Sem.run_bind, hget, Result.andThen_ok, MapKept.run_getObj_map hb, hguard, Bool.false_eq_true, if_false, Sem.run_pure, hL, hfl, hfn, hempty]
        simp [choose, Sem.run, Question.forced]
      · by_cases hin : e.born ∈ vis.map (·.born)
        · obtain ⟨e', he', heq⟩ := List.mem_map.1 hin
          rw [← born_inj hst (hv.sub e' he') he heq]
          exact he'
        · have := (hmem e).2 ⟨he, hin⟩
          rw [hempty] at this
          simp at this
    · have hsz : 0 < left.size := by
        rcases Nat.eq_zero_or_pos left.size with h | h
        · exact absurd (Array.eq_empty_of_size_eq_zero h) hempty
        · exact h
      have hcand : ((if left.isEmpty then #[none] else #[]) ++ (left ++ #[]).map some : Array (Option MapEntry)) = left.map some := by
        have : left.isEmpty = false := by simpa using hempty
        simp [this]
      -- the entry that is drawn
      have hch : ∃ (q : Nat) (w' : World), (choose (.mapNext left.size)).run P w = .ok q w' ∧ q < left.size ∧ ∃ n, w.drawn ≤ n ∧ w' = { w with drawn := n } := by
        by_cases h1 : left.size ≤ 1
        · exact ⟨0, w, by simp [choose, Sem.run, Question.forced, h1], hsz, w.drawn, Nat.le_refl _, rfl⟩
        · exact ⟨_, _, by simp [choose, Sem.run, Question.forced, h1, Question.cut]; rfl, Nat.mod_lt _ hsz, w.drawn + 1, Nat.le_succ _, rfl⟩
      obtain ⟨q, w', hq1, hq2, n, hq0, hq3⟩ := hch
      have hr' : w'.heap[r]? = some (.mapIter (some m) clk (vis.map (·.born)).toArray clk) := by rw [hq3]; exact hr
      have hset : (setObj r (.mapIter (some m) clk ((vis.map (·.born)).toArray.push left[q].born) clk)).run P w' = .ok () { w' with heap := w'.heap.setIfInBounds r (.mapIter (some m) clk ((vis.map (·.born)).toArray.push left[q].born) clk) } := by
        simp [setObj, Sem.run, hr']
      have hin : left[q] ∈ left.toList := by simp
      refine ⟨.tuple #[.bool true, left[q].key, left[q].val], { w' with heap := w'.heap.setIfInBounds r (.mapIter (some m) clk ((vis.map (·.born)).toArray.push left[q].born) clk) }, g, s.set i (iter r m es clk (vis ++ [left[q]])), ?_, ?_, rfl, .inr ⟨left[q], ((hmem _).1 hin).1, ((hmem _).1 hin).2, rfl, rfl⟩⟩
      · simp only [execOp, ha.ev hx, Instr.next, Sem.run_bind, hget, Result.andThen_ok, MapKept.run_getObj_map hb, hguard, Bool.false_eq_true, if_false, Sem.run_pure, hL, hfl, hfn]
        rw [hcand]
        simp only [Array.size_map, hq1, Result.andThen_ok]
        have hg2 : (left.map some)[q]? = some (some left[q]) := by simp [hq2]
        simp only [hg2, Sem.run_bind, hset, Result.andThen_ok, Sem.run_pure]
      · have hw2 : At E g s w' := by rw [hq3]; exact hw.drew n hq0
        have hlt : r < w'.heap.size := by rw [hq3]; exact hfresh.2
        refine hw2.turn hi rfl ⟨rfl, (by first | exact Nat.le_refl _ | exact Nat.le_add_right _ _ | exact Nat.le_succ _)⟩ rfl (by simp) (fun k _ hk => by simp only [Array.getElem?_setIfInBounds_ne (fun e => hk (by simp [iter, e]) : r ≠ k)]) ?_ (fun b' hb' => ?_)
        · simp [iter, hlt]
        · simp only [iter, Option.some.injEq] at hb'
          subst hb'
          exact ⟨by simpa using hlt, .inl rfl⟩

theorem SQ.entry {e : MapEntry} (i : Nat) (hx : ev f x = some (pp r 0)) (hi : s[i]? = some (iter r m es clk (vis ++ [e]))) (hm : g m = some (.map es clk)) (hst : Stamped es clk) (he : e ∈ es.toList) :
    SQ P N E ⟨dst, .entry x, ty, pos, af, gd⟩ f g s (.tuple #[e.key, e.val]) := fun a w ha hw => by
  have hit := hw.own _ (List.mem_of_getElem? hi)
  have hb := hw.known _ _ hm
  have hr : w.heap[r]? = some (.mapIter (some m) clk ((vis ++ [e]).map (·.born)).toArray clk) := by simpa [iter] using hit
  have hget : (getObj r).run P w = .ok (.mapIter (some m) clk ((vis ++ [e]).map (·.born)).toArray clk) w := by simp [getObj, Sem.run, hr]
  have hback : ((vis ++ [e]).map (·.born)).toArray.back? = some e.born := by simp
  have hfind : es.find? (·.born == e.born) = some e := by
    rw [← Array.find?_toList]
    have h1 : (es.toList.find? (·.born == e.born)).isSome := by
      rw [List.find?_isSome]
      exact ⟨e, he, by simp⟩
    obtain ⟨e', he'⟩ := Option.isSome_iff_exists.1 h1
    have h2 := List.find?_some he'
    have h3 := List.mem_of_find?_eq_some he'
    rw [he', born_inj hst h3 he (by simpa using h2)]
  simp [execOp, ha.ev hx, Instr.entry, hget, MapKept.run_getObj_map hb, hfind]
end

end Go.Sy
end
section
namespace Go.Sy
open Go Go.MapKept

def unV (q : Value × Value) : Int × Value := (match q.1 with | .int _ z => z | _ => 0, q.2)
theorem unV_pair (p : Int × Value) : unV (pairV p) = p := rfl
theorem unV_pairs (l : List (Int × Value)) : (l.map pairV).map unV = l := by
  rw [List.map_map]
  conv => rhs; rw [← List.map_id l]
  rfl

theorem length_le_of_nodup {l m : List Nat} (hm : m.Nodup) (hl : l.Nodup) (h : ∀ x ∈ m, x ∈ l) : m.length ≤ l.length := by
  have hp : (l.filter (fun x => decide (x ∈ m))).Perm m := (List.perm_ext_iff_of_nodup (hl.filter _) hm).2 fun x => by
    rw [List.mem_filter]
    exact ⟨fun h1 => by simpa using h1.2, fun h1 => ⟨h x h1, by simpa using h1⟩⟩
  have := hp.length_eq
  have := List.length_filter_le (fun x => decide (x ∈ m)) l
  omega

/-- What a range has met. -/
structure RVis (l : List (Int × Value)) (es : Array MapEntry) (vis : List MapEntry) (vl : List (Int × Value)) : Prop where
  ok : Vis es vis
  eq : vis.map entV = vl.map pairV

theorem RVis.nil (l : List (Int × Value)) (es : Array MapEntry) : RVis l es [] [] := ⟨⟨by simp, by simp⟩, rfl⟩

theorem RVis.len {l : List (Int × Value)} {es : Array MapEntry} {clk : Nat} {vis : List MapEntry} {vl : List (Int × Value)} (h : RVis l es vis vl) (hm : MapI l es clk) : vl.length ≤ l.length := by
  have h1 : vis.length = vl.length := by have := congrArg List.length h.eq; simpa using this
  have h2 : es.toList.length = l.length := by have := congrArg List.length hm.1; simpa using this
  have h3 := length_le_of_nodup (l := es.toList.map (·.born)) h.ok.nodup hm.2.2.1 (fun x hx => by
    obtain ⟨e, he, rfl⟩ := List.mem_map.1 hx
    exact List.mem_map.2 ⟨e, h.ok.sub e he, rfl⟩)
  simp at h3
  simp at h2
  omega

theorem RVis.all {l : List (Int × Value)} {es : Array MapEntry} {clk : Nat} {vis : List MapEntry} {vl : List (Int × Value)} (h : RVis l es vis vl) (hm : MapI l es clk) (ha : ∀ e ∈ es.toList, e ∈ vis) : vl.Perm l := by
  have hnv : vis.Nodup := List.Pairwise.of_map (fun e => e.born) (fun a b hab hne => hab (by rw [hne])) h.ok.nodup
  have hne : es.toList.Nodup := List.Pairwise.of_map (fun e => e.born) (fun a b hab hne => hab (by rw [hne])) hm.2.2.1
  have hp : vis.Perm es.toList := (List.perm_ext_iff_of_nodup hnv hne).2 fun e => ⟨h.ok.sub e, ha e⟩
  have h1 := (hp.map entV).map unV
  rw [h.eq, hm.1, unV_pairs, unV_pairs] at h1
  exact h1

section
variable {P : Program} {N : Nat} {E : World} {f : Fr} {g : PH} {s : Own} {dst : Option Tmp} {ty : TypeId} {pos : String} {af : Array Edge} {gd : Option (Nat × Bool)}
variable {m r clk : Nat} {es : Array MapEntry} {vis : List MapEntry} {x : Operand} {l vl : List (Int × Value)}

theorem SO.nextP (i : Nat) (hx : ev f x = some (pp r 0)) (hi : s[i]? = some (iter r m es clk vis)) (hm : g m = some (.map es clk)) (hI : MapI l es clk) (hv : RVis l es vis vl) :
    SO P N E ⟨dst, .next x false, ty, pos, af, gd⟩ f g s fun u g' s' => g = g' ∧
      ((u = .tuple #[.bool false] ∧ s = s' ∧ vl.Perm l) ∨ ∃ e p, e ∈ es.toList ∧ p ∈ l ∧ e.key = vi p.1 ∧ e.val = p.2 ∧ RVis l es (vis ++ [e]) (vl ++ [p]) ∧ u = .tuple #[.bool true, vi p.1, p.2] ∧ s' = s.set i (iter r m es clk (vis ++ [e]))) := by
  refine SO.mono (SO.next i hx hi hm hI.2 hv.ok) ?_
  rintro u g' s' ⟨rfl, h⟩
  refine ⟨rfl, ?_⟩
  rcases h with ⟨h1, h2, h3⟩ | ⟨e, h1, h2, h3, h4⟩
  · exact .inl ⟨h1, h2, hv.all hI h3⟩
  · have hp : entV e ∈ l.map pairV := by rw [← hI.1]; exact List.mem_map.2 ⟨e, h1, rfl⟩
    obtain ⟨p, hp1, hp2⟩ := List.mem_map.1 hp
    simp only [entV, pairV, Prod.mk.injEq] at hp2
    refine .inr ⟨e, p, h1, hp1, hp2.1.symm, hp2.2.symm, ⟨⟨?_, ?_⟩, ?_⟩, by rw [h3, hp2.1, hp2.2], h4⟩
    · intro a ha
      rcases List.mem_append.1 ha with h5 | h5
      · exact hv.ok.sub a h5
      · simp at h5; rw [h5]; exact h1
    · rw [List.map_append, List.nodup_append]
      refine ⟨hv.ok.nodup, by simp, fun a ha b hb hab => ?_⟩
      simp at hb
      rw [hab, hb] at ha
      exact h2 ha
    · rw [List.map_append, List.map_append, hv.eq]
      simp [entV, pairV, hp2.1, hp2.2]

theorem SQ.entryP {e : MapEntry} {p : Int × Value} (i : Nat) (hx : ev f x = some (pp r 0)) (hi : s[i]? = some (iter r m es clk (vis ++ [e]))) (hm : g m = some (.map es clk)) (hI : MapI l es clk) (he : e ∈ es.toList) (hk : e.key = vi p.1) (hv : e.val = p.2) :
    SQ P N E ⟨dst, .entry x, ty, pos, af, gd⟩ f g s (.tuple #[vi p.1, p.2]) := by
  have := SQ.entry (P := P) (N := N) (E := E) (f := f) (s := s) (dst := dst) (ty := ty) (pos := pos) (af := af) (gd := gd) i hx hi hm hI.2 he
  rw [hk, hv] at this
  exact this
end

/-- The map is a set of integers: its values are true. -/
def SetI (l : List (Int × Value)) (q : Int → Bool) : Prop := ∀ k, mget l k = if q k then some (vb true) else none
theorem SetI.nil : SetI [] (fun _ => false) := fun _ => rfl
theorem SetI.put {l : List (Int × Value)} {q : Int → Bool} (h : SetI l q) (k : Int) : SetI (mput l k (vb true)) (fun j => decide (j = k) || q j) := fun j => by
  rw [mget_mput]
  by_cases hj : j = k
  · simp [hj]
  · simp [hj, h j]
theorem SetI.congr {l : List (Int × Value)} {q q' : Int → Bool} (h : SetI l q) (he : ∀ k, q k = q' k) : SetI l q' := fun k => by rw [← he]; exact h k
theorem SetI.get {l : List (Int × Value)} {q : Int → Bool} (h : SetI l q) (k : Int) : (mget l k).getD (vb false) = vb (q k) := by
  rw [h k]
  cases q k <;> rfl

end Go.Sy
end
section
namespace Go.Sy
open Go

section
variable (P : Program) (N : Nat) (E : World) (ops : Array Oper) (Q : Exit → Act → World → Prop) (g0 : PH) (s0 : Own) (tail : List Nat)
/-- What is left of the region: L has come up, n are to come. -/
def SX (L : Array Bool) (n : Nat) (f : Fr) (g : PH) (s : Own) : Prop :=
  ∀ a w, Region.noSelect ops = true → Closed ops L → Ok N f a → At E g s w → (began tail L = false → At E g0 s0 w) → wpAnyT P ops Q (At E g0 s0) tail n L a w
/-- Number i comes up next. -/
def SB (L : Array Bool) (n i : Nat) (f : Fr) (g : PH) (s : Own) : Prop :=
  ∀ a w, Region.noSelect ops = true → Closed ops L → i ∈ Region.ready .any ops L → Ok N f a → At E g s w → (began tail L = false → At E g0 s0 w) →
    wpOp P ops Q i (fun a' w' => (began tail (L.setIfInBounds i true) = false → At E g0 s0 w') ∧ wpAnyT P ops Q (At E g0 s0) tail n (L.setIfInBounds i true) a' w') a w
end

def readOk (ops : Array Oper) (tail : List Nat) (L : Array Bool) (i : Nat) : Bool := (Region.ready .any ops L).contains i && Region.free .any ops L i && tailWaits ops tail i && !tail.contains i && !began tail L
def pureOk (ops : Array Oper) (tail : List Nat) (L : Array Bool) (i : Nat) : Bool := (Region.ready .any ops L).contains i && Region.free .any ops L i && !tail.contains i

section
variable {P : Program} {N : Nat} {E : World} {ops : Array Oper} {Q : Exit → Act → World → Prop} {g0 : PH} {s0 : Own} {tail : List Nat} {f : Fr} {g : PH} {s s' : Own} {L : Array Bool} {n : Nat}

theorem SC.drawX {id : Nat} (tail : List Nat) (hm : P.follows .mixedOrders = true) (hok : Region.noSelect ops = true) (h : SX P N E ops Q g s tail (Array.replicate ops.size false) ops.size f g s) : SC P N E (.region id ops true) Q f g s := by
  intro a w ha hw
  refine wp_region_any hm (wpAny_of_T _ _ _ _ (S := At E g s) (tail := tail) ?_)
  exact h a { w with drawn := w.drawn + 1 } hok (closed_none _) ha (hw.drew _ (Nat.le_succ _)) (fun _ => hw.drew _ (Nat.le_succ _))
theorem SX.nil (hr : Region.ready .any ops L = []) (h : ST N E Q .normal f g s) : SX P N E ops Q g0 s0 tail L 0 f g s := fun a w _ _ ha hw _ => ⟨hr, h a w ha hw⟩
theorem SX.drop (hs : s'.Sublist s) (h : SX P N E ops Q g0 s0 tail L n f g s') : SX P N E ops Q g0 s0 tail L n f g s := fun a w h1 hcl ha hw hb => h a w h1 hcl ha (hw.sublist hs) hb

theorem SX.q [hQ : Quiet Q] {i d : Nat} {op : Op} {ty : TypeId} {pos : String} {af : Array Edge} {v : Value} (hi : ops[i]? = some ⟨some d, op, ty, pos, af, none⟩) (hok : readOk ops tail L i = true)
    (hq : SQ P N E ⟨some d, op, ty, pos, af, none⟩ f g0 s0 v) (hd : d < N)
    (h : SX P N E ops Q g0 s0 tail (L.setIfInBounds i true) n ((d, v) :: f) g s) : SX P N E ops Q g0 s0 tail L (n + 1) f g s := by
  intro a w hs hcl ha hw hb
  simp only [readOk, Bool.and_eq_true, Bool.not_eq_true'] at hok
  obtain ⟨⟨⟨⟨h1, h2⟩, h3⟩, h4⟩, h5⟩ := hok
  refine wpAnyT_first hi (Region.noSelect_spec hs) (fun c a w hh => hQ.out c _ _ w (putSome_defers a d v) hh) (by simpa using h4) (tailWaits_spec h3) _ L a w hcl (Region.free_spec hi h2) (by simpa using h1)
    (.inl ⟨Gd.none rfl a ha, fun w' hw' => hq a w' ha hw'⟩) h5 (hb h5) ?_
  exact h _ w hs (closed_set hcl (by simpa using h1)) (ha.put hd v) hw (fun _ => hb h5)
theorem SX.u [hQ : Quiet Q] {i d : Nat} {op : Op} {ty : TypeId} {pos : String} {af : Array Edge} {v : Value} (hi : ops[i]? = some ⟨some d, op, ty, pos, af, none⟩) (hok : pureOk ops tail L i = true)
    (hq : SU P N ⟨some d, op, ty, pos, af, none⟩ f v) (hd : d < N)
    (h : SX P N E ops Q g0 s0 tail (L.setIfInBounds i true) n ((d, v) :: f) g s) : SX P N E ops Q g0 s0 tail L (n + 1) f g s := by
  intro a w hs hcl ha hw hb
  simp only [pureOk, Bool.and_eq_true, Bool.not_eq_true'] at hok
  obtain ⟨⟨h1, h2⟩, h4⟩ := hok
  have hit : i ∉ tail := by simpa using h4
  refine wpAnyT_pure hi (Region.noSelect_spec hs) (fun c a w hh => hQ.out c _ _ w (putSome_defers a d v) hh) hit _ L a w (Region.free_spec hi h2) (by simpa using h1)
    (.inl ⟨Gd.none rfl a ha, fun w' => hq a w' ha⟩) hb ?_
  exact h _ w hs (closed_set hcl (by simpa using h1)) (ha.put hd v) hw (fun hb' => hb (by rwa [began_set hit] at hb'))

theorem SX.br1 (i : Nat) (hr : Region.ready .any ops L = [i]) (h : SB P N E ops Q g0 s0 tail L n i f g s) : SX P N E ops Q g0 s0 tail L (n + 1) f g s := by
  intro a w hs hcl ha hw hb
  refine ⟨fun h0 => (by rw [hr] at h0; cases h0), fun k hk => ?_⟩
  have hk' := hk
  rw [hr] at hk'
  simp only [List.mem_singleton] at hk'
  subst hk'
  exact h a w hs hcl hk ha hw hb
theorem SX.br2 (i j : Nat) (hr : Region.ready .any ops L = [i, j]) (h : SB P N E ops Q g0 s0 tail L n i f g s) (h2 : SB P N E ops Q g0 s0 tail L n j f g s) : SX P N E ops Q g0 s0 tail L (n + 1) f g s := by
  intro a w hs hcl ha hw hb
  refine ⟨fun h0 => (by rw [hr] at h0; cases h0), fun k hk => ?_⟩
  have hk' := hk
  rw [hr] at hk'
  simp only [List.mem_cons, List.mem_singleton, List.not_mem_nil, or_false] at hk'
  rcases hk' with rfl | rfl
  · exact h a w hs hcl hk ha hw hb
  · exact h2 a w hs hcl hk ha hw hb
theorem SX.br3 (i j m : Nat) (hr : Region.ready .any ops L = [i, j, m]) (h : SB P N E ops Q g0 s0 tail L n i f g s) (h2 : SB P N E ops Q g0 s0 tail L n j f g s) (h3 : SB P N E ops Q g0 s0 tail L n m f g s) : SX P N E ops Q g0 s0 tail L (n + 1) f g s := by
  intro a w hs hcl ha hw hb
  refine ⟨fun h0 => (by rw [hr] at h0; cases h0), fun k hk => ?_⟩
  have hk' := hk
  rw [hr] at hk'
  simp only [List.mem_cons, List.mem_singleton, List.not_mem_nil, or_false] at hk'
  rcases hk' with rfl | rfl | rfl
  · exact h a w hs hcl hk ha hw hb
  · exact h2 a w hs hcl hk ha hw hb
  · exact h3 a w hs hcl hk ha hw hb

theorem SB.step {i : Nat} {o : Oper} {K : Value → PH → Own → Prop} (hi : ops[i]? = some o) (hg : Gd N ops f o true) (ho : SO P N E o f g s K)
    (hk : i ∈ tail ∨ ∀ v g' s', K v g' s' → Le g0 g' ∧ s0.Sublist s')
    (h : ∀ v g' s' a, K v g' s' → Ok N f a → ∃ f', Ok N f' (a.put o.dst v) ∧ SX P N E ops Q g0 s0 tail (L.setIfInBounds i true) n f' g' s') : SB P N E ops Q g0 s0 tail L n i f g s := by
  intro a w hs hcl hr ha hw hb
  unfold wpOp
  simp only [hi]
  rw [if_pos (hg a ha)]
  refine .inl (ho a w ha hw Q _ fun v g' s' w' hK hw' => ?_)
  have hb' : began tail (L.setIfInBounds i true) = false → At E g0 s0 w' := by
    intro h0
    rcases hk with hk | hk
    · exfalso
      have hlt : i < L.size := by
        rcases Nat.lt_or_ge i L.size with h' | h'
        · exact h'
        · have := (mem_ready.1 hr).1
          simp [Array.getElem?_eq_none h'] at this
      unfold began at h0
      rw [List.any_eq_false] at h0
      have := h0 i hk
      simp [hlt] at this
    · obtain ⟨h1, h2⟩ := hk v g' s' hK
      exact (hw'.less h1).sublist h2
  obtain ⟨f', hf', hn⟩ := h v g' s' a hK ha
  exact ⟨hb', hn _ w' hs (closed_set hcl hr) hf' hw' hb'⟩
theorem SB.o {i d : Nat} {op : Op} {ty : TypeId} {pos : String} {af : Array Edge} {K : Value → PH → Own → Prop} (hi : ops[i]? = some ⟨some d, op, ty, pos, af, none⟩)
    (ho : SO P N E ⟨some d, op, ty, pos, af, none⟩ f g s K) (hd : d < N) (hk : i ∈ tail ∨ ∀ v g' s', K v g' s' → Le g0 g' ∧ s0.Sublist s')
    (h : ∀ v g' s', K v g' s' → SX P N E ops Q g0 s0 tail (L.setIfInBounds i true) n ((d, v) :: f) g' s') : SB P N E ops Q g0 s0 tail L n i f g s :=
  SB.step hi (Gd.none rfl) ho hk fun v g' s' _ hK ha => ⟨_, ha.put hd v, h v g' s' hK⟩
theorem SB.on {i : Nat} {op : Op} {ty : TypeId} {pos : String} {af : Array Edge} {K : Value → PH → Own → Prop} (hi : ops[i]? = some ⟨none, op, ty, pos, af, none⟩)
    (ho : SO P N E ⟨none, op, ty, pos, af, none⟩ f g s K) (hk : i ∈ tail ∨ ∀ v g' s', K v g' s' → Le g0 g' ∧ s0.Sublist s')
    (h : ∀ v g' s', K v g' s' → SX P N E ops Q g0 s0 tail (L.setIfInBounds i true) n f g' s') : SB P N E ops Q g0 s0 tail L n i f g s :=
  SB.step hi (Gd.none rfl) ho hk fun v g' s' _ hK ha => ⟨f, ha, h v g' s' hK⟩
end
end Go.Sy
end
section
namespace Go.Sy
open Go

theorem SP.to {P : Program} {N : Nat} {E : World} {ops : Array Oper} {Q : Exit → Act → World → Prop} {g0 : PH} {s0 : Own} {tail : List Nat} {plan : List (Nat × Nat)} {f : Fr} {g g' : PH} {s s' : Own} (h : ∀ w, At E g s w → At E g' s' w) (hc : SP P N E ops Q g0 s0 tail plan f g' s') : SP P N E ops Q g0 s0 tail plan f g s := fun L a w h1 hcl h2 ha hw hb => hc L a w h1 hcl h2 ha (h w hw) hb

section
variable {P : Program} {N : Nat} {E : World} {f : Fr} {g : PH} {s s1 : Own} {dst : Option Tmp} {ty : TypeId} {pos : String} {af : Array Edge} {gd : Option (Nat × Bool)}

theorem SU.sliceLH {x lo hi : Operand} {T e : TypeId} {k n c : Nat} {p : Option Addr} {l h : Int} (hT : P.underlying T = some (.slice e)) (hs : ∀ w, (sizeOf e).run P w = .ok k w) (hx : ev f x = some (.slice p n c)) (hl : ev f lo = some (vi l)) (hh : ev f hi = some (vi h)) (h0 : 0 ≤ l) (h1 : l ≤ h) (h2 : h ≤ c) :
    SU P N ⟨dst, .slice T x (some lo) (some hi) none, ty, pos, af, gd⟩ f (sliced p l.toNat h.toNat c k) := fun a w ha => by
  have eh : (h.toNat : Int) = h := Int.toNat_of_nonneg (by omega)
  have h0' : 0 ≤ h := by omega
  simp [execOp, ha.ev hx, ha.ev hl, ha.ev hh, Instr.sliceAt, Instr.slice, run_underlying hT, Instr.sliceBounds, run_sliceBound, sliced, hs w, eh, h0, h0', h1, h2]
theorem SU.sliceH {x hi : Operand} {T e : TypeId} {k n c : Nat} {p : Option Addr} {h : Int} (hT : P.underlying T = some (.slice e)) (hs : ∀ w, (sizeOf e).run P w = .ok k w) (hx : ev f x = some (.slice p n c)) (hh : ev f hi = some (vi h)) (h0 : 0 ≤ h) (h2 : h ≤ c) :
    SU P N ⟨dst, .slice T x none (some hi) none, ty, pos, af, gd⟩ f (sliced p 0 h.toNat c k) := fun a w ha => by
  simp [execOp, ha.ev hx, ha.ev hh, Instr.sliceAt, Instr.slice, run_underlying hT, Instr.sliceBounds, run_sliceBound, sliced, hs w, h0, h2]
theorem SU.sliceL {x lo : Operand} {T e : TypeId} {k n c : Nat} {p : Option Addr} {l : Int} (hT : P.underlying T = some (.slice e)) (hs : ∀ w, (sizeOf e).run P w = .ok k w) (hx : ev f x = some (.slice p n c)) (hl : ev f lo = some (vi l)) (h0 : 0 ≤ l) (h1 : l ≤ n) :
    SU P N ⟨dst, .slice T x (some lo) none none, ty, pos, af, gd⟩ f (sliced p l.toNat n c k) := fun a w ha => by
  simp [execOp, ha.ev hx, ha.ev hl, Instr.sliceAt, Instr.slice, run_underlying hT, Instr.sliceBounds, run_sliceBound, sliced, hs w, h0, h1]
theorem SU.cap {x : Operand} {T e : TypeId} {p : Option Addr} {n c : Nat} (hT : P.underlying T = some (.slice e)) (hx : ev f x = some (.slice p n c)) :
    SU P N ⟨dst, .call ⟨.builtin .cap, #[x], #[T]⟩, ty, pos, af, gd⟩ f (vi c) := fun a w ha => by
  simp [execOp, resolve, invoke, builtin, ha.ev hx, Builtin.cap_, run_underlying hT, goInt]

/-- Part of a slice that is known. -/
theorem Sl.cut {k n c l m : Nat} {p : Option Addr} {xs : List Value} (h : Sl g k (.slice p n c) n xs) (hl : l ≤ m) (hm : m ≤ n) : Sl g k (sliced p l m c k) (m - l) ((xs.drop (l * k)).take ((m - l) * k)) := by
  obtain ⟨p', c', he, ⟨h2, hc⟩, h3⟩ := h
  injection he with e1 e2 e3
  subst e1; subst e3
  refine ⟨_, _, rfl, ⟨?_, by omega⟩, fun hne => ?_⟩
  · have : m * k ≤ n * k := Nat.mul_le_mul_right k hm
    have h5 : l * k + (m - l) * k = m * k := by rw [← Nat.add_mul]; congr 1; omega
    rw [List.length_take, List.length_drop, h2]
    omega
  · have hx0 : xs ≠ [] := fun e => hne (by rw [e]; simp)
    obtain ⟨b, o, cs, T, fr, rfl, h5, h6⟩ := h3 hx0
    have hcl : ¬ c = l := fun e => hne (by
      have : m - l = 0 := by omega
      rw [this]; simp)
    have hadd : (⟨b, o, none⟩ : Addr).add (l * k) = ⟨b, o + l * k, none⟩ := by unfold Addr.add; split <;> simp_all
    refine ⟨b, o + l * k, cs, T, fr, by simp [hcl, hadd], h5, fun j x hj => ?_⟩
    rw [List.getElem?_take] at hj
    split at hj
    · rw [List.getElem?_drop] at hj
      rw [Nat.add_assoc]
      exact h6 _ x hj
    · cases hj
theorem SlA.cut {α : Type} {k : Nat} {e : Enc α k} {c l m : Nat} {p : Option Addr} {xs : List α} (h : SlA e g (.slice p xs.length c) xs) (hl : l ≤ m) (hm : m ≤ xs.length) : SlA e g (sliced p l m c k) ((xs.drop l).take (m - l)) := by
  have h1 := Sl.cut h hl hm
  have hlen : ((xs.drop l).take (m - l)).length = m - l := by rw [List.length_take, List.length_drop]; omega
  unfold SlA
  rw [hlen]
  have : ((xs.drop l).take (m - l)).flatMap e.enc = ((xs.flatMap e.enc).drop (l * k)).take ((m - l) * k) := by
    have key : ∀ (ys : List α) (j : Nat), (ys.take j).flatMap e.enc = (ys.flatMap e.enc).take (j * k) := by
      intro ys
      induction ys with
      | nil => intro j; simp
      | cons y r ih =>
        intro j
        cases j with
        | zero => simp
        | succ j =>
          rw [List.take_succ_cons, List.flatMap_cons, List.flatMap_cons, ih, List.take_append, e.len, show (j + 1) * k - k = j * k by rw [Nat.succ_mul]; omega, List.take_of_length_le (l := e.enc y) (by rw [e.len, Nat.succ_mul]; omega)]
    have key2 : ∀ (ys : List α) (j : Nat), (ys.drop j).flatMap e.enc = (ys.flatMap e.enc).drop (j * k) := by
      intro ys
      induction ys with
      | nil => intro j; simp
      | cons y r ih =>
        intro j
        cases j with
        | zero => simp
        | succ j =>
          rw [List.drop_succ_cons, List.flatMap_cons, ih, List.drop_append, e.len, show (j + 1) * k - k = j * k by rw [Nat.succ_mul]; omega, List.drop_of_length_le (l := e.enc y) (by rw [e.len, Nat.succ_mul]; omega)]
          simp
    rw [key, key2]
  rw [this]
  exact h1
theorem sliced_form (p : Option Addr) (l m c k : Nat) : ∃ q, sliced p l m c k = .slice q (m - l) (c - l) := ⟨_, rfl⟩
theorem SlA.cap {α : Type} {k : Nat} {e : Enc α k} {c n : Nat} {p : Option Addr} {xs : List α} (h : SlA e g (.slice p n c) xs) : n = xs.length ∧ xs.length ≤ c := by
  obtain ⟨p', c', he, ⟨_, hc⟩, _⟩ := h
  injection he with e1 e2 e3
  exact ⟨e2, by omega⟩

/-- A literal that is known. -/
theorem SlA.lit {α : Type} {k : Nat} {e : Enc α k} {b n : Nat} {cs : Array Value} {T : TypeId} {fr : Nat × Nat} {l : List α} (hb : g b = some (.cells cs T fr)) (hc : cs.toList = l.flatMap e.enc) (hn : l.length = n) : SlA e g (.slice (some ⟨b, 0, none⟩) n n) l := by
  subst hn
  refine ⟨_, _, rfl, ⟨by rw [e.length], Nat.le_refl _⟩, fun _ => ⟨b, 0, cs, T, fr, rfl, hb, fun j x hj => ?_⟩⟩
  rw [← hc] at hj
  simpa using hj

/-- A literal that is owned, as a row. -/
theorem At.litRow {α : Type} {k : Nat} {e : Enc α k} {b n : Nat} {cs : Array Value} {T : TypeId} {l : List α} {w : World} (h : At E g (pt b (.cells cs T (0, 0)) :: s) w) (hc : cs.toList = l.flatMap e.enc) (hn : l.length = n + 1) (hm : n + 1 ≤ maxLen) : At E g (rowA e T (.slice (some ⟨b, 0, none⟩) (n + 1) (n + 1)) l :: s) w := by
  refine ⟨h.os, h.tape, h.output, h.known, fun x hx => ?_, fun x hx q hq => ?_, List.pairwise_cons.2 ⟨fun x hx q hq => ?_, (List.pairwise_cons.1 h.apart).2⟩⟩
  · rcases List.mem_cons.1 hx with rfl | hx
    · have h1 := h.own (pt b (.cells cs T (0, 0))) (by simp)
      simp only [pt, Option.bind_some] at h1
      have hsz : cs.size = (n + 1) * k := by rw [← Array.length_toList, hc, e.length, hn]
      have := row_holds (w := w) (T := T) (k := k) (n := n + 1) (b := b) (cap := n) (xs := l.flatMap e.enc) (by rw [e.length, hn]) h1 (Nat.le_refl _) hm hsz (by rw [← hc, List.take_of_length_le (by rw [Array.length_toList, hsz]; exact Nat.le_refl _)])
      simpa only [rowA, hn] using this
    · exact h.own x (by simp [hx])
  · rcases List.mem_cons.1 hx with rfl | hx
    · simp only [rowA, row, rblk, Option.some.injEq] at hq
      exact h.fresh (pt b (.cells cs T (0, 0))) (by simp) q (by simp [pt, hq])
    · exact h.fresh x (by simp [hx]) q hq
  · simp only [rowA, row, rblk, Option.some.injEq] at hq
    exact (List.pairwise_cons.1 h.apart).1 x hx q (by simp [pt, hq])

theorem SO.app1A {α : Type} {k bytes b : Nat} {e : Enc α k} {x y : Operand} {t T : TypeId} {z v : Value} {l : List α} {cs : Array Value} (i : Nat) (a : α) (hT : STy P t T k bytes z) (hx : ev f x = some v) (hy : ev f y = some (.slice (some ⟨b, 0, none⟩) 1 1))
    (hs : s = pt b (.cells cs T (0, 0)) :: s1) (hi : s1[i]? = some (rowA e T v l)) (hc : cs.toList = e.enc a) (hb : (l.length + 1) * bytes ≤ 140737488355328) (hlen : l.length + 1 ≤ 4611686018427387904) :
    SO P N E ⟨dst, .call ⟨.builtin .append, #[x, y], #[t, t]⟩, ty, pos, af, gd⟩ f g s fun v' g' s' => g = g' ∧ s' = s1.set i (rowA e T v' (l ++ [a])) := by
  have h1 : Ones cs.toList := by
    rw [hc]
    have : ∀ (m : List Value), (∀ u ∈ m, u.oneCell' = true) → Ones m := by
      intro m
      induction m with
      | nil => intro _; trivial
      | cons q r ih => intro hq; exact ⟨hq q (by simp), ih fun u hu => hq u (by simp [hu])⟩
    exact this _ (e.one a)
  have := SO.app1 (P := P) (N := N) (E := E) (f := f) (g := g) (dst := dst) (ty := ty) (pos := pos) (af := af) (gd := gd) i ((l ++ [a]).flatMap e.enc) (l ++ [a]).length hT hx hy hs hi (by rw [← Array.length_toList, hc, e.len]) h1 (by rw [hc]; simp) (by simp) hb hlen
  exact this
theorem SO.appA {α : Type} {k bytes : Nat} {e : Enc α k} {x y : Operand} {t T : TypeId} {z v u : Value} {l m : List α} (i : Nat) (hT : STy P t T k bytes z) (hx : ev f x = some v) (hy : ev f y = some u)
    (hi : s[i]? = some (rowA e T v l)) (hu : SlA e g u m) (hb : (l.length + m.length) * bytes ≤ 140737488355328) (hlen : l.length + m.length ≤ 4611686018427387904) :
    SO P N E ⟨dst, .call ⟨.builtin .append, #[x, y], #[t, t]⟩, ty, pos, af, gd⟩ f g s fun v' g' s' => g = g' ∧ s' = s.set i (rowA e T v' (l ++ m)) := by
  have := SO.appendE (P := P) (N := N) (E := E) (f := f) (g := g) (dst := dst) (ty := ty) (pos := pos) (af := af) (gd := gd) i (l ++ m).length ((l ++ m).flatMap e.enc) hT hx hi hy (Sl.isSl hu) (Sl.slen hu) (SlA.rd hu) (Sl.length hu) (e.ones m) (by simp) (by simp) (by simpa using hb) (by simpa using hlen)
  exact this

theorem run_appendOp {a : Act} {x y : Operand} {t : TypeId} {u0 u1 v' : Value} {w w1 : World} (hx : a.eval x = u0) (hy : a.eval y = u1) (h : (Builtin.append_ #[t, t] ty #[u0, u1]).run P w = .ok v' w1) :
    (execOp a.eval ⟨dst, .call ⟨.builtin .append, #[x, y], #[t, t]⟩, ty, pos, af, gd⟩).run P w = .ok (.value v') w1 := by
  simp [execOp, resolve, invoke, builtin, hx, hy, h]

/-- An element is removed: append(v[:j], v[j+1:]...). -/
theorem SO.cutA {α : Type} {k bytes j c n : Nat} {e : Enc α k} {x y : Operand} {t T : TypeId} {z : Value} {p : Option Addr} {l : List α} (i : Nat) (hT : STy P t T k bytes z) (hx : ev f x = some (sliced p 0 j c k)) (hy : ev f y = some (sliced p (j + 1) n c k))
    (hi : s[i]? = some (rowA e T (.slice p n c) l)) (hn : n = l.length) (hj : j < l.length) :
    SO P N E ⟨dst, .call ⟨.builtin .append, #[x, y], #[t, t]⟩, ty, pos, af, gd⟩ f g s fun v' g' s' => v' = .slice p (l.length - 1) c ∧ g = g' ∧ s' = s.set i (rowA e T (.slice p (l.length - 1) c) (l.eraseIdx j)) :=
  SO.of_run fun a w ha hw => by
    subst hn
    obtain ⟨hxl, hform⟩ := row_is hw hi
    obtain ⟨ti, ht1, ht2, ht3, ht4⟩ := hT.info
    rcases hform with ⟨q, he, h0⟩ | ⟨b, cap, cur, he, hg, hle, hcm, hcs, htake⟩
    · omega
    · injection he with e1 e2 e3
      subst e1; subst e3
      have hfr := hw.fresh _ (List.mem_of_getElem? hi) b rfl
      have hlen' : (l.eraseIdx j).length = l.length - 1 := by rw [List.length_eraseIdx]; simp [hj]
      have herase : (l.eraseIdx j).flatMap e.enc = (l.take j).flatMap e.enc ++ (l.drop (j + 1)).flatMap e.enc := by rw [List.eraseIdx_eq_take_drop_succ, List.flatMap_append]
      have hk : ∀ (m : Nat), m ≤ l.length → ((l.take m).flatMap e.enc).length = m * k := fun m hm => by rw [e.length, List.length_take]; congr 1; omega
      have hsplit : l.flatMap e.enc = (l.take (j + 1)).flatMap e.enc ++ (l.drop (j + 1)).flatMap e.enc := by rw [← List.flatMap_append, List.take_append_drop]
      have hsplit2 : l.flatMap e.enc = (l.take j).flatMap e.enc ++ (l.drop j).flatMap e.enc := by rw [← List.flatMap_append, List.take_append_drop]
      have hdl : ((l.drop (j + 1)).flatMap e.enc).length = (l.length - (j + 1)) * k := by rw [e.length, List.length_drop]
      have hcur : ∀ q x, (l.flatMap e.enc)[q]? = some x → cur[q]? = some x := fun q x hq => by
        rw [← htake, List.getElem?_take] at hq
        split at hq
        · simpa using hq
        · cases hq
      have htk : cur.toList.take (j * k) = (l.take j).flatMap e.enc := by
        have h1 : cur.toList.take (j * k) = (cur.toList.take (l.length * k)).take (j * k) := by
          rw [List.take_take, Nat.min_eq_left (Nat.mul_le_mul_right k (by omega))]
        rw [h1, htake, hsplit2, List.take_append_of_le_length (by rw [hk j (by omega)]; exact Nat.le_refl _), List.take_of_length_le (by rw [hk j (by omega)]; exact Nat.le_refl _)]
      -- the source
      by_cases hz : cap + 1 = j + 1
      · -- the last one, and no more room: nothing follows
        have hjl : l.length = j + 1 := by omega
        have hnil : l.drop (j + 1) = [] := List.drop_eq_nil_of_le (by omega)
        have hrun : (Builtin.append_ #[t, t] ty #[sliced (some ⟨b, 0, none⟩) 0 j (cap + 1) k, sliced (some ⟨b, 0, none⟩) (j + 1) l.length (cap + 1) k]).run P w = .ok (.slice (some ⟨b, 0, none⟩) j (cap + 1)) w := by
          have hadd0 : (⟨b, 0, none⟩ : Addr).add 0 = ⟨b, 0, none⟩ := by unfold Addr.add; split <;> simp_all
          have hcj : cap = j := by omega
          simp [Builtin.append_, sliced, run_underlying hT.und, hT.size w, Builtin.lenOf, Builtin.firstCells, loadCells, loadCellsFrom, storeCells, hjl, hadd0, hcj]
        refine ⟨_, w, g, _, ?_, ?_, rfl, rfl, rfl⟩
        · rw [hjl] at hrun
          simp [execOp, resolve, invoke, builtin, ha.ev hx, ha.ev hy, hrun, hjl]
        · refine hw.turn hi rfl ⟨rfl, Nat.le_refl _⟩ rfl (Nat.le_refl _) (fun _ _ _ => rfl) ?_ (fun b' hb' => ?_)
          · have := row_holds (w := w) (T := T) (k := k) (n := l.length - 1) (b := b) (cap := cap) (xs := (l.eraseIdx j).flatMap e.enc) (by rw [e.length, hlen']) hg (by omega) hcm hcs (by rw [herase, hnil, show l.length - 1 = j by omega, htk]; simp)
            simpa only [rowA, hlen'] using this
          · simp only [rowA, row, rblk, Option.some.injEq] at hb'
            subst hb'
            exact ⟨hfr.2, .inl rfl⟩
      · have hadd : (⟨b, 0, none⟩ : Addr).add ((j + 1) * k) = ⟨b, (j + 1) * k, none⟩ := by unfold Addr.add; split <;> simp_all
        have hadd0 : (⟨b, 0, none⟩ : Addr).add 0 = ⟨b, 0, none⟩ := by unfold Addr.add; split <;> simp_all
        have hsrc : sliced (some ⟨b, 0, none⟩) (j + 1) l.length (cap + 1) k = .slice (some ⟨b, (j + 1) * k, none⟩) (l.length - (j + 1)) (cap + 1 - (j + 1)) := by
          simp only [sliced]; rw [if_neg hz]; simp [hadd]
        have hdst : sliced (some ⟨b, 0, none⟩) 0 j (cap + 1) k = .slice (some ⟨b, 0, none⟩) j (cap + 1) := by
          simp [sliced, hadd0]
        have hcells : ∀ q x, ((l.drop (j + 1)).flatMap e.enc)[q]? = some x → w.cell? ((⟨b, (j + 1) * k, none⟩ : Addr).add q) = some x := fun q x hq => by
          have hadd2 : (⟨b, (j + 1) * k, none⟩ : Addr).add q = ⟨b, (j + 1) * k + q, none⟩ := by unfold Addr.add; split <;> simp_all
          have h1 : (l.flatMap e.enc)[(j + 1) * k + q]? = some x := by
            rw [hsplit, List.getElem?_append_right (by rw [hk (j + 1) (by omega)]; omega), hk (j + 1) (by omega), Nat.add_sub_cancel_left]
            exact hq
          have h2 := hcur _ _ h1
          simp only [World.cell?, hadd2, hg]
          simpa using h2
        have hroom : j + (l.length - (j + 1)) ≤ cap + 1 := by omega
        have hfit : j * k + ((l.drop (j + 1)).flatMap e.enc).length ≤ cur.size := by
          rw [hdl, hcs, ← Nat.add_mul]
          exact Nat.mul_le_mul_right k hroom
        have h5 := run_append_room (P := P) w t ty T ti hT.und ht1 b j (cap + 1) cur hg ⟨b, (j + 1) * k, none⟩ (l.length - (j + 1)) (cap + 1 - (j + 1)) ((l.drop (j + 1)).flatMap e.enc) (by rw [ht3]; exact hdl) hcells (e.ones _) hroom (by rw [ht3]; exact hfit)
        rw [ht3] at h5
        refine ⟨_, w.setRow b (cur.toList.take (j * k) ++ (l.drop (j + 1)).flatMap e.enc ++ cur.toList.drop (j * k + ((l.drop (j + 1)).flatMap e.enc).length)).toArray, g, _, ?_, ?_, rfl, rfl, rfl⟩
        · have h7 := run_appendOp (dst := dst) (pos := pos) (af := af) (gd := gd) (ha.ev hx) (ha.ev hy) (by rw [hsrc, hdst]; exact h5)
          rw [h7, show j + (l.length - (j + 1)) = l.length - 1 by omega]
        · refine hw.turn hi rfl ⟨rfl, Nat.le_refl _⟩ rfl (by simp) (fun k' _ hk' => setRow_other w b k' _ (fun e1 => hk' (by simp [rowA, row, rblk, e1]))) ?_ (fun b' hb' => ?_)
          · have := row_holds (w := w.setRow b (cur.toList.take (j * k) ++ (l.drop (j + 1)).flatMap e.enc ++ cur.toList.drop (j * k + ((l.drop (j + 1)).flatMap e.enc).length)).toArray) (T := T) (k := k) (n := l.length - 1) (b := b) (cap := cap) (xs := (l.eraseIdx j).flatMap e.enc) (by rw [e.length, hlen']) (setRow_heap w b cur _ T _ hg) (by omega) hcm
              (by
                simp only [List.size_toArray, List.length_append, List.length_take, List.length_drop, Array.length_toList]
                omega)
              (by
                have h6 : (l.length - 1) * k = ((l.eraseIdx j).flatMap e.enc).length := by rw [e.length, hlen']
                rw [h6, herase, htk]
                exact List.take_left)
            simpa only [rowA, hlen'] using this
          · simp only [rowA, row, rblk, Option.some.injEq] at hb'
            subst hb'
            exact ⟨by simpa using hfr.2, .inl rfl⟩
end

end Go.Sy
end
section
namespace Go.Sy
open Go

theorem mem_zeroCells {z : Array Value} {n : Nat} {u : Value} (hz : ∀ v ∈ z.toList, v.oneCell' = true) (hu : u ∈ (Builtin.zeroCells z n).toList) : u.oneCell' = true := by
  simp only [Builtin.zeroCells, Array.toList_map, List.mem_map] at hu
  obtain ⟨i, hi, rfl⟩ := hu
  have hi' : i < n * z.size := by simpa using hi
  have hpos : 0 < z.size := by
    rcases Nat.eq_zero_or_pos z.size with h | h
    · rw [h] at hi'; simp at hi'
    · exact h
  have hlt : i % z.size < z.size := Nat.mod_lt _ hpos
  have : z[i % z.size]! = z[i % z.size] := getElem!_pos z _ hlt
  rw [this]
  exact hz _ (by simp)

section
variable {α : Type} {k : Nat} {e : Enc α k} {P : Program} {N : Nat} {E : World} {f : Fr} {g : PH} {s : Own} {dst : Option Tmp} {ty : TypeId} {pos : String} {af : Array Edge} {gd : Option (Nat × Bool)}

theorem Rd.from {b o n c m d : Nat} {xs : List Value} (h : Rd g s (.slice (some ⟨b, 0, none⟩) n c) xs) : Rd g s (.slice (some ⟨b, o, none⟩) m d) (xs.drop o) := fun E w hw j x hj => by
  rw [List.getElem?_drop] at hj
  obtain ⟨a, n', c', he, hs, hc⟩ := h E w hw (o + j) x hj
  injection he with e1
  injection e1 with e1
  subst e1
  exact ⟨_, _, _, rfl, rfl, by simpa [Nat.add_assoc] using hc⟩
theorem Enc.drop {l : List α} (j : Nat) : (l.drop j).flatMap e.enc = (l.flatMap e.enc).drop (j * k) := by
  induction l generalizing j with
  | nil => simp
  | cons y r ih =>
    cases j with
    | zero => simp
    | succ j =>
      rw [List.drop_succ_cons, List.flatMap_cons, ih, List.drop_append, e.len, show (j + 1) * k - k = j * k by rw [Nat.succ_mul]; omega, List.drop_of_length_le (l := e.enc y) (by rw [e.len, Nat.succ_mul]; omega)]
      simp
theorem Rd.fromA {b o n c m d : Nat} {l : List α} (h : Rd g s (.slice (some ⟨b, 0, none⟩) n c) (l.flatMap e.enc)) : Rd g s (.slice (some ⟨b, o * k, none⟩) m d) ((l.drop o).flatMap e.enc) := by
  rw [Enc.drop]
  exact h.from

/-- A row's first part. -/
theorem At.shrink {w : World} {T : TypeId} {p : Option Addr} {n c i m : Nat} {D J : List α} (h : At E g s w) (hi : s[i]? = some (rowA e T (.slice p n c) (D ++ J))) (hm : m = D.length) : At E g (s.set i (rowA e T (.slice p m c) D)) w := by
  subst hm
  obtain ⟨hxl, hform⟩ := row_is h hi
  have hsame : (rowA e T (.slice p D.length c) D).blk = (rowA e T (.slice p n c) (D ++ J)).blk := by
    cases p <;> cases c <;> rfl
  refine h.turn hi rfl ⟨rfl, Nat.le_refl _⟩ rfl (Nat.le_refl _) (fun _ _ _ => rfl) ?_ (fun b hb => ?_)
  · rcases hform with ⟨q, he, h0⟩ | ⟨b, cap, cur, he, hg, hle, hcm, hcs, htake⟩
    · injection he with e1 e2 e3
      subst e3
      have hD : D = [] := List.eq_nil_of_length_eq_zero (by rw [List.length_append] at h0; omega)
      subst hD
      exact ⟨by simp, .inl ⟨p, rfl, rfl⟩⟩
    · injection he with e1 e2 e3
      subst e1; subst e3
      refine row_holds (by rw [e.length]) hg (by simp at hle; omega) hcm hcs ?_
      have h1 : cur.toList.take (D.length * k) = (cur.toList.take ((D ++ J).length * k)).take (D.length * k) := by
        rw [List.take_take, Nat.min_eq_left (Nat.mul_le_mul_right k (by simp))]
      rw [h1, htake, List.flatMap_append, List.take_append_of_le_length (by rw [e.length]; exact Nat.le_refl _), List.take_of_length_le (by rw [e.length]; exact Nat.le_refl _)]
  · rw [hsame] at hb
    exact ⟨(h.fresh _ (List.mem_of_getElem? hi) b hb).2, .inl hb⟩

theorem SO.clearA {x : Operand} {t T : TypeId} {bytes b c m n d : Nat} {z : Value} {D : List α} (i : Nat) (hT : STy P t T k bytes z) (hz : ∀ v ∈ z.cells.toList, v.oneCell' = true) (hx : ev f x = some (.slice (some ⟨b, D.length * k, none⟩) m d)) (hi : s[i]? = some (rowA e T (.slice (some ⟨b, 0, none⟩) n (c + 1)) D)) (hn : n = D.length) (hm : D.length + m ≤ c + 1) :
    SO P N E ⟨dst, .call ⟨.builtin .clear, #[x], #[t]⟩, ty, pos, af, gd⟩ f g s fun _ g' s' => g = g' ∧ s = s' :=
  SO.of_run fun a w ha hw => by
    subst hn
    obtain ⟨hxl, hform⟩ := row_is hw hi
    rcases hform with ⟨q, he, h0⟩ | ⟨b', cap, cur, he, hg, hle, hcm, hcs, htake⟩
    · injection he with e1 e2 e3
      cases e3
    · injection he with e1 e2 e3
      injection e1 with e1
      injection e1 with e1
      injection e3 with e3
      subst e1; subst e3
      have hfr := hw.fresh _ (List.mem_of_getElem? hi) b rfl
      by_cases hm0 : m = 0
      · subst hm0
        refine ⟨.tuple #[], w, g, s, ?_, hw, rfl, rfl⟩
        simp [execOp, resolve, invoke, builtin, ha.ev hx, Builtin.clear_, run_underlying hT.und]
      · have hlen : (Builtin.zeroCells z.cells m).toList.length = m * k := by simp [size_zeroCells, hT.zs]
        have hst := run_storeCells_at P b (D.length * k) T (Builtin.zeroCells z.cells m).toList 0 cur w hg (by rw [hlen, hcs, Nat.add_zero, ← Nat.add_mul]; exact Nat.mul_le_mul_right k hm) (fun v hv => mem_zeroCells hz hv)
        simp only [Nat.add_zero] at hst
        refine ⟨.tuple #[], w.setRow b (cur.toList.take (D.length * k) ++ (Builtin.zeroCells z.cells m).toList ++ cur.toList.drop (D.length * k + (Builtin.zeroCells z.cells m).toList.length)).toArray, g, s, ?_, ?_, rfl, rfl⟩
        · cases m with
          | zero => exact absurd rfl hm0
          | succ m => simp [execOp, resolve, invoke, builtin, ha.ev hx, Builtin.clear_, run_underlying hT.und, hT.zero w]; simp only [Array.length_toList] at hst; rw [hst]; simp
        · have h2 := hw.turn (w' := w.setRow b (cur.toList.take (D.length * k) ++ (Builtin.zeroCells z.cells m).toList ++ cur.toList.drop (D.length * k + (Builtin.zeroCells z.cells m).toList.length)).toArray) (e' := rowA e T (.slice (some ⟨b, 0, none⟩) D.length (c + 1)) D) hi rfl ⟨rfl, Nat.le_refl _⟩ rfl (by simp) (fun k' _ hk' => setRow_other w b k' _ (fun e1 => hk' (by simp [rowA, row, rblk, e1]))) (row_holds (by rw [e.length]) (setRow_heap w b cur _ T _ hg) hle hcm (by
              simp only [List.size_toArray, List.length_append, List.length_take, List.length_drop, Array.length_toList]
              have : D.length * k + m * k ≤ (c + 1) * k := by rw [← Nat.add_mul]; exact Nat.mul_le_mul_right k hm
              simp only [Array.length_toList] at hlen
              omega) (by
              have h3 : (cur.toList.take (D.length * k)).length = D.length * k := by
                have hcl : cur.toList.length = (c + 1) * k := by rw [Array.length_toList]; exact hcs
                rw [List.length_take, hcl]
                exact Nat.min_eq_left (Nat.mul_le_mul_right k hle)
              rw [List.append_assoc, List.take_append_of_le_length (by rw [h3]; exact Nat.le_refl _), List.take_of_length_le (by rw [h3]; exact Nat.le_refl _), htake])) (fun b' hb' => by
              simp only [rowA, row, rblk, Option.some.injEq] at hb'
              subst hb'
              exact ⟨by simpa using hfr.2, .inl rfl⟩)
          have hset : s.set i (rowA e T (.slice (some ⟨b, 0, none⟩) D.length (c + 1)) D) = s := by
            apply List.ext_getElem?
            intro q
            rw [List.getElem?_set]
            split
            · rename_i e1; subst e1
              split
              · exact hi.symm
              · rename_i h2; rw [List.getElem?_eq_none (by omega)]
            · rfl
          rwa [hset] at h2
end

end Go.Sy
end
section
namespace Go.Sy
open Go

section
variable {α : Type} {k : Nat} {e : Enc α k} {P : Program} {N : Nat} {E : World} {f : Fr} {g : PH} {s : Own} {dst : Option Tmp} {ty : TypeId} {pos : String} {af : Array Edge} {gd : Option (Nat × Bool)}

theorem SO.appendZ {x y : Operand} {t tn T : TypeId} {kn : IntKind} {bytes n : Nat} {z : Value} (e : Enc α k) (hT : STy P t T k bytes z) (htn : P.underlying tn = some (.int kn)) (hx : ev f x = some (.slice none 0 0)) (hy : ev f y = some (vi n)) (h0 : 0 < n) (hb : n * bytes ≤ 140737488355328) (hlen : n ≤ 4611686018427387904) :
    SO P N E ⟨dst, .call ⟨.builtin .append, #[x, y], #[t, tn]⟩, ty, pos, af, gd⟩ f g s fun v' g' s' => ∃ b cap, v' = .slice (some ⟨b, 0, none⟩) n (cap + 1) ∧ n ≤ cap + 1 ∧ g = g' ∧ s' = rowA e T (.slice (some ⟨b, 0, none⟩) 0 (cap + 1)) [] :: s :=
  SO.of_run fun a w ha hw => by
    obtain ⟨ti, ht1, ht2, ht3, ht4⟩ := hT.info
    have h5 := Lib.run_append_nil_zeros (P := P) w t tn ty T ti z .i64 kn hT.und htn ht1 ht2 n h0 (by rw [ht3]; exact hT.pos) (by omega) (by rw [ht4]; omega)
    have hge := grownCap_ge w n 0 T
    have hcm := grownCap_le_maxLen w n 0 T (by unfold maxLen; omega)
    obtain ⟨cap, hcap⟩ : ∃ cap, grownCap w n 0 T = cap + 1 := ⟨grownCap w n 0 T - 1, by omega⟩
    rw [hcap] at h5 hge hcm
    have h6 := hw.emptyRow T k (none : Option Addr)
    have hrun : (execOp a.eval ⟨dst, .call ⟨.builtin .append, #[x, y], #[t, tn]⟩, ty, pos, af, gd⟩).run P w = .ok (.value (.slice (some ⟨w.heap.size, 0, none⟩) n (cap + 1))) (w.drew.alloc (.cells (Builtin.zeroCells z.cells n ++ Builtin.zeroCells z.cells (cap + 1 - n)) T)) := by
      simp [execOp, resolve, invoke, builtin, ha.ev hx, ha.ev hy, h5]
    refine ⟨_, _, g, _, hrun, ?_, _, _, rfl, hge, rfl, rfl⟩
    have hz : (Builtin.zeroCells z.cells n ++ Builtin.zeroCells z.cells (cap + 1 - n)).size = (cap + 1) * k := by
      rw [Array.size_append, size_zeroCells, size_zeroCells, hT.zs, ← Nat.add_mul]
      congr 1
      omega
    have hnew : (w.drew.alloc (.cells (Builtin.zeroCells z.cells n ++ Builtin.zeroCells z.cells (cap + 1 - n)) T)).heap[w.heap.size]? = some (.cells (Builtin.zeroCells z.cells n ++ Builtin.zeroCells z.cells (cap + 1 - n)) T (0, 0)) := heap_alloc_new w.drew _
    have h7 := h6.turn (i := 0) (w' := w.drew.alloc (.cells (Builtin.zeroCells z.cells n ++ Builtin.zeroCells z.cells (cap + 1 - n)) T)) (e' := rowA e T (.slice (some ⟨w.heap.size, 0, none⟩) 0 (cap + 1)) []) rfl rfl ⟨rfl, by first | exact Nat.le_refl _ | exact Nat.le_add_right _ _ | exact Nat.le_succ _⟩ rfl (by simp) (fun q hq _ => by (first | exact heap_alloc_old w.drew _ q hq | exact heap_alloc_old w.drew _ hq))
      (row_holds (by simp) hnew (Nat.zero_le _) hcm hz (by simp)) (fun b hb => by
        simp only [rowA, row, rblk, Option.some.injEq] at hb
        subst hb
        exact ⟨(Array.getElem?_eq_some_iff.1 hnew).1, .inr (Nat.le_refl _)⟩)
    simpa using h7
end

section
variable {α : Type} {k : Nat} {e : Enc α k} {P : Program} {N : Nat} {E : World} {f : Fr} {g : PH} {s : Own} {dst : Option Tmp} {ty : TypeId} {pos : String} {af : Array Edge} {gd : Option (Nat × Bool)}
theorem made_list {a : α} {zs : Array Value} (n : Nat) (hz : zs.toList = e.enc a) : (madeCells zs (n * k)).toList = (List.replicate n a).flatMap e.enc := by
  have hzs : zs.size = k := by rw [← Array.length_toList, hz, e.len]
  apply List.ext_getElem?
  intro q
  by_cases hq : q < n * k
  · have hk : 0 < k := e.pos
    have hqk : q % k < k := Nat.mod_lt _ hk
    have hqd : q / k < n := (Nat.div_lt_iff_lt_mul hk).2 hq
    have hsz : q % k < zs.size := by omega
    have h1 : (e.enc a)[q % k]? = some zs[q % k] := by rw [← hz]; simp [hsz]
    have h2 := e.get (l := List.replicate n a) (i := q / k) (j := q % k) (a := a) (by simp [hqd]) h1
    rw [show q / k * k + q % k = q by rw [Nat.mul_comm]; exact Nat.div_add_mod q k] at h2
    rw [h2]
    simp [madeCells, hq, hzs]
    rw [getElem!_pos zs _ hsz]
  · rw [List.getElem?_eq_none (by simp [madeCells]; omega), List.getElem?_eq_none (by rw [e.length]; simp; omega)]
theorem SO.makeA {x y : Operand} {t T : TypeId} {bytes n : Nat} {z : Value} (e : Enc α k) (a : α) (hT : STy P t T k bytes z) (hz : z.cells.toList = e.enc a) (hx : ev f x = some (vi n)) (hy : ev f y = some (vi n)) (hb : n * bytes ≤ 140737488355328) (hlen : n ≤ 4611686018427387904) :
    SO P N E ⟨dst, .makeSlice t x y, ty, pos, af, gd⟩ f g s fun v' g' s' => ∃ b, v' = .slice (some ⟨b, 0, none⟩) n n ∧ g = g' ∧ s' = rowA e T (.slice (some ⟨b, 0, none⟩) n n) (List.replicate n a) :: s :=
  SO.of_run fun ac w ha hw => by
    obtain ⟨ti, ht1, ht2, ht3, ht4⟩ := hT.info
    have hbi : (ti.bytes : Int) * ((n : Nat) : Int) ≤ 281474976710656 := by
      rw [ht4, ← Int.natCast_mul, Nat.mul_comm]; omega
    have h5 := run_make (P := P) w t T ti z hT.und ht1 ht2 .i64 .i64 n n (by omega) (Int.le_refl _) hbi (by omega)
    simp only [Int.toNat_natCast] at h5
    rw [ht3] at h5
    have hrun : (execOp ac.eval ⟨dst, .makeSlice t x y, ty, pos, af, gd⟩).run P w = .ok (.value (.slice (some ⟨w.heap.size, 0, none⟩) n n)) (w.alloc (.cells (madeCells z.cells (n * k)) T)) := by
      simp [execOp, ha.ev hx, ha.ev hy, h5]
    have hnew : (w.alloc (.cells (madeCells z.cells (n * k)) T)).heap[w.heap.size]? = some (.cells (madeCells z.cells (n * k)) T (0, 0)) := heap_alloc_new w _
    refine ⟨_, _, g, _, hrun, ?_, _, rfl, rfl, rfl⟩
    have hml := made_list (e := e) (a := a) n hz
    cases n with
    | zero =>
      have h6 := hw.emptyRow T k (some ⟨w.heap.size, 0, none⟩)
      have h7 := h6.alloc (e := pt w.heap.size (.cells (madeCells z.cells (0 * k)) T (0, 0))) (o := .cells (madeCells z.cells (0 * k)) T (0, 0)) rfl rfl
      exact h7.sublist (List.sublist_cons_self _ _)
    | succ n =>
      have h6 := hw.alloc (e := pt w.heap.size (.cells (madeCells z.cells ((n + 1) * k)) T (0, 0))) (o := .cells (madeCells z.cells ((n + 1) * k)) T (0, 0)) rfl rfl
      exact h6.litRow hml (by simp) (by unfold maxLen; omega)
end

theorem SP.freeze {P : Program} {N : Nat} {E : World} {ops : Array Oper} {Q : Exit → Act → World → Prop} {g0 : PH} {s0 : Own} {tail : List Nat} {plan : List (Nat × Nat)} {f : Fr} {g : PH} {s : Own} {b : Nat} {o : Obj} (h : ∀ g', Le g g' → g' b = some o → SP P N E ops Q g0 s0 tail plan f g' s) : SP P N E ops Q g0 s0 tail plan f g (pt b o :: s) := fun L a w h1 hcl h2 ha hw hb => by
  have ho : w.heap[b]? = some o := by have := hw.own (pt b o) (by simp); simpa [pt] using this
  obtain ⟨h3, h4⟩ := hw.freeze (b := b) rfl ho
  exact h _ h4 (upd_self _ _ _) L a w h1 hcl h2 ha h3 hb
theorem SP.freezeRow {P : Program} {N : Nat} {E : World} {ops : Array Oper} {Q : Exit → Act → World → Prop} {g0 : PH} {s0 : Own} {tail : List Nat} {plan : List (Nat × Nat)} {f : Fr} {g : PH} {s : Own} {T : TypeId} {k n : Nat} {v : Value} {xs : List Value} (h : ∀ g', Le g g' → Sl g' k v n xs → SP P N E ops Q g0 s0 tail plan f g' s) : SP P N E ops Q g0 s0 tail plan f g (row T k v n xs :: s) := fun L a w h1 hcl h2 ha hw hb => by
  obtain ⟨g', h3, h4, h5⟩ := hw.freezeRow
  exact h g' h3 h5 L a w h1 hcl h2 ha h4 hb

end Go.Sy
end
section
namespace Go.Pl

section
variable {α : Type} (key : α → Int)

/-- l' has l's elements, those of one key in the same order. -/
def Stab (l l' : List α) : Prop := l'.length = l.length ∧ ∀ c, l'.filter (fun a => key a == c) = l.filter (fun a => key a == c)
/-- Sorted by the key. -/
def Srt (l : List α) : Prop := l.Pairwise fun a b => key a ≤ key b
end

section
variable {α : Type} {key : α → Int}

theorem Stab.refl (l : List α) : Stab key l l := ⟨rfl, fun _ => rfl⟩
theorem Stab.trans {a b c : List α} (h : Stab key a b) (k : Stab key b c) : Stab key a c := ⟨k.1.trans h.1, fun x => (k.2 x).trans (h.2 x)⟩
theorem Stab.symm {a b : List α} (h : Stab key a b) : Stab key b a := ⟨h.1.symm, fun x => (h.2 x).symm⟩
theorem Stab.append {a a' b b' : List α} (h : Stab key a a') (k : Stab key b b') : Stab key (a ++ b) (a' ++ b') := ⟨by simp [h.1, k.1], fun c => by simp [h.2 c, k.2 c]⟩
theorem Stab.mem {l l' : List α} (h : Stab key l l') {x : α} (hx : x ∈ l') : x ∈ l := by
  have : x ∈ l'.filter (fun a => key a == key x) := by simp [hx]
  rw [h.2] at this
  exact (List.mem_filter.1 this).1
theorem Stab.mem_iff {l l' : List α} (h : Stab key l l') (x : α) : x ∈ l' ↔ x ∈ l := ⟨h.mem, h.symm.mem⟩

theorem filter_none {l : List α} {c : Int} (h : ∀ x ∈ l, key x ≠ c) : l.filter (fun a => key a == c) = [] := by
  rw [List.filter_eq_nil_iff]
  intro x hx
  simpa using h x hx

/-- Two blocks without a common key may be exchanged. -/
theorem Stab.swap {a b : List α} (h : ∀ x ∈ a, ∀ y ∈ b, key x ≠ key y) : Stab key (a ++ b) (b ++ a) := by
  refine ⟨by simp [Nat.add_comm], fun c => ?_⟩
  simp only [List.filter_append]
  by_cases hc : ∃ x ∈ a, key x = c
  · obtain ⟨x, hx, rfl⟩ := hc
    rw [filter_none (l := b) (fun y hy => fun e => h x hx y hy e.symm)]
    simp
  · rw [filter_none (l := a) (fun x hx => fun e => hc ⟨x, hx, e⟩)]
    simp

theorem Srt.append_iff {a b : List α} : Srt key (a ++ b) ↔ Srt key a ∧ Srt key b ∧ ∀ x ∈ a, ∀ y ∈ b, key x ≤ key y := List.pairwise_append
theorem Srt.nil : Srt key [] := List.Pairwise.nil
theorem Srt.one (a : α) : Srt key [a] := List.pairwise_singleton _ _
theorem Srt.cons_iff {a : α} {l : List α} : Srt key (a :: l) ↔ (∀ x ∈ l, key a ≤ key x) ∧ Srt key l := List.pairwise_cons

/-- A sorted list is known by its elements of each key. -/
theorem Srt.unique : ∀ {l m : List α}, Srt key l → Srt key m → Stab key l m → l = m
  | [], m, _, _, h => by
    have := h.1
    simp only [List.length_nil] at this
    exact (List.eq_nil_of_length_eq_zero this).symm
  | a :: l, [], _, _, h => by have := h.1; simp at this
  | a :: l, b :: m, hl, hm, h => by
    have hab : key a = key b := by
      have h1 : b ∈ a :: l := h.mem (List.mem_cons_self ..)
      have h2 : a ∈ b :: m := h.symm.mem (List.mem_cons_self ..)
      have h3 : key a ≤ key b := by
        rcases List.mem_cons.1 h1 with e | e
        · rw [e]; exact Int.le_refl _
        · exact (Srt.cons_iff.1 hl).1 b e
      have h4 : key b ≤ key a := by
        rcases List.mem_cons.1 h2 with e | e
        · rw [e]; exact Int.le_refl _
        · exact (Srt.cons_iff.1 hm).1 a e
      omega
    have he : a = b := by
      have := h.2 (key a)
      simp only [List.filter_cons, beq_self_eq_true, if_true, ← hab] at this
      injection this with e1
      exact e1.symm
    subst he
    have : Stab key l m := by
      refine ⟨by have := h.1; simpa using this, fun c => ?_⟩
      have := h.2 c
      simp only [List.filter_cons] at this
      split at this
      · injection this
      · exact this
    rw [Srt.unique (Srt.cons_iff.1 hl).2 (Srt.cons_iff.1 hm).2 this]

/-! The sort that is computed. -/
def ins (key : α → Int) (x : α) : List α → List α
  | [] => [x]
  | y :: r => if key x ≤ key y then x :: y :: r else y :: ins key x r
def sortBy (key : α → Int) : List α → List α
  | [] => []
  | x :: r => ins key x (sortBy key r)

theorem ins_stab (x : α) : ∀ l : List α, Stab key (x :: l) (ins key x l)
  | [] => Stab.refl _
  | y :: r => by
    unfold ins
    split
    · exact Stab.refl _
    · rename_i h
      have h1 : Stab key (x :: y :: r) (y :: x :: r) := by
        have := Stab.append (Stab.swap (key := key) (a := [x]) (b := [y]) (by simp; omega)) (Stab.refl (key := key) r)
        simpa using this
      have h2 := Stab.append (Stab.refl (key := key) [y]) (ins_stab x r)
      exact h1.trans (by simpa using h2)
theorem ins_srt (x : α) : ∀ l : List α, Srt key l → Srt key (ins key x l)
  | [], _ => Srt.one x
  | y :: r, h => by
    unfold ins
    split
    · rename_i hle
      exact Srt.cons_iff.2 ⟨fun z hz => by
        rcases List.mem_cons.1 hz with e | e
        · rw [e]; exact hle
        · exact Int.le_trans hle ((Srt.cons_iff.1 h).1 z e), h⟩
    · rename_i hlt
      obtain ⟨h1, h2⟩ := Srt.cons_iff.1 h
      refine Srt.cons_iff.2 ⟨fun z hz => ?_, ins_srt x r h2⟩
      rcases List.mem_cons.1 ((ins_stab x r).mem hz) with e | e
      · rw [e]; omega
      · exact h1 z e
theorem sortBy_stab : ∀ l : List α, Stab key l (sortBy key l)
  | [] => Stab.refl _
  | x :: r => (by simpa using Stab.append (Stab.refl (key := key) [x]) (sortBy_stab r) : Stab key (x :: r) (x :: sortBy key r)).trans (ins_stab x _)
theorem sortBy_srt : ∀ l : List α, Srt key (sortBy key l)
  | [] => Srt.nil
  | x :: r => ins_srt x _ (sortBy_srt r)
theorem sortBy_length (l : List α) : (sortBy key l).length = l.length := (sortBy_stab l).1
theorem sortBy_mem (l : List α) (x : α) : x ∈ sortBy key l ↔ x ∈ l := (sortBy_stab l).mem_iff x
/-- What is sorted and stable is that. -/
theorem eq_sortBy {l m : List α} (hs : Srt key m) (h : Stab key l m) : m = sortBy key l := (sortBy_srt l).unique hs ((sortBy_stab l).symm.trans h) |>.symm

theorem Stab.map {β : Type} {f : β → α} {l m : List β} (h : Stab (key ∘ f) l m) : Stab key (l.map f) (m.map f) := by
  refine ⟨by simp [h.1], fun c => ?_⟩
  have := h.2 c
  rw [List.filter_map, List.filter_map]
  exact congrArg (List.map f) this
theorem Srt.map {β : Type} {f : β → α} {l : List β} (h : Srt (key ∘ f) l) : Srt key (l.map f) := by
  unfold Srt
  rw [List.pairwise_map]
  exact h
theorem sortBy_map {β : Type} {f : β → α} (l : List β) : sortBy key (l.map f) = (sortBy (key ∘ f) l).map f :=
  (eq_sortBy (sortBy_srt (key := key ∘ f) l).map (sortBy_stab (key := key ∘ f) l).map).symm
end

/-! Chunks. -/
section
variable {α : Type} (key : α → Int)
/-- Sorted chunks of just B elements, one behind the other. -/
inductive FC (B : Nat) : List α → Prop
  | nil : FC B []
  | cons {c d : List α} : c.length = B → Srt key c → FC B d → FC B (c ++ d)
end
section
variable {α : Type} {key : α → Int} {B : Nat}
theorem FC.snoc {d c : List α} (h : FC key B d) (hc : c.length = B) (hs : Srt key c) : FC key B (d ++ c) := by
  induction h with
  | nil => simpa using FC.cons hc hs FC.nil
  | cons h1 h2 _ ih => rw [List.append_assoc]; exact FC.cons h1 h2 ih
theorem FC.length {d : List α} (h : FC key B d) : ∃ q, d.length = q * B := by
  induction h with
  | nil => exact ⟨0, by simp⟩
  | cons h1 _ _ ih => obtain ⟨q, hq⟩ := ih; exact ⟨q + 1, by simp [h1, hq, Nat.succ_mul]; omega⟩
/-- A chunk, if there is room for one. -/
theorem FC.front {d : List α} (h : FC key B d) (hd : 0 < d.length) : ∃ c r, d = c ++ r ∧ c.length = B ∧ Srt key c ∧ FC key B r := by
  cases h with
  | nil => simp at hd
  | cons h1 h2 h3 => exact ⟨_, _, rfl, h1, h2, h3⟩
end

/-! What a comparison comes to. -/
def cmpI (x y : Int) : Int := if x < y then -1 else if y < x then 1 else 0
theorem cmpI_neg {x y : Int} : cmpI x y < 0 ↔ x < y := by unfold cmpI; split <;> (try split) <;> simp_all <;> omega

end Go.Pl
end
section
namespace Go.Proofs.YtbfeggodaaojgaaGreatDoor
open Go Go.Sy Go.Pl Go.Proofs
set_option maxRecDepth 100000

theorem Tryz.mixed : Tryz.prog.follows .mixedOrders = true := by kernel_rfl
theorem Tryz.sty64 : STy Tryz.prog 64 3 1 8 (vi 0) := ⟨Tryz.underlying64, ⟨Tryz.t3, by kernel_rfl, by kernel_rfl, by kernel_rfl, by kernel_rfl⟩, rfl, by decide⟩
theorem Tryz.sty74 : STy Tryz.prog 74 64 1 24 (.slice none 0 0) := ⟨Tryz.underlying74, ⟨Tryz.t64, by kernel_rfl, by kernel_rfl, by kernel_rfl, by kernel_rfl⟩, rfl, by decide⟩
theorem Tryz.sty47 : STy Tryz.prog 47 52 2 16 (.agg #[vi 0, vi 0]) := ⟨Tryz.underlying47, ⟨Tryz.t52, by kernel_rfl, by kernel_rfl, by kernel_rfl, by kernel_rfl⟩, rfl, by decide⟩
theorem Tryz.sty92 : STy Tryz.prog 92 171 3 40 (.agg #[vi 0, vi 0, .slice none 0 0]) := ⟨Tryz.underlying92, ⟨Tryz.t171, by kernel_rfl, by kernel_rfl, by kernel_rfl, by kernel_rfl⟩, rfl, by decide⟩

theorem vi_eq {a b : Int} (h : a = b) : some (vi a) = some (vi b) := by rw [h]

/-! Encodings. -/
def encInt : Enc Int 1 := ⟨fun n => [vi n], fun _ => rfl, fun _ u hu => by simp at hu; subst hu; rfl, by decide⟩
structure Side where
  cell : Int
  sign : Int
  deriving DecidableEq
def encSide : Enc Side 2 := ⟨fun p => [vi p.cell, vi p.sign], fun _ => rfl, fun _ u hu => by simp at hu; rcases hu with rfl | rfl <;> rfl, by decide⟩
/-- A slice's value. -/
structure Sv where
  p : Option Addr
  n : Nat
  c : Nat
def Sv.v (x : Sv) : Value := .slice x.p x.n x.c
def encSv : Enc Sv 1 := ⟨fun x => [.slice x.p x.n x.c], fun _ => rfl, fun _ u hu => by simp at hu; subst hu; rfl, by decide⟩
/-- A cell as it lies: its sides are a slice's value. -/
structure Rc where
  id : Int
  dim : Int
  sv : Sv
def encCell : Enc Rc 3 := ⟨fun r => [vi r.id, vi r.dim, .slice r.sv.p r.sv.n r.sv.c], fun _ => rfl, fun _ u hu => by simp at hu; rcases hu with rfl | rfl | rfl <;> rfl, by decide⟩

/-- The slice v reads as the numbers l. -/
abbrev Ints (g : PH) (v : Value) (l : List Int) : Prop := SlA encInt g v l

/-- A comparison by a key, called. -/
def CmpOk {α : Type} {k : Nat} (E : World) (cv : Value) (e : Enc α k) (key : α → Int) (g : PH) : Prop :=
  ∀ g' s a b, Le g g' → CallV Tryz.prog E cv [.agg (e.enc a).toArray, .agg (e.enc b).toArray] g' s (fun r g'' s'' => r = vi (cmpI (key a) (key b)) ∧ g' = g'' ∧ s = s'')

theorem get_mid {α : Type} {u w : List α} {a : α} {j : Nat} (h : j = u.length) : (u ++ a :: w)[j]? = some a := by subst h; simp
theorem set_mid {α : Type} {u w : List α} {a b : α} {j : Nat} (h : j = u.length) : (u ++ a :: w).set j b = u ++ b :: w := by subst h; simp

/-- (i + j) >> 1 on unsigned numbers. -/
theorem half_eq (i j : Nat) (h : i + j < 9223372036854775808) : IntKind.i64.wrap ((IntKind.u64.wrap ((i : Int) + (j : Int))).fdiv (2 ^ min (1 : Int).toNat IntKind.u64.bits)) = (((i + j) / 2 : Nat) : Int) := by
  have h1 : IntKind.u64.wrap ((i : Int) + (j : Int)) = ((i + j : Nat) : Int) := by rw [IntWalk.u64_in _ (by omega)]; simp
  rw [h1]
  have h2 : ((2 : Int) ^ min (1 : Int).toNat IntKind.u64.bits) = 2 := by decide
  rw [h2, Int.fdiv_eq_ediv_of_nonneg _ (by decide)]
  rw [IntWalk.i64_in _ (by omega)]
  omega
theorem half_int (x : Int) (h0 : 0 ≤ x) (h : x < 9223372036854775808) : IntKind.i64.wrap ((IntKind.u64.wrap x).fdiv (2 ^ min (1 : Int).toNat IntKind.u64.bits)) = x / 2 := by
  have h1 : IntKind.u64.wrap x = x := IntWalk.u64_in _ (by omega)
  rw [h1]
  have h2 : ((2 : Int) ^ min (1 : Int).toNat IntKind.u64.bits) = 2 := by decide
  rw [h2, Int.fdiv_eq_ediv_of_nonneg _ (by decide)]
  rw [IntWalk.i64_in _ (by omega)]
theorem SU.eq {P : Program} {N : Nat} {o : Oper} {f : Fr} {v v' : Value} (h : SU P N o f v) (e : v = v') : SU P N o f v' := e ▸ h
theorem SQ.eq {P : Program} {N : Nat} {E : World} {o : Oper} {f : Fr} {g : PH} {s : Own} {v v' : Value} (h : SQ P N E o f g s v) (e : v = v') : SQ P N E o f g s v' := e ▸ h

end Go.Proofs.YtbfeggodaaojgaaGreatDoor
end
