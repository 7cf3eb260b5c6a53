/-
  'CellsProducts': products are those of the reference model; products of right complexes are right, and Euler numbers are multiplied. No condition.
-/
import Derived.Test.YtkdibcicncjpdaaGreatPd13
import Derived.Test.YtkdibcicncjpdaaGreatPd10
import Derived.Test.YtkdibcicncjpdaaGreatPd06
import Derived.Test.YtkdibcicncjpdaaGreatPd12
import Derived.Test.YtkdibcicncjpdaaGreatPd09
import Derived.Laws.Small
set_option linter.unusedSimpArgs false
set_option linter.unusedVariables false
namespace Go.Proofs.YtkdibcicncjpdaaGreat
open _root_.Go.Proofs.Tryz _root_.Go.Proofs.YtkdibcicncjpdaaGreat.Tryz
open Go Go.Sy Go.Pl Go.Proofs
theorem find_mem {A : List Cl} (h : (A.map Cl.id).Nodup) {x : Cl} (hx : x ∈ A) : findT A x.id = some x := by
 induction A with
 | nil => simp at hx
 | cons c t ih =>
  simp only [List.map_cons, List.nodup_cons] at h
  unfold findT
  rcases List.mem_cons.1 hx with rfl | hx
  ·simp
  ·have hne : ¬ c.id = x.id := fun e => h.1 (by rw [e]; exact List.mem_map.2 ⟨x, hx, rfl⟩)
   rw [List.find?_cons]
   simp only [hne, decide_false]
   exact ih h.2 hx
theorem normC_idem (c : Cl) : normC (normC c) = normC c := by
 unfold normC
 rw [← eq_sortBy (sortBy_srt c.sides) (Stab.refl _)]
theorem canonC_idem (l : List Cl) : canonC (canonC l) = canonC l := by
 have h1 : sortBy Cl.id (canonC l) = canonC l := (eq_sortBy (canonC_srt l) (Stab.refl _)).symm
 show (sortBy Cl.id (canonC l)).map normC = canonC l
 rw [h1]
 unfold canonC
 rw [List.map_map]
 exact List.map_congr_left fun c _ => normC_idem c
theorem sort_rev {α : Type} {key : α → Int} {l : List α} (h : l.Pairwise fun a b => key b < key a) : sortBy key l = l.reverse := by
 refine (eq_sortBy ?_ ⟨by simp, fun c => ?_⟩).symm
 ·unfold Srt
  rw [List.pairwise_reverse]
  exact h.imp fun h => by omega
 ·rw [List.filter_reverse]
  have : ∀ m : List α, m.Pairwise (fun a b => key b < key a) → (∀ a ∈ m, (key a == c) = true) → m.reverse = m := by
   intro m hm hc
   match m, hm, hc with
   | [], _, _ => rfl
   | [_], _, _ => rfl
   | a :: b :: r, hm, hc =>
    have h1 := (List.pairwise_cons.1 hm).1 b (by simp)
    have h2 := hc a (by simp)
    have h3 := hc b (by simp)
    simp at h2 h3
    omega
  exact this _ (h.sublist List.filter_sublist) fun a ha => (List.mem_filter.1 ha).2
section
variable {all : List (List Int)} (hg : Good all)
include hg
theorem Good.face {s : List Int} (hs : s ∈ all) {k : Nat} (hk : k < s.length) (h2 : 2 ≤ s.length) : s.eraseIdx k ∈ all ∧ (s.eraseIdx k).length = s.length - 1 :=
 ⟨hg.faces s hs h2 k hk, by rw [List.length_eraseIdx, if_pos hk]⟩
theorem Good.sides {s : List Int} (hs : s ∈ all) : sortBy Side.cell (simpSides all s s.length) = facesC all s := by
 have hne := (hg.form s hs).1
 have hst := (hg.form s hs).2.1
 by_cases h1 : s.length ≤ 1
 ·have h0 : s.length = 1 := by have := List.length_pos_iff.2 hne; omega
  unfold facesC
  rw [if_pos h1, h0]
  have : sideAt all s 0 = [] := by
   unfold sideAt
   have h3 : (s.eraseIdx 0).length = 0 := by rw [List.length_eraseIdx, if_pos oM]; omega
   rw [if_neg oM]
  simp [simpSides, List.range_succ, this, sortBy]
 ·have h2 : 2 ≤ s.length := oM
  have e : simpSides all s s.length = (List.range s.length).map fun k : Nat => (⟨ixC all (s.eraseIdx k), signC k⟩ : Side) := by
   unfold simpSides
   rw [List.flatMap_def]
   have : (List.range s.length).map (sideAt all s) = (List.range s.length).map fun k : Nat => [(⟨ixC all (s.eraseIdx k), signC k⟩ : Side)] := List.map_congr_left fun k hk => by
    have hk := List.mem_range.1 hk
    unfold sideAt
    rw [(hg.face hs hk h2).2, if_pos oM]
    rfl
   rw [this]
   generalize List.range s.length = R
   induction R with
   | nil => rfl
   | cons x r ih => simp only [List.map_cons, List.flatten_cons, ih]; rfl
  unfold facesC
  rw [if_neg h1, e, List.map_reverse]
  refine sort_rev ?_
  rw [List.pairwise_map]
  refine List.Pairwise.imp_of_mem ?_ (List.pairwise_lt_range (n := s.length))
  intro i j hi hj hij
  have hi := List.mem_range.1 hi
  have hj := List.mem_range.1 hj
  exact hg.lt (hg.face hs hj h2).1 (hg.face hs hi h2).1 (erase_lt hst hij hj)
theorem Good.cells : canonC (simpCells all) = all.map (celC all) := by
 rw [canon_simp]
 apply List.ext_getElem?
 intro k
 simp only [List.getElem?_map]
 by_cases hk : k < all.length
 ·rw [simpCells_get hk, List.getElem?_eq_getElem hk]
  simp only [Option.map_some, Option.some.injEq]
  unfold normC simpCell celC
  simp only [hg.sides (List.getElem_mem hk), ixC, hg.lb_get hk]
 ·rw [List.getElem?_eq_none (by rw [simpCells_length]; omega), List.getElem?_eq_none oM]
  rfl
theorem Good.ids : ((all.map (celC all)).map Cl.id).Pairwise (· < ·) := by
 rw [List.map_map, List.pairwise_map]
 refine List.Pairwise.imp_of_mem ?_ hg.strict
 intro a b ha hb h
 exact hg.lt ha hb h
theorem Good.find {s : List Int} (hs : s ∈ all) : findT (all.map (celC all)) (ixC all s) = some (celC all s) :=
 find_mem (x := celC all s) (hg.ids.imp fun h => by omega) (List.mem_map.2 ⟨s, hs, rfl⟩)
end
theorem signC_one (k : Nat) : signC k = 1 ∨ signC k = -1 := by unfold signC; omega
theorem facesC_get {all : List (List Int)} {s : List Int} (h : 2 ≤ s.length) {i : Nat} (hi : i < s.length) : (facesC all s)[i]? = some ⟨ixC all (s.eraseIdx (s.length - 1 - i)), signC ((s.length - 1 - i : Nat) : Int)⟩ := by
 unfold facesC
 rw [if_neg oM, List.getElem?_map, List.getElem?_reverse (by simpa using hi)]
 simp only [List.length_range]
 rw [List.getElem?_range oM]
 rfl
theorem facesC_length {all : List (List Int)} {s : List Int} : (facesC all s).length = if s.length ≤ 1 then 0 else s.length := by
 unfold facesC
 split <;> simp
section
variable {all : List (List Int)} (hg : Good all)
include hg
theorem Good.formOk {s : List Int} (hs : s ∈ all) : formC (all.map (celC all)) (celC all s) = 0 := by
 obtain ⟨hne, hst, h9⟩ := hg.form s hs
 have hp := List.length_pos_iff.2 hne
 have hlen : (celC all s).sides.length = if s.length ≤ 1 then 0 else s.length := facesC_length
 have hdim : (celC all s).dim = (s.length : Int) - 1 := rfl
 have h1 : dimBad (celC all s) = false := by unfold dimBad; rw [hdim]; simp; omega
 have h2 : cntBad (celC all s) = false := by
  unfold cntBad
  rw [hdim, hlen]
  split
  ·simp; omega
  ·simp; omega
 have h3 : (List.range (celC all s).sides.length).any (badAt (all.map (celC all)) (celC all s)) = false := by
  rw [List.any_eq_false]
  intro i hi
  have hi := List.mem_range.1 hi
  rw [hlen] at hi
  split at hi
  ·omega
  ·rename_i hl
   have h2 : 2 ≤ s.length := oM
   have hgi := facesC_get (all := all) h2 hi
   have hf := hg.face hs (k := s.length - 1 - i) oM h2
   unfold badAt
   rw [show (celC all s).sides[i]? = _ from hgi]
   show ¬ badSide _ _ i ⟨ixC all (s.eraseIdx (s.length - 1 - i)), _⟩ = true
   unfold badSide
   dsimp only
   rw [hg.find hf.1]
   have hd : (celC all (s.eraseIdx (s.length - 1 - i))).dim = (celC all s).dim - 1 := by
    show ((s.eraseIdx (s.length - 1 - i)).length : Int) - 1 = (s.length : Int) - 1 - 1
    rw [hf.2]
    omega
   simp only [Option.isSome_some, Bool.not_true, Bool.false_or, Option.getD_some, hd, ne_eq, not_true_eq_false, decide_false]
   by_cases hi0 : i > 0
   ·have hgp := facesC_get (all := all) h2 (i := i - 1) oM
    rw [show (celC all s).sides[i - 1]? = _ from hgp]
    have hf2 := hg.face hs (k := s.length - 1 - (i - 1)) oM h2
    have := hg.lt hf2.1 hf.1 (erase_lt hst oM oM)
    simp
    omega
   ·simp [hi0]
 have h4 : (celC all s).sides.any signBad = false := by
  rw [List.any_eq_false]
  intro x hx
  show ¬ signBad x = true
  have hx : x ∈ facesC all s := hx
  unfold facesC at hx
  split at hx
  ·simp at hx
  ·obtain ⟨k, _, rfl⟩ := List.mem_map.1 hx
   rcases signC_one k with h | h <;> simp [signBad, h]
 have h5 : (decide ((celC all s).dim = 1) && decide (sumS (celC all s).sides ≠ 0)) = false := by
  by_cases hd : (celC all s).dim = 1
  ·rw [hdim] at hd
   have hl2 : s.length = 2 := oM
   have : sumS (celC all s).sides = 0 := by
    show sumS (facesC all s) = 0
    unfold facesC
    rw [if_neg oM, hl2]
    simp [List.range_succ, sumS, signC]
   rw [this]
   simp
  ·simp [hd]
 unfold formC
 rw [h1, h2, h3, h4, h5]
 rfl
end
theorem erase_comm (s : List Int) : ∀ {k q : Nat}, k ≤ q → (s.eraseIdx k).eraseIdx q = (s.eraseIdx (q + 1)).eraseIdx k := by
 induction s with
 | nil => intro k q _; rfl
 | cons a r ih =>
  intro k q h
  cases k with
  | zero => simp
  | succ k =>
   cases q with
   | zero => omega
   | succ q =>
    simp only [List.eraseIdx_cons_succ]
    rw [ih oM]
theorem mem_erase2 {s : List Int} (hs : s.Nodup) {a b i : Nat} (hab : a < b) (hb : b < s.length) (hi : i < s.length) : s[i] ∈ (s.eraseIdx b).eraseIdx a ↔ i ≠ a ∧ i ≠ b := by
 have hinj : ∀ {j k : Nat} (hj : j < s.length) (hk : k < s.length), s[j] = s[k] → j = k := fun {j k} hj hk e => by
  rcases Nat.lt_trichotomy j k with h | h | h
  ·exact absurd e (List.pairwise_iff_getElem.1 hs j k hj hk h)
  ·exact h
  ·exact absurd e.symm (List.pairwise_iff_getElem.1 hs k j hk hj h)
 rw [List.mem_eraseIdx_iff_getElem]
 constructor
 ·rintro ⟨j, hj1, hj2, e⟩
  have hj1' := hj1
  rw [List.length_eraseIdx, if_pos hb] at hj1'
  rw [List.getElem_eraseIdx] at e
  split at e
  ·have := hinj _ _ e
   omega
  ·have := hinj _ _ e
   omega
 ·rintro ⟨h1, h2⟩
  rcases Nat.lt_or_ge i b with h | h
  ·refine ⟨i, by rw [List.length_eraseIdx, if_pos hb]; omega, h1, ?_⟩
   rw [List.getElem_eraseIdx, dif_pos h]
  ·refine ⟨i - 1, by rw [List.length_eraseIdx, if_pos hb]; omega, oM, ?_⟩
   rw [List.getElem_eraseIdx, dif_neg oM]
   congr 1
   omega
theorem erase2_inj {s : List Int} (hs : s.Nodup) {a b c d : Nat} (hab : a < b) (hb : b < s.length) (hcd : c < d) (hd : d < s.length) (h : (s.eraseIdx b).eraseIdx a = (s.eraseIdx d).eraseIdx c) : a = c ∧ b = d := by
 have key : ∀ i, i < s.length → ((i ≠ a ∧ i ≠ b) ↔ (i ≠ c ∧ i ≠ d)) := fun i hi => by
  rw [← mem_erase2 hs hab hb hi, ← mem_erase2 hs hcd hd hi, h]
 have ha := key a oM
 have hb' := key b hb
 have hc := key c oM
 have hd' := key d hd
 omega
def phiC (all : List (List Int)) (s : List Int) (c : Int) : Int := ixC all ((s.eraseIdx (c % 16).toNat).eraseIdx (c / 16).toNat)
theorem code_ab {n k q : Nat} (hk : k < n) (hq : q < n - 1) : ∃ a b : Nat, a < b ∧ b < n ∧ code k q = ((a * 16 + b : Nat) : Int) ∧ ((q < k ∧ a = q ∧ b = k) ∨ (k ≤ q ∧ a = k ∧ b = q + 1)) := by
 unfold code
 by_cases h : q < k
 ·rw [if_pos h]; exact ⟨q, k, h, hk, rfl, .inl ⟨h, rfl, rfl⟩⟩
 ·rw [if_neg h]; exact ⟨k, q + 1, oM, oM, rfl, .inr ⟨oM, rfl, rfl⟩⟩
theorem code_div {a b : Nat} (h : b < 16) : ((((a * 16 + b : Nat) : Int) % 16).toNat = b) ∧ ((((a * 16 + b : Nat) : Int) / 16).toNat = a) := oM
section
variable {all : List (List Int)} (hg : Good all)
include hg
theorem Good.aroundOk {s : List Int} (hs : s ∈ all) (h3 : 2 < s.length) : aroundC (all.map (celC all)) (celC all s) = 0 := by
 obtain ⟨hne, hst, h9⟩ := hg.form s hs
 have hnd : s.Nodup := hst.imp fun h => by omega
 have hE : ∀ a b, a < b → b < s.length → (s.eraseIdx b).eraseIdx a ∈ all := fun a b hab hb => by
  have h1 := hg.face hs (k := b) hb oM
  exact (hg.face h1.1 (k := a) (by rw [h1.2]; omega) (by rw [h1.2]; omega)).1
 have hlook : lookL (all.map (celC all)) (celC all s) = renL (phiC all s) (patS s.length) := by
  unfold lookL renL patS
  show (facesC all s).map _ = _
  unfold facesC
  rw [if_neg oM, List.map_map, List.map_map]
  refine List.map_congr_left fun k hk => ?_
  have hk : k < s.length := by simpa using hk
  have hf := hg.face hs hk oM
  simp only [Function.comp_def]
  congr 1
  unfold sidesOf
  rw [hg.find hf.1]
  show facesC all (s.eraseIdx k) = _
  unfold facesC
  rw [hf.2, if_neg oM, List.map_map]
  refine List.map_congr_left fun q hq => ?_
  have hq : q < s.length - 1 := by simpa using hq
  obtain ⟨a, b, hab, hb, hc, hcase⟩ := code_ab hk hq
  simp only [Function.comp_def, renS]
  congr 1
  unfold phiC
  rw [hc, (code_div (a := a) (b := b) oM).1, (code_div (a := a) (b := b) oM).2]
  rcases hcase with ⟨_, rfl, rfl⟩ | ⟨h, rfl, rfl⟩
  ·rfl
  ·rw [erase_comm s h]
 rw [aroundC_L, hlook, aroundL_ren, patS_ok _ oM h3]
 have hkey : ∀ x ∈ keyL (patS s.length), ∃ a b : Nat, a < b ∧ b < s.length ∧ x = ((a * 16 + b : Nat) : Int) := by
  intro x hx
  obtain ⟨p, hp, hx⟩ := List.mem_flatMap.1 hx
  obtain ⟨k, hk, rfl⟩ := List.mem_map.1 hp
  obtain ⟨r, hr, rfl⟩ := List.mem_map.1 hx
  obtain ⟨q, hq, rfl⟩ := List.mem_map.1 hr
  obtain ⟨a, b, hab, hb, hc, _⟩ := code_ab (n := s.length) (k := k) (q := q) (by simpa using hk) (by simpa using hq)
  exact ⟨a, b, hab, hb, hc⟩
 intro x hx y hy h
 obtain ⟨a, b, hab, hb, rfl⟩ := hkey x hx
 obtain ⟨c, d, hcd, hd, rfl⟩ := hkey y hy
 unfold phiC at h
 rw [(code_div (a := a) (b := b) oM).1, (code_div (a := a) (b := b) oM).2, (code_div (a := c) (b := d) oM).1, (code_div (a := c) (b := d) oM).2] at h
 obtain ⟨rfl, rfl⟩ := erase2_inj hnd hab hb hcd hd (hg.inj (hE a b hab hb) (hE c d hcd hd) h)
 rfl
end
theorem chk1_fine {tl : List Cl} : ∀ {l : List Cl} {n : Int}, (∀ x ∈ l, n < x.id) → l.Pairwise (fun a b => a.id < b.id) → (∀ x ∈ l, formC tl x = 0) → chk1 tl l n = none
 | [], _, _, _, _ => rfl
 | x :: r, n, h1, h2, h3 => by
  have hx := h1 x (by simp)
  obtain ⟨h4, h5⟩ := List.pairwise_cons.1 h2
  unfold chk1
  rw [if_neg oM, if_neg (by rw [h3 x (by simp)]; simp)]
  exact chk1_fine h4 h5 fun y hy => h3 y (by simp [hy])
theorem chk2_fine {tl : List Cl} : ∀ {l : List Cl}, (∀ x ∈ l, x.dim > 1 → aroundC tl x = 0) → chk2 tl l = none
 | [], _ => rfl
 | x :: r, h => by
  unfold chk2
  rw [if_neg fun ⟨h1, h2⟩ => h2 (h x (by simp) h1)]
  exact chk2_fine fun y hy => h y (by simp [hy])
theorem check_ok {l : List Cl} (h0 : l.length ≤ 4000) (h1 : ∀ x ∈ canonC l, 0 < x.id) (h2 : (canonC l).Pairwise fun a b => a.id < b.id) (h3 : ∀ x ∈ canonC l, formC (canonC l) x = 0) (h4 : ∀ x ∈ canonC l, x.dim > 1 → aroundC (canonC l) x = 0) : checkC l = (0, 0) := by
 unfold checkC
 rw [if_neg oM, tabC_strict h2, chk1_fine h1 h2 h3, chk2_fine h4]
 rfl
inductive Cn (E : Int → Int → Prop) : Int → Int → Prop
 | refl (a : Int) : Cn E a a
 | step {a b c : Int} (h : E a b ∨ E b a) (r : Cn E b c) : Cn E a c
theorem Cn.trans {E : Int → Int → Prop} {a b c : Int} (h : Cn E a b) (k : Cn E b c) : Cn E a c := by
 induction h with
 | refl _ => exact k
 | step h _ ih => exact .step h (ih k)
theorem Cn.one {E : Int → Int → Prop} {a b : Int} (h : E a b) : Cn E a b := .step (.inl h) (.refl b)
theorem Cn.symm {E : Int → Int → Prop} {a b : Int} (h : Cn E a b) : Cn E b a := by
 induction h with
 | refl _ => exact .refl _
 | step h _ ih => exact ih.trans (.step h.symm (.refl _))
theorem Cn.mono {E E' : Int → Int → Prop} (h : ∀ a b, E a b → Cn E' a b) {a b : Int} (hc : Cn E a b) : Cn E' a b := by
 induction hc with
 | refl _ => exact .refl _
 | step e _ ih =>
  rcases e with e | e
  ·exact (h _ _ e).trans ih
  ·exact (h _ _ e).symm.trans ih
theorem Cn.iso {E : Int → Int → Prop} {a b : Int} (h : ∀ b, ¬ E a b ∧ ¬ E b a) (hc : Cn E a b) : a = b := by
 cases hc with
 | refl _ => rfl
 | step e _ =>
  rcases e with e | e
  ·exact absurd e (h _).1
  ·exact absurd e (h _).2
theorem Cn.add {E E' : Int → Int → Prop} {x y : Int} (h : ∀ a b, E' a b ↔ E a b ∨ (a = x ∧ b = y)) (a b : Int) : Cn E' a b ↔ Cn E a b ∨ (Cn E a x ∧ Cn E y b) ∨ (Cn E a y ∧ Cn E x b) := by
 have hxy : Cn E' x y := .one ((h x y).2 (.inr ⟨rfl, rfl⟩))
 have hm : ∀ {a b : Int}, Cn E a b → Cn E' a b := fun hc => hc.mono fun a b e => .one ((h a b).2 (.inl e))
 constructor
 ·intro hc
  induction hc with
  | refl _ => exact .inl (.refl _)
  | step e _ ih =>
   have key : ∀ {p q r : Int}, Cn E p q → (Cn E q r ∨ (Cn E q x ∧ Cn E y r) ∨ (Cn E q y ∧ Cn E x r)) → Cn E p r ∨ (Cn E p x ∧ Cn E y r) ∨ (Cn E p y ∧ Cn E x r) := by
    rintro p q r h1 (h2 | ⟨h2, h3⟩ | ⟨h2, h3⟩)
    ·exact .inl (h1.trans h2)
    ·exact .inr (.inl ⟨h1.trans h2, h3⟩)
    ·exact .inr (.inr ⟨h1.trans h2, h3⟩)
   rcases e with e | e
   ·rcases (h _ _).1 e with e | ⟨rfl, rfl⟩
    ·exact key (.one e) ih
    ·rcases ih with h2 | ⟨_, h3⟩ | ⟨_, h3⟩
     ·exact .inr (.inl ⟨.refl _, h2⟩)
     ·exact .inr (.inl ⟨.refl _, h3⟩)
     ·exact .inl h3
   ·rcases (h _ _).1 e with e | ⟨rfl, rfl⟩
    ·exact key (Cn.one e).symm ih
    ·rcases ih with h2 | ⟨_, h3⟩ | ⟨_, h3⟩
     ·exact .inr (.inr ⟨.refl _, h2⟩)
     ·exact .inl h3
     ·exact .inr (.inr ⟨.refl _, h3⟩)
 ·rintro (h1 | ⟨h1, h2⟩ | ⟨h1, h2⟩)
  ·exact hm h1
  ·exact (hm h1).trans (hxy.trans (hm h2))
  ·exact (hm h1).trans (hxy.symm.trans (hm h2))
def linked (ml : List (Int × List Int)) (a b : Int) : Prop := ∃ p ∈ ml, p.2.head? = some a ∧ b ∈ p.2
def RZ (e : En) (z : Int × Int) : Prop := e.id = z.1 ∧ e.sum = z.2
def RM (e : En) (p : Int × List Int) : Prop := e.id = p.1 ∧ e.many = p.2.length ∧ p.2.head? = some (e.fst : Int)
theorem wr_id {x : Int} (h : -9223372036854775808 ≤ x ∧ x < 9223372036854775808) : wr x = x := IntWalk.i64_in _ oM
theorem bump_z {i : Nat} {c p : Int} : ∀ {es : List En} {zl : List (Int × Int)}, All2 RZ es zl → (∀ e ∈ es, wr (e.sum + p) = e.sum + p) → wr (0 + p) = p → All2 RZ (bump i c p es) (addZ zl c p)
 | [], [], _, _, hp => ⟨⟨rfl, hp⟩, trivial⟩
 | e :: es, (a, z) :: zl, h, hb, hp => by
  obtain ⟨⟨h1, h2⟩, h3⟩ := h
  have h1 : e.id = a := h1
  have h2 : e.sum = z := h2
  simp only [bump, addZ]
  by_cases hc : e.id = c
  ·rw [if_pos hc, if_pos (by rw [← h1, hc])]
   exact ⟨⟨h1, by show wr (e.sum + p) = z + p; rw [hb e (by simp), h2]⟩, h3⟩
  ·rw [if_neg hc, if_neg (by rw [← h1]; exact fun e => hc e.symm)]
   exact ⟨⟨h1, h2⟩, bump_z h3 (fun x hx => hb x (by simp [hx])) hp⟩
 | [], _ :: _, h, _, _ => h.elim
 | _ :: _, [], h, _, _ => h.elim
theorem bump_m {i : Nat} {c p : Int} : ∀ {es : List En} {ml : List (Int × List Int)}, All2 RM es ml → (∀ e ∈ es, wr (e.many + 1) = e.many + 1) → All2 RM (bump i c p es) (addL ml c i) ∧
  ∀ a b, linked (addL ml c i) a b ↔ linked ml a b ∨ (a = fstOf i c es ∧ b = i)
 | [], [], _, _ => by
  refine ⟨⟨⟨rfl, by rfl, rfl⟩, trivial⟩, fun a b => ?_⟩
  constructor
  ·rintro ⟨q, hq, h1, h2⟩
   simp [addL] at hq
   subst hq
   simp at h1 h2
   exact .inr ⟨h1.symm, h2⟩
  ·rintro (⟨q, hq, _⟩ | ⟨rfl, rfl⟩)
   ·simp at hq
   ·exact ⟨(c, [(i : Int)]), by simp [addL], rfl, by simp⟩
 | e :: es, (k, l) :: ml, h, hb => by
  obtain ⟨⟨h1, h2, h4⟩, h3⟩ := h
  have h1 : e.id = k := h1
  have h2 : e.many = l.length := h2
  have h4 : l.head? = some (e.fst : Int) := h4
  simp only [bump, addL, fstOf]
  by_cases hc : e.id = c
  ·rw [if_pos hc, if_pos (by rw [← h1, hc]), if_pos hc]
   have hh : (l ++ [(i : Int)]).head? = some (e.fst : Int) := by
    cases l with
    | nil => simp at h4
    | cons x r => simpa using h4
   refine ⟨⟨⟨h1, by show wr (e.many + 1) = _; rw [hb e (by simp), h2]; simp, hh⟩, h3⟩, fun a b => ?_⟩
   constructor
   ·rintro ⟨q, hq, h5, h6⟩
    rcases List.mem_cons.1 hq with rfl | hq
    ·dsimp only at h5 h6
     rw [hh] at h5
     rcases List.mem_append.1 h6 with h6 | h6
     ·exact .inl ⟨(k, l), by simp, by rw [h4, h5], h6⟩
     ·simp at h6
      injection h5 with h5
      exact .inr ⟨h5.symm, h6⟩
    ·exact .inl ⟨q, by simp [hq], h5, h6⟩
   ·rintro (⟨q, hq, h5, h6⟩ | ⟨rfl, rfl⟩)
    ·rcases List.mem_cons.1 hq with rfl | hq
     ·exact ⟨(k, l ++ [(i : Int)]), by simp, by rw [hh, ← h4, h5], by simp [h6]⟩
     ·exact ⟨q, by simp [hq], h5, h6⟩
    ·exact ⟨(k, l ++ [(i : Int)]), by simp, hh, by simp⟩
  ·rw [if_neg hc, if_neg (by rw [← h1]; exact fun e => hc e.symm), if_neg hc]
   obtain ⟨i1, i2⟩ := bump_m (i := i) (c := c) (p := p) h3 fun x hx => hb x (by simp [hx])
   refine ⟨⟨⟨h1, h2, h4⟩, i1⟩, fun a b => ?_⟩
   have e1 : ∀ L, linked ((k, l) :: L) a b ↔ (l.head? = some a ∧ b ∈ l) ∨ linked L a b := fun L => by
    unfold linked
    simp
   rw [e1, e1, i2, or_assoc]
 | [], _ :: _, h, _ => h.elim
 | _ :: _, [], h, _ => h.elim
structure Sd (n t k : Nat) (es : List En) (part : List Int) (zl : List (Int × Int)) (ml : List (Int × List Int)) : Prop where
 z : All2 RZ es zl
 m : All2 RM es ml
 bz : ∀ e ∈ es, -(t : Int) ≤ e.sum ∧ e.sum ≤ t ∧ 0 ≤ e.many ∧ e.many ≤ t
 bf : ∀ e ∈ es, e.fst < k
 bm : ∀ p ∈ ml, ∀ x ∈ p.2, 0 ≤ x ∧ x < k
 len : part.length = n
 bp : ∀ a, a < k → 0 ≤ part.getD a 0 ∧ part.getD a 0 < k
 cn : ∀ a b : Nat, a < k → b < k → (part.getD a 0 = part.getD b 0 ↔ Cn (linked ml) a b)
theorem linked_in {ml : List (Int × List Int)} {k : Nat} (h : ∀ p ∈ ml, ∀ x ∈ p.2, 0 ≤ x ∧ x < (k : Int)) {a b : Int} (hl : linked ml a b) : (0 ≤ a ∧ a < k) ∧ (0 ≤ b ∧ b < k) := by
 obtain ⟨p, hp, h1, h2⟩ := hl
 exact ⟨h p hp a (List.mem_of_head? h1), h p hp b h2⟩
theorem Sd.open {n t k : Nat} {es : List En} {part : List Int} {zl : List (Int × Int)} {ml : List (Int × List Int)} (h : Sd n t k es part zl ml) (hk : k < n) : Sd n t (k + 1) es (part.set k k) zl ml := by
 have hl := h.len
 have g1 : (part.set k (k : Int)).getD k 0 = k := by rw [List.getD_eq_getElem?_getD, List.getElem?_set]; simp [hl, hk]
 have g2 : ∀ a, a ≠ k → (part.set k (k : Int)).getD a 0 = part.getD a 0 := fun a ha => by
  rw [List.getD_eq_getElem?_getD, List.getD_eq_getElem?_getD, List.getElem?_set, if_neg fun e => ha e.symm]
 have iso : ∀ b, ¬ linked ml k b ∧ ¬ linked ml b k := fun b => ⟨fun e => by have := linked_in h.bm e; omega, fun e => by have := linked_in h.bm e; omega⟩
 refine ⟨h.z, h.m, h.bz, fun e he => by have := h.bf e he; omega, fun p hp x hx => by have := h.bm p hp x hx; omega, by simp [hl], fun a ha => ?_, fun a b ha hb => ?_⟩
 ·by_cases e : a = k
  ·subst e; rw [g1]; omega
  ·rw [g2 a e]; have := h.bp a oM; omega
 ·by_cases e : a = k <;> by_cases e2 : b = k
  ·subst e; subst e2; exact ⟨fun _ => .refl _, fun _ => rfl⟩
  ·subst e
   rw [g1, g2 b e2]
   have := h.bp b oM
   exact ⟨fun h => by omega, fun hc => by have := hc.iso iso; omega⟩
  ·subst e2
   rw [g1, g2 a e]
   have := h.bp a oM
   exact ⟨fun h => by omega, fun hc => by have := hc.symm.iso iso; omega⟩
  ·rw [g2 a e, g2 b e2]
   exact h.cn a b oM oM
theorem relabT_getD {m : Nat} {old now : Int} {p : List Int} {a : Nat} (h : a < p.length) (hm : a < m) : (relabT m old now p).getD a 0 = if p.getD a 0 = now then old else p.getD a 0 := by
 rw [List.getD_eq_getElem?_getD, List.getD_eq_getElem?_getD]
 simp only [relabT, List.getElem?_mapIdx, List.getElem?_eq_getElem h, Option.map_some, Option.getD_some, hm, true_and]
theorem fstOf_lt {i : Nat} {c : Int} {es : List En} (h : ∀ e ∈ es, e.fst < i + 1) : fstOf i c es < i + 1 := by
 induction es with
 | nil => exact Nat.lt_succ_self i
 | cons e r ih =>
  unfold fstOf
  split
  ·exact h e (by simp)
  ·exact ih fun x hx => h x (by simp [hx])
theorem bump_all {P : En → Prop} {i : Nat} {c p : Int} (hn : P (En.up ⟨c, 0, 0, i⟩ p)) (hu : ∀ e, P e → P (e.up p)) (ho : ∀ e, P e → P e) : ∀ {es : List En}, (∀ e ∈ es, P e) → ∀ e ∈ bump i c p es, P e
 | [], _, e, he => by simp [bump] at he; subst he; exact hn
 | x :: r, h, e, he => by
  unfold bump at he
  split at he
  ·rcases List.mem_cons.1 he with rfl | he
   ·exact hu x (h x (by simp))
   ·exact h e (by simp [he])
  ·rcases List.mem_cons.1 he with rfl | he
   ·exact h e (by simp)
   ·exact bump_all hn hu ho (fun y hy => h y (by simp [hy])) e he
theorem addL_all {P : Int → Prop} {c : Int} {i : Int} (hi : P i) : ∀ {ml : List (Int × List Int)}, (∀ p ∈ ml, ∀ x ∈ p.2, P x) → ∀ p ∈ addL ml c i, ∀ x ∈ p.2, P x
 | [], _, p, hp, x, hx => by simp [addL] at hp; subst hp; simp at hx; subst hx; exact hi
 | (k, l) :: r, h, p, hp, x, hx => by
  unfold addL at hp
  split at hp
  ·rcases List.mem_cons.1 hp with rfl | hp
   ·rcases List.mem_append.1 hx with hx | hx
    ·exact h (k, l) (by simp) x hx
    ·simp at hx; subst hx; exact hi
   ·exact h p (by simp [hp]) x hx
  ·rcases List.mem_cons.1 hp with rfl | hp
   ·exact h (k, l) (by simp) x hx
   ·exact addL_all hi (fun q hq => h q (by simp [hq])) p hp x hx
theorem Sd.next {n t i : Nat} {es : List En} {part : List Int} {zl : List (Int × Int)} {ml : List (Int × List Int)} {x r : Side} (h : Sd n t (i + 1) es part zl ml) (hi : i < n) (ht : t < 1000000) (hx : x.sign = 1 ∨ x.sign = -1) (hr : r.sign = 1 ∨ r.sign = -1) :
  Sd n (t + 1) (i + 1) (stepR i x.sign (es, part) r).1 (stepR i x.sign (es, part) r).2 (stepZ x zl r) (stepL i ml r) := by
 have hp := sign_mul hx hr
 have hw : wr (x.sign * r.sign) = x.sign * r.sign := wr_id oM
 unfold stepR stepZ stepL
 dsimp only
 rw [hw]
 generalize x.sign * r.sign = p at *
 have hl := h.len
 have hbm := bump_m (i := i) (c := r.cell) (p := p) h.m fun e he => by have := h.bz e he; exact wr_id oM
 have hf := fstOf_lt (c := r.cell) h.bf
 refine ⟨bump_z h.z (fun e he => by have := h.bz e he; exact wr_id oM) (by rw [Int.zero_add]; exact wr_id oM), hbm.1, ?_, ?_, ?_, by rw [relabT_length]; exact hl, fun a ha => ?_, fun a b ha hb => ?_⟩
 ·have : ∀ e ∈ bump i r.cell p es, (-(t : Int) ≤ e.sum ∧ e.sum ≤ t ∧ 0 ≤ e.many ∧ e.many ≤ t) ∨ (-((t + 1 : Nat) : Int) ≤ e.sum ∧ e.sum ≤ ((t + 1 : Nat) : Int) ∧ 0 ≤ e.many ∧ e.many ≤ ((t + 1 : Nat) : Int)) := by
   have h0 := h.bz
   clear h hbm hf hl
   generalize hes : bump i r.cell p es = fs
   intro e he
   subst hes
   induction es with
   | nil =>
    simp [bump] at he
    subst he
    right
    simp only [En.up]
    rw [wr_id oM, wr_id oM]
    omega
   | cons y q ih =>
    unfold bump at he
    split at he
    ·rcases List.mem_cons.1 he with rfl | he
     ·right
      have := h0 y (by simp)
      simp only [En.up]
      rw [wr_id oM, wr_id oM]
      omega
     ·exact .inl (h0 e (by simp [he]))
    ·rcases List.mem_cons.1 he with rfl | he
     ·exact .inl (h0 e (by simp))
     ·exact ih (fun z hz => h0 z (by simp [hz])) he
  intro e he
  rcases this e he with h1 | h1 <;> omega
 ·exact bump_all (P := fun e => e.fst < i + 1) (Nat.lt_succ_self i) (fun e he => he) (fun e he => he) h.bf
 ·exact addL_all (P := fun x => 0 ≤ x ∧ x < ((i + 1 : Nat) : Int)) oM h.bm
 ·rw [relabT_getD oM ha]
  split
  ·exact h.bp _ hf
  ·exact h.bp a ha
 ·rw [relabT_getD oM ha, relabT_getD oM hb, Cn.add (x := (fstOf i r.cell es : Int)) (y := (i : Int)) hbm.2 a b]
  rw [← h.cn a b ha hb, ← h.cn a _ ha hf, ← h.cn i b oM hb, ← h.cn a i ha oM, ← h.cn _ b hf hb]
  generalize part.getD a 0 = pa
  generalize part.getD b 0 = pb
  generalize part.getD i 0 = pi
  generalize part.getD (fstOf i r.cell es) 0 = pf
  by_cases h1 : pa = pi <;> by_cases h2 : pb = pi <;> simp [h1, h2] <;> omega
theorem Sd.inner {n i : Nat} {x : Side} (hi : i < n) (hx : x.sign = 1 ∨ x.sign = -1) : ∀ (l : List Side) {t : Nat} {es : List En} {part : List Int} {zl : List (Int × Int)} {ml : List (Int × List Int)}, Sd n t (i + 1) es part zl ml → t + l.length < 1000000 → (∀ r ∈ l, r.sign = 1 ∨ r.sign = -1) →
  Sd n (t + l.length) (i + 1) (l.foldl (stepR i x.sign) (es, part)).1 (l.foldl (stepR i x.sign) (es, part)).2 (l.foldl (stepZ x) zl) (l.foldl (stepL i) ml)
 | [], _, _, _, _, _, h, _, _ => h
 | r :: l, t, es, part, zl, ml, h, ht, hr => by
  simp only [List.length_cons] at ht
  have h1 := h.next (x := x) (r := r) hi oM hx (hr r (by simp))
  have := Sd.inner hi hx l h1 oM (fun q hq => hr q (by simp [hq]))
  simp only [List.foldl_cons, List.length_cons]
  rw [show t + (l.length + 1) = t + 1 + l.length by omega]
  exact this
theorem Sd.outer {tl : List Cl} {n : Nat} : ∀ (l : List Side) {t k : Nat} {es : List En} {part : List Int} {zl : List (Int × Int)} {ml : List (Int × List Int)}, Sd n t k es part zl ml → k + l.length ≤ n → t + 64 * l.length < 1000000 → (∀ x ∈ l, x.sign = 1 ∨ x.sign = -1) → (∀ x ∈ l, (sidesOf tl x).length ≤ 64 ∧ ∀ r ∈ sidesOf tl x, r.sign = 1 ∨ r.sign = -1) →
  ∃ t', Sd n t' (k + l.length) ((l.zipIdx k).foldl (stepS tl) (es, part)).1 ((l.zipIdx k).foldl (stepS tl) (es, part)).2 (l.foldl (fun zl x => (sidesOf tl x).foldl (stepZ x) zl) zl) ((l.zipIdx k).foldl (fun ml p => (sidesOf tl p.1).foldl (stepL p.2) ml) ml)
 | [], t, _, _, _, _, _, h, _, _, _, _ => ⟨t, h⟩
 | x :: l, t, k, es, part, zl, ml, h, hk, ht, hs, hq => by
  simp only [List.length_cons] at hk ht
  have h0 := hq x (by simp)
  have h1 := (h.open oM).inner (x := x) oM (hs x (by simp)) (sidesOf tl x) oM h0.2
  obtain ⟨t', h2⟩ := Sd.outer l h1 oM oM (fun y hy => hs y (by simp [hy])) (fun y hy => hq y (by simp [hy]))
  refine ⟨t', ?_⟩
  simp only [List.zipIdx_cons, List.foldl_cons, List.length_cons]
  rw [show k + (l.length + 1) = k + 1 + l.length by omega]
  exact h2
theorem all2_anyR {α β : Type} {R : α → β → Prop} {p : α → Bool} {q : β → Bool} (h : ∀ a b, R a b → p a = q b) : ∀ {l : List α} {m : List β}, All2 R l m → l.any p = m.any q
 | [], [], _ => rfl
 | a :: l, b :: m, hr => by simp only [List.any_cons, h a b hr.1, all2_anyR h hr.2]
 | [], _ :: _, hr => hr.elim
 | _ :: _, [], hr => hr.elim
theorem rch_cn {ml : List (Int × List Int)} (h2 : ∀ p ∈ ml, p.2.length = 2) (a b : Int) : Rch (adjJ (joinC ml)) a b ↔ Cn (linked ml) a b := by
 have hstep : ∀ x y, y ∈ getL (joinC ml) x → Cn (linked ml) x y := fun x y hy => by
  obtain ⟨p, hp, h⟩ := (mem_join ml x y).1 hy
  rcases h with h | h
  ·exact .one ⟨p, hp, by rw [h]; rfl, by rw [h]; simp⟩
  ·exact (Cn.one (E := linked ml) ⟨p, hp, by rw [h]; rfl, by rw [h]; simp⟩).symm
 have hadj : ∀ x, adjJ (joinC ml) x ≠ none := fun x => by simp [adjJ]
 constructor
 ·intro h
  induction h with
  | refl _ _ => exact .refl _
  | step x y _ l hl hy _ ih =>
   simp only [adjJ, Option.some.injEq] at hl
   subst hl
   exact (hstep x y hy).trans ih
 ·intro h
  induction h with
  | refl a => exact .refl a (hadj a)
  | @step x y z e _ ih =>
   have key : ∀ u v, linked ml u v → v = u ∨ v ∈ getL (joinC ml) u := fun u v ⟨p, hp, h3, h4⟩ => by
    have := h2 p hp
    match hq : p.2, this with
    | [c, d], _ =>
     rw [hq] at h3 h4
     simp at h3 h4
     subst h3
     rcases h4 with h4 | h4
     ·exact .inl h4
     ·exact .inr ((mem_join ml c v).2 ⟨p, hp, .inl (by rw [hq, h4])⟩)
   rcases e with e | e
   ·rcases key x y e with rfl | h5
    ·exact ih
    ·exact .step x y z _ rfl h5 ih
   ·rcases key y x e with rfl | h5
    ·exact ih
    ·refine .step x y z _ rfl ?_ ih
     obtain ⟨p, hp, h6⟩ := (mem_join ml y x).1 h5
     exact (mem_join ml x y).2 ⟨p, hp, h6.symm⟩
theorem nodup_nat {l : List Int} (hn : l.Nodup) (hb : ∀ x ∈ l, 0 ≤ x) : (l.map Int.toNat).Nodup := by
 rw [List.Nodup, List.pairwise_map]
 refine List.Pairwise.imp_of_mem ?_ hn
 intro a b ha hb' hne e
 have := hb a ha
 have := hb b hb'
 omega
theorem nodup_leI {l : List Int} {n : Nat} (hn : l.Nodup) (hb : ∀ x ∈ l, 0 ≤ x ∧ x < (n : Int)) : l.length ≤ n := by
 have h1 := nodup_nat hn fun x hx => (hb x hx).1
 have := length_le_of_nodup (l := List.range n) h1 List.nodup_range fun x hx => by
  obtain ⟨y, hy, rfl⟩ := List.mem_map.1 hx
  have := hb y hy
  exact List.mem_range.2 oM
 simpa using this
theorem second_around {tl : List Cl} {c : Cl} (hok : AOk tl c) (h0 : 0 < c.sides.length) : secondC tl c = aroundC tl c := by
 obtain ⟨h64, hs, hq⟩ := hok
 have start : Sd c.sides.length 0 0 [] (List.replicate c.sides.length 0) [] [] := ⟨trivial, trivial, by simp, by simp, by simp, by simp, by simp, fun a b ha => by omega⟩
 obtain ⟨t, hd⟩ := start.outer c.sides (tl := tl) oM oM hs hq
 have e1 : ((c.sides.zipIdx 0).foldl (stepS tl) ([], List.replicate c.sides.length 0)) = secSt tl c.sides c.sides.length := rfl
 rw [e1] at hd
 have hz : All2 RZ (secSt tl c.sides c.sides.length).1 (sumsC tl c.sides) := hd.z
 have hm : All2 RM (secSt tl c.sides c.sides.length).1 (metC tl c.sides) := hd.m
 unfold secondC aroundC
 rw [all2_anyR (p := fun e => decide (e.sum ≠ 0)) (q := fun p : Int × Int => decide (p.2 ≠ 0)) (fun a b h => by rw [h.2]) hz]
 rw [all2_anyR (p := fun e => decide (e.many ≠ 2)) (q := fun p : Int × List Int => decide ((p.2.length : Int) ≠ 2)) (fun a b h => by rw [h.2.1]) hm]
 split
 ·rfl
 ·split
  ·rfl
  ·rename_i hno
   have h2 : ∀ p ∈ metC tl c.sides, p.2.length = 2 := fun p hp => by
    have := List.any_eq_false.1 ((Bool.not_eq_true _).mp hno) p hp
    simp at this
    omega
   have hbm : ∀ p ∈ metC tl c.sides, ∀ x ∈ p.2, 0 ≤ x ∧ x < ((0 + c.sides.length : Nat) : Int) := hd.bm
   rw [Nat.zero_add] at hbm
   have hcn : ∀ a b : Nat, a < c.sides.length → b < c.sides.length → ((secSt tl c.sides c.sides.length).2.getD a 0 = (secSt tl c.sides c.sides.length).2.getD b 0 ↔ Rch (adjJ (joinC (metC tl c.sides))) a b) := fun a b ha hb => by
    rw [rch_cn h2]
    exact hd.cn a b oM oM
   have hln := hd.len
   have hmem : ∀ x : Int, x ∈ seenC (joinC (metC tl c.sides)) ↔ Rch (adjJ (joinC (metC tl c.sides))) 0 x := fun x => mem_dfs (cnt := cntK (joinC (metC tl c.sides))) (fun v v' h => cntK_mono h) (cntK_strict _) (Nat.lt_succ_of_le (List.length_filter_le _ _)) (by simp [adjJ]) x
   have hnd : (seenC (joinC (metC tl c.sides))).Nodup := dfs_nodup _ _ _ _ (by simp)
   have hin : ∀ x ∈ seenC (joinC (metC tl c.sides)), 0 ≤ x ∧ x < (c.sides.length : Int) := fun x hx => by
    have hr := (rch_cn h2 0 x).1 ((hmem x).1 hx)
    have : ∀ a b, Cn (linked (metC tl c.sides)) a b → (0 ≤ a ∧ a < (c.sides.length : Int)) → (0 ≤ b ∧ b < (c.sides.length : Int)) := by
     intro a b h
     induction h with
     | refl _ => exact fun h => h
     | step e _ ih =>
      intro _
      rcases e with e | e
      ·exact ih (linked_in hbm e).2
      ·exact ih (linked_in hbm e).1
    exact this 0 x hr oM
   generalize (secSt tl c.sides c.sides.length).2 = part at *
   generalize seenC (joinC (metC tl c.sides)) = seen at *
   by_cases hall : ∀ a, a < c.sides.length → part.getD a 0 = part.getD 0 0
   ·have hf : part.any (fun x => decide (x ≠ part.getD 0 0)) = false := by
     rw [List.any_eq_false]
     intro x hx
     obtain ⟨i, hi, rfl⟩ := List.getElem_of_mem hx
     have := hall i oM
     rw [List.getD_eq_getElem?_getD, List.getElem?_eq_getElem hi] at this
     simpa using this
    have hlen : seen.length = c.sides.length := by
     refine Nat.le_antisymm (nodup_leI hnd hin) ?_
     have h3 := length_le_of_nodup (m := List.range c.sides.length) (l := seen.map Int.toNat) List.nodup_range (nodup_nat hnd fun x hx => (hin x hx).1) fun i hi => by
      have hi := List.mem_range.1 hi
      exact List.mem_map.2 ⟨(i : Int), (hmem i).2 ((hcn 0 i h0 hi).1 (hall i hi).symm), by simp⟩
     simpa using h3
    rw [hf, hlen]
    simp
   ·have ht : part.any (fun x => decide (x ≠ part.getD 0 0)) = true := by
     simp only [Classical.not_forall] at hall
     obtain ⟨a, ha, hne⟩ := hall
     rw [List.any_eq_true]
     refine ⟨part.getD a 0, ?_, by simpa using hne⟩
     rw [List.getD_eq_getElem?_getD, List.getElem?_eq_getElem oM]
     exact List.getElem_mem _
    have hlen : (seen.length : Int) ≠ c.sides.length := by
     simp only [Classical.not_forall] at hall
     obtain ⟨a, ha, hne⟩ := hall
     have hna : (a : Int) ∉ seen := fun h => hne ((hcn 0 a h0 ha).2 ((hmem a).1 h)).symm
     have := nodup_leI (l := (a : Int) :: seen) (n := c.sides.length) (List.nodup_cons.2 ⟨hna, hnd⟩) fun x hx => by
      rcases List.mem_cons.1 hx with rfl | hx
      ·omega
      ·exact hin x hx
     simp at this
     omega
    rw [ht, if_pos rfl, if_pos hlen]
theorem chk1_none_form {tl : List Cl} : ∀ {l : List Cl} {n : Int}, chk1 tl l n = none → l.Pairwise (fun a b => a.id < b.id) ∧ (∀ x ∈ l, n < x.id) ∧ ∀ x ∈ l, formC tl x = 0
 | [], _, _ => ⟨List.Pairwise.nil, by simp, by simp⟩
 | x :: r, n, h => by
  unfold chk1 at h
  split at h
  ·cases h
  ·rename_i hid
   split at h
   ·cases h
   ·rename_i hf
    obtain ⟨h1, h2, h3⟩ := chk1_none_form h
    refine ⟨List.pairwise_cons.2 ⟨h2, h1⟩, fun y hy => ?_, fun y hy => ?_⟩
    ·rcases List.mem_cons.1 hy with rfl | hy
     ·omega
     ·have := h2 y hy; omega
    ·rcases List.mem_cons.1 hy with rfl | hy
     ·exact Decidable.of_not_not hf
     ·exact h3 y hy
theorem refCheckC_eq (l : List Cl) : refCheckC l = checkC l := by
 unfold refCheckC checkC
 split
 ·rfl
 ·cases h : chk1 (tabC l) (canonC l) 0 with
  | some p => rfl
  | none =>
   obtain ⟨h1, _, h3⟩ := chk1_none_form h
   have ht := tabC_strict h1
   have key : ∀ m : List Cl, (∀ x ∈ m, x ∈ canonC l) → chkR2 (canonC l) m = chk2 (tabC l) m := by
    intro m
    induction m with
    | nil => intro _; rfl
    | cons x r ih =>
     intro hm
     have hx := hm x (by simp)
     unfold chkR2 chk2
     rw [ih fun y hy => hm y (by simp [hy])]
     by_cases hd : x.dim > 1
     ·have hok := aok_of h3 hx
      have hn : 0 < x.sides.length := by
       have hf := h3 x hx
       unfold formC at hf
       split at hf
       ·cases hf
       ·split at hf
        ·cases hf
        ·rename_i hc
         simp [cntBad] at hc
         have := hc.2 hd
         omega
      rw [ht] at hok ⊢
      rw [second_around hok hn]
     ·simp [hd]
   rw [key _ fun x hx => hx]
set_option maxRecDepth 10000
theorem check_ne {l : List Cl} (h : (checkC l).2 = 0) : chk1 (tabC l) (canonC l) 0 = none := by
 unfold checkC at h
 split at h
 ·simp at h
 ·cases h1 : chk1 (tabC l) (canonC l) 0 with
  | none => rfl
  | some p => rw [h1] at h; exact absurd h (chk1_ne h1)
theorem prod_ref (a b : List Cl) : refProdC a b = prodC a b := by
 have hb : refProdBad a b = prodBad a b := by
  unfold refProdBad prodBad
  rw [refCheckC_eq, refCheckC_eq]
  by_cases h1 : (checkC a).2 = 0
  ·by_cases h2 : (checkC b).2 = 0
   ·rw [tabC_strict (chk1_none_form (check_ne h1)).1, tabC_strict (chk1_none_form (check_ne h2)).1, canonC_length, canonC_length]
   ·simp [h2]
  ·simp [h1]
 unfold refProdC prodC
 rw [hb, refCheckC_eq]
def two (k q : Nat) : Nat := 100 + if q < k then q * 16 + k else k * 16 + (q + 1)
def cd (A B : Nat) : Int := ((A * 1000 + B : Nat) : Int)
def rg (n : Nat) : List Nat := if n ≤ 1 then [] else (List.range n).reverse
def patL (n m k : Nat) : List Side := ((rg (n - 1)).map fun q => ⟨cd (two k q) 0, signC q⟩) ++ (rg m).map fun j => ⟨cd (1 + k) (1 + j), signC ((n : Int) - 2) * signC j⟩
def patR (n m j : Nat) : List Side := ((rg n).map fun k => ⟨cd (1 + k) (1 + j), signC k⟩) ++ (rg (m - 1)).map fun q => ⟨cd 0 (two j q), signC ((n : Int) - 1) * signC q⟩
def patP (n m : Nat) : List (Int × List Side) := ((rg n).map fun k : Nat => (signC k, patL n m k)) ++ (rg m).map fun j : Nat => (signC ((n : Int) - 1) * signC j, patR n m j)
theorem patP_ok : ∀ n, n < 4 → 0 < n → ∀ m, m < 4 → 0 < m → 3 < n + m → aroundL (patP n m) = 0 := by decide +kernel
def er (s : List Int) (A : Nat) : List Int := if A = 0 then s else if A < 100 then s.eraseIdx (A - 1) else (s.eraseIdx ((A - 100) % 16)).eraseIdx ((A - 100) / 16)
def Num (n A : Nat) : Prop := A = 0 ∨ (2 ≤ n ∧ ∃ k, k < n ∧ A = 1 + k) ∨ (3 ≤ n ∧ ∃ a b, a < b ∧ b < n ∧ A = 100 + (a * 16 + b))
theorem er_one {s : List Int} {k : Nat} (h : k < 90) : er s (1 + k) = s.eraseIdx k := by
 unfold er
 rw [if_neg oM, if_pos oM, show 1 + k - 1 = k by omega]
theorem er_two {s : List Int} {a b : Nat} (h : b < 16) : er s (100 + (a * 16 + b)) = (s.eraseIdx b).eraseIdx a := by
 unfold er
 rw [if_neg oM, if_neg oM, show (100 + (a * 16 + b) - 100) % 16 = b by omega, show (100 + (a * 16 + b) - 100) / 16 = a by omega]
theorem er_two_kq {s : List Int} {n k q : Nat} (hn : n ≤ 9) (hk : k < n) (hq : q < n - 1) : er s (two k q) = (s.eraseIdx k).eraseIdx q := by
 unfold two
 by_cases h : q < k
 ·rw [if_pos h, er_two oM]
 ·rw [if_neg h, er_two oM]
  exact (erase_comm s oM).symm
theorem num_two {n k q : Nat} (h3 : 3 ≤ n) (hk : k < n) (hq : q < n - 1) : Num n (two k q) := by
 unfold two
 by_cases h : q < k
 ·rw [if_pos h]; exact .inr (.inr ⟨h3, q, k, h, hk, rfl⟩)
 ·rw [if_neg h]; exact .inr (.inr ⟨h3, k, q + 1, oM, oM, rfl⟩)
theorem er_len {s : List Int} (h9 : s.length ≤ 9) {A : Nat} (h : Num s.length A) : (er s A).length = if A = 0 then s.length else if A < 100 then s.length - 1 else s.length - 2 := by
 rcases h with rfl | ⟨_, k, hk, rfl⟩ | ⟨_, a, b, hab, hb, rfl⟩
 ·rfl
 ·rw [er_one oM, List.length_eraseIdx, if_pos hk, if_neg oM, if_pos oM]
 ·rw [er_two oM, List.length_eraseIdx, List.length_eraseIdx, if_pos hb, if_pos oM, if_neg oM, if_neg oM]
  omega
theorem er_inj {s : List Int} (hs : StrictI s) (h9 : s.length ≤ 9) {A B : Nat} (hA : Num s.length A) (hB : Num s.length B) (h : er s A = er s B) : A = B := by
 have hl := congrArg List.length h
 rw [er_len h9 hA, er_len h9 hB] at hl
 have hnd : s.Nodup := hs.imp fun h => by omega
 rcases hA with rfl | ⟨h2, k, hk, rfl⟩ | ⟨h3, a, b, hab, hb, rfl⟩ <;> rcases hB with rfl | ⟨h2', k', hk', rfl⟩ | ⟨h3', c, d, hcd, hd, rfl⟩
 ·rfl
 ·rw [if_pos rfl, if_neg oM, if_pos oM] at hl; omega
 ·rw [if_pos rfl, if_neg oM, if_neg oM] at hl; omega
 ·rw [if_neg oM, if_pos oM, if_pos rfl] at hl; omega
 ·rw [er_one oM, er_one oM] at h
  rcases Nat.lt_trichotomy k k' with h1 | h1 | h1
  ·have := erase_lt hs h1 hk'
   rw [h, compareC_self] at this
   exact absurd this dC
  ·omega
  ·have := erase_lt hs h1 hk
   rw [h, compareC_self] at this
   exact absurd this dC
 ·rw [if_neg oM, if_pos oM, if_neg oM, if_neg oM] at hl; omega
 ·rw [if_neg oM, if_neg oM, if_pos rfl] at hl; omega
 ·rw [if_neg oM, if_neg oM, if_neg oM, if_pos oM] at hl; omega
 ·rw [er_two oM, er_two oM] at h
  obtain ⟨rfl, rfl⟩ := erase2_inj hnd hab hb hcd hd h
  rfl
theorem Good.er {all : List (List Int)} (hg : Good all) {s : List Int} (hs : s ∈ all) {A : Nat} (h : Num s.length A) : er s A ∈ all := by
 have h9 := (hg.form s hs).2.2
 rcases h with rfl | ⟨h2, k, hk, rfl⟩ | ⟨h3, a, b, hab, hb, rfl⟩
 ·exact hs
 ·rw [er_one oM]; exact (hg.face hs hk h2).1
 ·rw [er_two oM]
  have h1 := hg.face hs (k := b) hb oM
  exact (hg.face h1.1 (k := a) (by rw [h1.2]; omega) (by rw [h1.2]; omega)).1
theorem facesC_rg (all : List (List Int)) (s : List Int) : facesC all s = (rg s.length).map fun k : Nat => ⟨ixC all (s.eraseIdx k), signC k⟩ := by
 unfold facesC rg
 split <;> rfl
def pid (A B : List (List Int)) (s t : List Int) : Int := ((lbL A s * B.length + lbL B t : Nat) : Int) + 1
def pfaces (A B : List (List Int)) (s t : List Int) : List Side := ((rg s.length).map fun k : Nat => ⟨pid A B (s.eraseIdx k) t, signC k⟩) ++ (rg t.length).map fun j : Nat => ⟨pid A B s (t.eraseIdx j), signC ((s.length : Int) - 1) * signC j⟩
def pcel (A B : List (List Int)) (s t : List Int) : Cl := ⟨pid A B s t, (s.length : Int) - 1 + ((t.length : Int) - 1), pfaces A B s t⟩
theorem mem_rg {n k : Nat} (h : k ∈ rg n) : k < n ∧ 2 ≤ n := by
 unfold rg at h
 split at h
 ·simp at h
 ·exact ⟨by simpa using h, oM⟩
section
variable {A : List (List Int)} (hA : Good A)
include hA
theorem Good.canon : canonC (A.map (celC A)) = A.map (celC A) := by
 rw [← hA.cells, canonC_idem]
theorem Good.tab : tabC (A.map (celC A)) = A.map (celC A) := by
 have := hA.canon
 have hi := hA.ids
 rw [List.pairwise_map] at hi
 rw [tabC_strict (by rw [this]; exact hi), this]
theorem Good.lbI {s : List Int} (hs : s ∈ A) : lbI ((A.map (celC A)).map Cl.id) (ixC A s) = lbL A s := by
 have h1 := hA.get_lb hs
 obtain ⟨h2, h3⟩ := List.getElem?_eq_some_iff.1 h1
 have h4 : lbL A s < ((A.map (celC A)).map Cl.id).length := by simpa using h2
 have h5 : ((A.map (celC A)).map Cl.id)[lbL A s] = ixC A s := by simp [h3, celC]
 rw [← h5]
 exact lbI_self h4 hA.ids
end
theorem pair_inj {N i k i' k' : Nat} (hk : k < N) (hk' : k' < N) (h : i * N + k = i' * N + k') : i = i' ∧ k = k' := by
 have e : ∀ {i k : Nat}, k < N → (i * N + k) / N = i := fun {i k} hk => by rw [Nat.add_comm, Nat.add_mul_div_right _ _ oM, Nat.div_eq_of_lt hk, Nat.zero_add]
 have h1 := e (i := i) hk
 rw [h, e hk'] at h1
 subst h1
 exact ⟨rfl, oM⟩
theorem pair_lt {N i k i' k' : Nat} (hk : k < N) (h : i < i') : i * N + k < i' * N + k' := by
 have : (i + 1) * N ≤ i' * N := Nat.mul_le_mul_right N h
 rw [Nat.succ_mul] at this
 omega
theorem form_of {tl : List Cl} {c : Cl} (h1 : 0 ≤ c.dim ∧ c.dim ≤ 8) (h2 : cntBad c = false) (h3 : ∀ x ∈ c.sides, ∃ d, findT tl x.cell = some d ∧ d.dim = c.dim - 1) (h4 : c.sides.Pairwise fun a b => a.cell < b.cell) (h5 : ∀ x ∈ c.sides, x.sign = 1 ∨ x.sign = -1) (h6 : c.dim = 1 → sumS c.sides = 0) : formC tl c = 0 := by
 have e1 : dimBad c = false := by unfold dimBad; simp; omega
 have e3 : (List.range c.sides.length).any (badAt tl c) = false := by
  rw [List.any_eq_false]
  intro i hi
  have hi := List.mem_range.1 hi
  obtain ⟨d, hd1, hd2⟩ := h3 _ (List.getElem_mem hi)
  unfold badAt
  rw [List.getElem?_eq_getElem hi]
  show ¬ badSide _ _ i c.sides[i] = true
  unfold badSide
  rw [hd1]
  simp only [Option.isSome_some, Bool.not_true, Bool.false_or, Option.getD_some, hd2, ne_eq, not_true_eq_false, decide_false]
  by_cases hi0 : i > 0
  ·have hlt := List.pairwise_iff_getElem.1 h4 (i - 1) i oM hi oM
   rw [List.getElem?_eq_getElem oM]
   simp
   omega
  ·simp [hi0]
 have e4 : c.sides.any signBad = false := by
  rw [List.any_eq_false]
  intro x hx
  rcases h5 x hx with h | h <;> simp [signBad, h]
 have e5 : (decide (c.dim = 1) && decide (sumS c.sides ≠ 0)) = false := by
  by_cases hd : c.dim = 1
  ·rw [h6 hd]; simp
  ·simp [hd]
 unfold formC
 rw [e1, h2, e3, e4, e5]
 rfl
theorem rg_pair (n : Nat) : (rg n).Pairwise fun a b => b < a := by
 unfold rg
 split
 ·exact List.Pairwise.nil
 ·rw [List.pairwise_reverse]
  exact List.pairwise_lt_range
theorem rg_length (n : Nat) : (rg n).length = if n ≤ 1 then 0 else n := by
 unfold rg
 split <;> simp
section
variable {A B : List (List Int)} (hA : Good A) (hB : Good B)
include hA hB
omit hA in
theorem lb_lt {t : List Int} (ht : t ∈ B) : lbL B t < B.length := (List.getElem?_eq_some_iff.1 (hB.get_lb ht)).1
theorem pid_inj {s u t v : List Int} (hs : s ∈ A) (hu : u ∈ A) (ht : t ∈ B) (hv : v ∈ B) (h : pid A B s t = pid A B u v) : s = u ∧ t = v := by
 obtain ⟨h1, h2⟩ := pair_inj (lb_lt hB ht) (lb_lt hB hv) (show lbL A s * B.length + lbL B t = lbL A u * B.length + lbL B v by unfold pid at h; omega)
 exact ⟨hA.inj hs hu (by unfold ixC; omega), hB.inj ht hv (by unfold ixC; omega)⟩
theorem pid_ltA {s u t v : List Int} (hs : s ∈ A) (hu : u ∈ A) (ht : t ∈ B) (h : compareC s u < 0) : pid A B s t < pid A B u v := by
 have h1 := hA.lt hs hu h
 have h2 := pair_lt (k' := lbL B v) (lb_lt hB ht) (show lbL A s < lbL A u by unfold ixC at h1; omega)
 unfold pid
 omega
omit hA in
theorem pid_ltB {s t v : List Int} (ht : t ∈ B) (hv : v ∈ B) (h : compareC t v < 0) : pid A B s t < pid A B s v := by
 have h1 := hB.lt ht hv h
 unfold pid
 unfold ixC at h1
 omega
theorem prodAll_good : prodAll (A.map (celC A)) (B.map (celC B)) = A.flatMap fun s => B.map (pcel A B s) := by
 unfold prodAll
 rw [hA.canon, hB.canon, hA.tab, hB.tab, List.flatMap_map]
 rw [List.flatMap_def, List.flatMap_def]
 congr 1
 refine List.map_congr_left fun s hs => ?_
 rw [List.map_map]
 refine List.map_congr_left fun t ht => ?_
 have hid : ∀ {u v : List Int}, u ∈ A → v ∈ B → prodId (A.map (celC A)) (B.map (celC B)) (ixC A u) (ixC B v) = pid A B u v := fun {u v} hu hv => by
  unfold prodId pid
  rw [hA.lbI hu, hB.lbI hv, List.length_map]
  omega
 show prodCell _ _ (celC A s) (celC B t) = pcel A B s t
 unfold prodCell pcel pfaces
 congr 1
 ·exact hid hs ht
 ·show (facesC A s).map _ ++ (facesC B t).map _ = _
  rw [facesC_rg, facesC_rg, List.map_map, List.map_map]
  congr 1
  ·refine List.map_congr_left fun k hk => ?_
   have := mem_rg hk
   have hf := hA.face hs this.1 this.2
   show (⟨prodId _ _ (ixC A (s.eraseIdx k)) (ixC B t), signC k⟩ : Side) = _
   rw [hid hf.1 ht]
  ·refine List.map_congr_left fun k hk => ?_
   have := mem_rg hk
   have hf := hB.face ht this.1 this.2
   show (⟨prodId _ _ (ixC A s) (ixC B (t.eraseIdx k)), signC ((s.length : Int) - 1) * signC k⟩ : Side) = _
   rw [hid hs hf.1]
theorem pids : (A.flatMap fun s => B.map (pcel A B s)).Pairwise fun a b => a.id < b.id := by
 rw [List.pairwise_flatMap]
 refine ⟨fun s hs => ?_, List.Pairwise.imp_of_mem ?_ hA.strict⟩
 ·rw [List.pairwise_map]
  refine List.Pairwise.imp_of_mem ?_ hB.strict
  intro t v ht hv h
  exact pid_ltB hB ht hv h
 ·intro s u hs hu h x hx y hy
  obtain ⟨t, ht, rfl⟩ := List.mem_map.1 hx
  obtain ⟨v, hv, rfl⟩ := List.mem_map.1 hy
  exact pid_ltA hA hB hs hu ht h
theorem pfind {s t : List Int} (hs : s ∈ A) (ht : t ∈ B) : findT (A.flatMap fun s => B.map (pcel A B s)) (pid A B s t) = some (pcel A B s t) := by
 refine find_mem (x := pcel A B s t) ?_ (List.mem_flatMap.2 ⟨s, hs, List.mem_map.2 ⟨t, ht, rfl⟩⟩)
 rw [List.Nodup, List.pairwise_map]
 exact (pids hA hB).imp fun h => by omega
theorem psorted {s t : List Int} (hs : s ∈ A) (ht : t ∈ B) : (pfaces A B s t).Pairwise fun a b => a.cell < b.cell := by
 unfold pfaces
 rw [List.pairwise_append]
 refine ⟨?_, ?_, ?_⟩
 ·rw [List.pairwise_map]
  refine List.Pairwise.imp_of_mem ?_ (rg_pair s.length)
  intro i j hi hj hij
  have h1 := mem_rg hi
  have h2 := mem_rg hj
  exact pid_ltA hA hB (hA.face hs h1.1 h1.2).1 (hA.face hs h2.1 h2.2).1 ht (erase_lt (hA.form s hs).2.1 hij h1.1)
 ·rw [List.pairwise_map]
  refine List.Pairwise.imp_of_mem ?_ (rg_pair t.length)
  intro i j hi hj hij
  have h1 := mem_rg hi
  have h2 := mem_rg hj
  exact pid_ltB hB (hB.face ht h1.1 h1.2).1 (hB.face ht h2.1 h2.2).1 (erase_lt (hB.form t ht).2.1 hij h1.1)
 ·intro x hx y hy
  obtain ⟨k, hk, rfl⟩ := List.mem_map.1 hx
  obtain ⟨j, hj, rfl⟩ := List.mem_map.1 hy
  have h1 := mem_rg hk
  have hf := hA.face hs h1.1 h1.2
  refine pid_ltA hA hB hf.1 hs ht ?_
  have := compareC_len (a := s.eraseIdx k) (b := s) (by rw [hf.2]; omega)
  rw [hf.2] at this
  simpa using this.trans (decide_eq_true oM)
end
theorem sign_prod (a b : Int) : signC a * signC b = 1 ∨ signC a * signC b = -1 := sign_mul (signC_cases a) (signC_cases b)
def phiP (A B : List (List Int)) (s t : List Int) (c : Int) : Int := pid A B (er s (c / 1000).toNat) (er t (c % 1000).toNat)
theorem phiP_cd {A B : List (List Int)} {s t : List Int} {a b : Nat} (h : b < 1000) : phiP A B s t (cd a b) = pid A B (er s a) (er t b) := by
 unfold phiP cd
 rw [show (((a * 1000 + b : Nat) : Int) / 1000).toNat = a by omega, show (((a * 1000 + b : Nat) : Int) % 1000).toNat = b by omega]
theorem num_lt {n A : Nat} (h9 : n ≤ 9) (h : Num n A) : A < 1000 := by
 rcases h with rfl | ⟨_, k, hk, rfl⟩ | ⟨_, a, b, hab, hb, rfl⟩ <;> omega
theorem num_one {n k : Nat} (h2 : 2 ≤ n) (hk : k < n) : Num n (1 + k) := .inr (.inl ⟨h2, k, hk, rfl⟩)
theorem pat_key {n m : Nat} {x : Int} (hx : x ∈ keyL (patP n m)) : ∃ a b, Num n a ∧ Num m b ∧ x = cd a b := by
 obtain ⟨p, hp, hx⟩ := List.mem_flatMap.1 hx
 obtain ⟨r, hr, rfl⟩ := List.mem_map.1 hx
 rcases List.mem_append.1 hp with hp | hp
 ·obtain ⟨k, hk, rfl⟩ := List.mem_map.1 hp
  have h1 := mem_rg hk
  rcases List.mem_append.1 hr with hr | hr
  ·obtain ⟨q, hq, rfl⟩ := List.mem_map.1 hr
   have h2 := mem_rg hq
   exact ⟨_, 0, num_two oM h1.1 h2.1, .inl rfl, rfl⟩
  ·obtain ⟨j, hj, rfl⟩ := List.mem_map.1 hr
   have h2 := mem_rg hj
   exact ⟨_, _, num_one h1.2 h1.1, num_one h2.2 h2.1, rfl⟩
 ·obtain ⟨j, hj, rfl⟩ := List.mem_map.1 hp
  have h1 := mem_rg hj
  rcases List.mem_append.1 hr with hr | hr
  ·obtain ⟨k, hk, rfl⟩ := List.mem_map.1 hr
   have h2 := mem_rg hk
   exact ⟨_, _, num_one h2.2 h2.1, num_one h1.2 h1.1, rfl⟩
  ·obtain ⟨q, hq, rfl⟩ := List.mem_map.1 hr
   have h2 := mem_rg hq
   exact ⟨0, _, .inl rfl, num_two oM h1.1 h2.1, rfl⟩
section
variable {A B : List (List Int)} (hA : Good A) (hB : Good B)
include hA hB
theorem plook {s t : List Int} (hs : s ∈ A) (ht : t ∈ B) : lookL (A.flatMap fun s => B.map (pcel A B s)) (pcel A B s t) = renL (phiP A B s t) (patP s.length t.length) := by
 have h9 := (hA.form s hs).2.2
 have k9 := (hB.form t ht).2.2
 unfold lookL renL patP
 show (pfaces A B s t).map _ = _
 unfold pfaces
 rw [List.map_append, List.map_append, List.map_map, List.map_map, List.map_map, List.map_map]
 congr 1
 ·refine List.map_congr_left fun k hk => ?_
  have h1 := mem_rg hk
  have hf := hA.face hs h1.1 h1.2
  simp only [Function.comp_def]
  congr 1
  unfold sidesOf
  rw [pfind hA hB hf.1 ht]
  show pfaces A B (s.eraseIdx k) t = _
  unfold pfaces patL
  rw [List.map_append, List.map_map, List.map_map, hf.2]
  congr 1
  ·refine List.map_congr_left fun q hq => ?_
   have h2 := mem_rg hq
   simp only [Function.comp_def, renS]
   rw [phiP_cd oM, er_two_kq h9 h1.1 h2.1]
   rfl
  ·refine List.map_congr_left fun j hj => ?_
   have h2 := mem_rg hj
   simp only [Function.comp_def, renS]
   rw [phiP_cd oM, er_one oM, er_one oM]
   congr 2
   congr 1
   omega
 ·refine List.map_congr_left fun j hj => ?_
  have h1 := mem_rg hj
  have hf := hB.face ht h1.1 h1.2
  simp only [Function.comp_def]
  congr 1
  unfold sidesOf
  rw [pfind hA hB hs hf.1]
  show pfaces A B s (t.eraseIdx j) = _
  unfold pfaces patR
  rw [List.map_append, List.map_map, List.map_map, hf.2]
  congr 1
  ·refine List.map_congr_left fun k hk => ?_
   have h2 := mem_rg hk
   simp only [Function.comp_def, renS]
   rw [phiP_cd oM, er_one oM, er_one oM]
  ·refine List.map_congr_left fun q hq => ?_
   have h2 := mem_rg hq
   simp only [Function.comp_def, renS]
   rw [phiP_cd (num_lt k9 (num_two oM h1.1 h2.1)), er_two_kq k9 h1.1 h2.1]
   rfl
theorem paround {s t : List Int} (hs : s ∈ A) (ht : t ∈ B) (h1 : s.length ≤ 3) (h2 : t.length ≤ 3) (h3 : 3 < s.length + t.length) : aroundC (A.flatMap fun s => B.map (pcel A B s)) (pcel A B s t) = 0 := by
 obtain ⟨n1, st1, h9⟩ := hA.form s hs
 obtain ⟨n2, st2, k9⟩ := hB.form t ht
 rw [aroundC_L, plook hA hB hs ht, aroundL_ren, patP_ok _ oM (List.length_pos_iff.2 n1) _ oM (List.length_pos_iff.2 n2) h3]
 intro x hx y hy h
 obtain ⟨a, b, ha, hb, rfl⟩ := pat_key hx
 obtain ⟨c, d, hc, hd, rfl⟩ := pat_key hy
 rw [phiP_cd (num_lt k9 hb), phiP_cd (num_lt k9 hd)] at h
 obtain ⟨e1, e2⟩ := pid_inj hA hB (hA.er hs ha) (hA.er hs hc) (hB.er ht hb) (hB.er ht hd) h
 rw [er_inj st1 h9 ha hc e1, er_inj st2 k9 hb hd e2]
theorem pform {s t : List Int} (hs : s ∈ A) (ht : t ∈ B) (h1 : s.length ≤ 3) (h2 : t.length ≤ 3) : formC (A.flatMap fun s => B.map (pcel A B s)) (pcel A B s t) = 0 := by
 have n1 := List.length_pos_iff.2 (hA.form s hs).1
 have n2 := List.length_pos_iff.2 (hB.form t ht).1
 have hdim : (pcel A B s t).dim = (s.length : Int) - 1 + ((t.length : Int) - 1) := rfl
 have hlen : (pcel A B s t).sides.length = (if s.length ≤ 1 then 0 else s.length) + (if t.length ≤ 1 then 0 else t.length) := by
  show (pfaces A B s t).length = _
  unfold pfaces
  rw [List.length_append, List.length_map, List.length_map, rg_length, rg_length]
 refine form_of (by rw [hdim]; omega) ?_ (fun x hx => ?_) (psorted hA hB hs ht) (fun x hx => ?_) fun hd => ?_
 ·unfold cntBad
  rw [hdim, hlen]
  rcases (by omega : s.length = 1 ∨ s.length = 2 ∨ s.length = 3) with e | e | e <;> rcases (by omega : t.length = 1 ∨ t.length = 2 ∨ t.length = 3) with e' | e' | e' <;> rw [e, e'] <;> decide
 ·rcases List.mem_append.1 hx with hx | hx
  ·obtain ⟨k, hk, rfl⟩ := List.mem_map.1 hx
   have h3 := mem_rg hk
   have hf := hA.face hs h3.1 h3.2
   refine ⟨_, pfind hA hB hf.1 ht, ?_⟩
   show ((s.eraseIdx k).length : Int) - 1 + ((t.length : Int) - 1) = (s.length : Int) - 1 + ((t.length : Int) - 1) - 1
   rw [hf.2]
   omega
  ·obtain ⟨k, hk, rfl⟩ := List.mem_map.1 hx
   have h3 := mem_rg hk
   have hf := hB.face ht h3.1 h3.2
   refine ⟨_, pfind hA hB hs hf.1, ?_⟩
   show (s.length : Int) - 1 + (((t.eraseIdx k).length : Int) - 1) = (s.length : Int) - 1 + ((t.length : Int) - 1) - 1
   rw [hf.2]
   omega
 ·rcases List.mem_append.1 hx with hx | hx
  ·obtain ⟨k, _, rfl⟩ := List.mem_map.1 hx
   exact signC_cases k
  ·obtain ⟨k, _, rfl⟩ := List.mem_map.1 hx
   exact sign_prod _ _
 ·rw [hdim] at hd
  show sumS (pfaces A B s t) = 0
  unfold pfaces sumS
  rcases (by omega : (s.length = 2 ∧ t.length = 1) ∨ (s.length = 1 ∧ t.length = 2)) with ⟨e, e'⟩ | ⟨e, e'⟩
  ·rw [e, e']
   simp [rg, List.range_succ, signC]
  ·rw [e, e']
   simp [rg, List.range_succ, signC]
theorem pcanon : canonC (A.flatMap fun s => B.map (pcel A B s)) = A.flatMap fun s => B.map (pcel A B s) := by
 unfold canonC
 have h1 : sortBy Cl.id (A.flatMap fun s => B.map (pcel A B s)) = A.flatMap fun s => B.map (pcel A B s) := (eq_sortBy ((pids hA hB).imp fun h => by omega) (Stab.refl _)).symm
 rw [h1]
 have h2 : ∀ c ∈ A.flatMap fun s => B.map (pcel A B s), normC c = c := fun c hc => by
  obtain ⟨s, hs, hc⟩ := List.mem_flatMap.1 hc
  obtain ⟨t, ht, rfl⟩ := List.mem_map.1 hc
  unfold normC
  have : sortBy Side.cell (pcel A B s t).sides = (pcel A B s t).sides := (eq_sortBy ((psorted hA hB hs ht).imp fun h => by omega) (Stab.refl _)).symm
  rw [this]
 have h3 := List.map_congr_left h2
 rw [h3]
 simp
theorem pright (h1 : ∀ s ∈ A, s.length ≤ 3) (h2 : ∀ t ∈ B, t.length ≤ 3) (hl : A.length * B.length ≤ 4000) : checkC (A.flatMap fun s => B.map (pcel A B s)) = (0, 0) := by
 refine check_ok (by rw [flatMap_len]; exact hl) ?_ ?_ ?_ ?_ <;> rw [pcanon hA hB]
 ·intro x hx
  obtain ⟨s, hs, hx⟩ := List.mem_flatMap.1 hx
  obtain ⟨t, ht, rfl⟩ := List.mem_map.1 hx
  show 0 < pid A B s t
  unfold pid
  omega
 ·exact pids hA hB
 ·intro x hx
  obtain ⟨s, hs, hx⟩ := List.mem_flatMap.1 hx
  obtain ⟨t, ht, rfl⟩ := List.mem_map.1 hx
  exact pform hA hB hs ht (h1 s hs) (h2 t ht)
 ·intro x hx hd
  obtain ⟨s, hs, hx⟩ := List.mem_flatMap.1 hx
  obtain ⟨t, ht, rfl⟩ := List.mem_map.1 hx
  have hd : (s.length : Int) - 1 + ((t.length : Int) - 1) > 1 := hd
  exact paround hA hB hs ht (h1 s hs) (h2 t ht) oM
end
structure Few (a : List Cl) (A : List (List Int)) : Prop where
 good : Good A
 cells : a = A.map (celC A)
 small : ∀ s ∈ A, s.length ≤ 3
 few : A.length ≤ 14
theorem Few.canon {a : List Cl} {A : List (List Int)} (h : Few a A) : canonC a = a := by rw [h.cells, h.good.canon]
theorem Few.tab {a : List Cl} {A : List (List Int)} (h : Few a A) : tabC a = a := by rw [h.cells, h.good.tab]
theorem Few.check {a : List Cl} {A : List (List Int)} (h : Few a A) : checkC a = (0, 0) := by
 have hc := h.canon
 have hi := h.good.ids
 rw [List.pairwise_map] at hi
 have h0 : a.length ≤ 4000 := by rw [h.cells, List.length_map]; have := h.few; omega
 refine check_ok h0 ?_ ?_ ?_ ?_ <;> rw [hc, h.cells]
 ·intro x hx
  obtain ⟨s, _, rfl⟩ := List.mem_map.1 hx
  show 0 < ixC A s
  unfold ixC
  omega
 ·exact hi
 ·intro x hx
  obtain ⟨s, hs, rfl⟩ := List.mem_map.1 hx
  exact h.good.formOk hs
 ·intro x hx hd
  obtain ⟨s, hs, rfl⟩ := List.mem_map.1 hx
  refine h.good.aroundOk hs ?_
  have : (s.length : Int) - 1 > 1 := hd
  omega
theorem Few.prod {a b : List Cl} {A B : List (List Int)} (ha : Few a A) (hb : Few b B) : prodC a b = A.flatMap fun s => B.map (pcel A B s) := by
 have hl : A.length * B.length ≤ 14 * 14 := Nat.mul_le_mul ha.few hb.few
 have hbad : prodBad a b = false := by
  unfold prodBad
  rw [ha.check, hb.check, ha.cells, hb.cells, List.length_map, List.length_map, ← Int.natCast_mul]
  simp
  omega
 have hall : prodAll a b = A.flatMap fun s => B.map (pcel A B s) := by rw [ha.cells, hb.cells, prodAll_good ha.good hb.good]
 unfold prodC
 rw [hbad, hall, pright ha.good hb.good ha.small hb.small oM, pcanon ha.good hb.good]
 rfl
theorem Few.prodRight {a b : List Cl} {A B : List (List Int)} (ha : Few a A) (hb : Few b B) : checkC (prodC a b) = (0, 0) := by
 have hl : A.length * B.length ≤ 14 * 14 := Nat.mul_le_mul ha.few hb.few
 rw [ha.prod hb, pright ha.good hb.good ha.small hb.small oM]
theorem Few.prodLen {a b : List Cl} {A B : List (List Int)} (ha : Few a A) (hb : Few b B) : (prodC a b).length = a.length * b.length := by
 rw [ha.prod hb, flatMap_len, ha.cells, hb.cells, List.length_map, List.length_map]
theorem sum_flat {α β : Type} (l : List α) (m : List β) (f : α → Int) (g : β → Int) (k : α → β → Int) (h : ∀ a b, a ∈ l → b ∈ m → k a b = f a * g b) : ((l.flatMap fun a => m.map (k a)).sum) = (l.map f).sum * (m.map g).sum := by
 induction l with
 | nil => simp
 | cons a r ih =>
  have h1 : (m.map (k a)).sum = f a * (m.map g).sum := by
   have h2 : ∀ b ∈ m, k a b = f a * g b := fun b hb => h a b (by simp) hb
   clear ih h
   induction m with
   | nil => simp
   | cons b q ih2 =>
    simp only [List.map_cons, List.sum_cons]
    rw [ih2 fun c hc => h2 c (by simp [hc]), h2 b (by simp), Int.mul_add]
  simp only [List.flatMap_cons, List.sum_append, List.map_cons, List.sum_cons]
  rw [ih fun x b hx hb => h x b (by simp [hx]) hb, h1, Int.add_mul]
def sgD (d : Int) : Int := if d.tmod 2 = 0 then 1 else -1
theorem sgD_add {a b : Int} (ha : 0 ≤ a) (hb : 0 ≤ b) : sgD (a + b) = sgD a * sgD b := by
 unfold sgD
 rw [Int.tmod_eq_emod_of_nonneg oM, Int.tmod_eq_emod_of_nonneg ha, Int.tmod_eq_emod_of_nonneg hb]
 by_cases h1 : a % 2 = 0 <;> by_cases h2 : b % 2 = 0
 ·rw [if_pos h1, if_pos h2, if_pos oM]; rfl
 ·rw [if_pos h1, if_neg h2, if_neg oM]; rfl
 ·rw [if_neg h1, if_pos h2, if_neg oM]; rfl
 ·rw [if_neg h1, if_neg h2, if_pos oM]; rfl
theorem Few.euler {a b : List Cl} {A B : List (List Int)} (ha : Few a A) (hb : Few b B) : eulC (prodC a b) = eulC a * eulC b := by
 have hp := pcanon ha.good hb.good
 have ht : tabC (prodC a b) = A.flatMap fun s => B.map (pcel A B s) := by
  rw [ha.prod hb, tabC_strict (by rw [hp]; exact pids ha.good hb.good), hp]
 unfold eulC
 rw [ht, ha.tab, hb.tab]
 conv => rhs; rw [ha.cells, hb.cells]
 rw [List.map_map, List.map_map, List.map_flatMap]
 simp only [List.map_map]
 refine sum_flat A B _ _ (fun s t => sgD ((s.length : Int) - 1 + ((t.length : Int) - 1))) fun s t hs ht => ?_
 have n1 := List.length_pos_iff.2 (ha.good.form s hs).1
 have n2 := List.length_pos_iff.2 (hb.good.form t ht).1
 exact sgD_add oM oM
set_option maxRecDepth 100000
set_option maxHeartbeats 1000000
theorem SU.min3 {P : Program} {N : Nat} {f : Fr} {dst : Option Tmp} {ty : TypeId} {pos : String} {af : Array Edge} {gd : Option (Nat × Bool)} {x : Operand} {T U : TypeId} {n : Nat} (hx : ev f x = some (vi n)) :
  SU P N ⟨dst, .call ⟨.builtin .min, #[x, .const (.int .i64 3)], #[T, U]⟩, ty, pos, af, gd⟩ f (vi (min n 3 : Nat)) := fun a w ha => by
 have h := run_min_int2 (P := P) (w := w) #[T, U] ty .i64 .i64 n 3
 have h2 : (if (3 : Int) < (n : Int) then (3 : Int) else (n : Int)) = ((min n 3 : Nat) : Int) := by split <;> omega
 rw [h2] at h
 have h3 : a.eval (.const (.int .i64 3)) = .int .i64 3 := rfl
 simp [execOp, resolve, invoke, builtin, ha.ev hx, h3, h]
theorem lawSame_refl (E : World) (g : PH) (s : Own) (v u : Value) (l : List Cl) (hv : Cells g v l) (hu : Cells g u l) (hf : Fits l) :
  Ctr Tryz.prog E 13 #[.agg #[v], .agg #[u]] g s (fun r g' s' => r = vb true ∧ g = g' ∧ s = s') :=
 (lawSame_spec E g s v u l l hv hu hf).mono fun _ _ _ ⟨h1, h2⟩ => ⟨by rw [h1, decide_eq_true rfl], h2⟩
def shortC (ls : List (List Int)) : List (List Int) := (ls.take 2).map fun l => (l.take 3).map fun x => modW x 7
theorem sets_one (x : List Int) (n : Nat) (h : n = min x.length 3) : setsC [(x.drop 0).take (n - 0)] = [(x.take 3).map fun y => modW y 7] := by
 subst h
 have : ((x.drop 0).take (min x.length 3 - 0)).take 4 = x.take 3 := by
  simp only [List.drop_zero, Nat.sub_zero, List.take_take]
  by_cases h : x.length ≤ 3
  ·rw [List.take_of_length_le oM, List.take_of_length_le h]
  ·congr 1
   omega
 simp only [setsC, List.take_succ_cons, List.take_nil, List.map_cons, List.map_nil, this]
theorem short_spec (E : World) (g : PH) (s : Own) (v : Value) (ls : List (List Int)) (hv : Lists g v ls) :
  Ctr Tryz.prog E 15 #[v] g s (fun r g' s' => s = s' ∧ Le g g' ∧ Lists g' r (shortC ls)) := by
 obtain ⟨rs0, hrs0, hall0⟩ := hv
 have hlen0 := hall0.length
 obtain ⟨p, c, rfl⟩ := SlA.form hrs0
 refine Ctr.of (args := [.slice p rs0.length c]) func15 rfl ntmps15 (Nat.le_of_ble_eq_true rfl) ?_
 refine SC.seq (SC.region (SL.A rfl (SL.nil (ST.thenN (SC.seq (SC.region (SL.A rfl (SL.nil (ST.thenN (SC.seq (SC.seq (SC.region (SL.A rfl (SL.nil (ST.thenN (SC.block (SC.nilRow 45 1 ?_)))))))))))))))))
 refine SC.loop (ι := PH × Value × List Sv × Nat) (fun i => [(0, .slice p rs0.length c), (3, i.2.1), (4, vi i.2.2.2)]) (fun i => i.1)
  (fun i => rowA encSv 45 i.2.1 i.2.2.1 :: s)
  (fun i => Le g i.1 ∧ i.2.2.2 ≤ rs0.length ∧ i.2.2.2 ≤ 2 ∧ All2 (ListR i.1) ((ls.take i.2.2.2).map fun l => (l.take 3).map fun x => modW x 7) i.2.2.1) (fun i => rs0.length - i.2.2.2)
  (g, .slice none 0 0, [], 0) ⟨rfl, rfl, rfl, trivial⟩ rfl rfl ⟨Le.refl g, Nat.zero_le _, Nat.zero_le _, trivial⟩ ?_
 rintro ⟨g1, ov, rs, i⟩ ⟨hle, hi, hi2, hrs⟩
 dsimp only at hle hi hi2 hrs ⊢
 have hrl := hrs.length
 rw [List.length_map, List.length_take] at hrl
 have f1 : (i : Int) < (rs0.length : Int) → (decide ((i : Int) < (rs0.length : Int)) && decide ((i : Int) < 2)) = decide ((i : Int) < 2) := fun h => by simp [h]
 have f2 : ¬ (i : Int) < (rs0.length : Int) → (decide ((i : Int) < (rs0.length : Int)) && decide ((i : Int) < 2)) = false := fun h => by simp only [h, decide_false, Bool.false_and]
 refine SC.seq ?_
 refine SC.cutB 12 ((decide ((i : Int) < (rs0.length : Int)) && decide ((i : Int) < 2))) ?_ ?_
 ·refine SC.region (SL.M rfl (SL.M rfl (SL.U (SU.lenN underlying22 rfl) (SL.U (SU.lss rfl rfl) (SL.M rfl ?_)))))
  refine SL.split ?_ ?_
  ·intro h9
   refine SL.Y rfl rfl rfl (SU.move rfl) (SL.Y rfl rfl rfl (SU.lss rfl rfl) (SL.U (SU.pickT rfl rfl) (SL.nil ?_)))
   exact ST.mid1 (by (rw [f1 h9]; rfl)) mI
  ·intro h9
   refine SL.Z rfl rfl rfl (SL.Z rfl rfl rfl (SL.U (SU.pickF rfl rfl) (SL.nil ?_)))
   exact ST.mid1 (by (rw [f2 h9]; rfl)) mI
 refine SC.ifB rfl (fun hc => ?_) (fun hc => ?_)
 ·rw [Bool.and_eq_true, decide_eq_true_iff, decide_eq_true_iff] at hc
  have hil : i < ls.length := oM
  have hir : i < rs0.length := oM
  have hb1 := hrs0.based oM
  have hR := (hall0.get (List.getElem?_eq_getElem hil) (List.getElem?_eq_getElem hir)).mono hle
  have hRl := hR.len
  have hsucc := map_take_succ hil fun l => (l.take 3).map fun x => modW x 7
  generalize hx : ls[i] = x at *
  generalize hr : rs0[i] = r at *
  obtain ⟨rp, rn, rc⟩ := r
  dsimp only at hRl
  subst hRl
  have hxs : Ints g1 (.slice rp x.length rc) x := hR
  have hgr : rs0[((i : Nat) : Int).toNat]? = some ⟨rp, x.length, rc⟩ := by rw [← hr]; exact List.getElem?_eq_getElem hir
  have hcap := (SlA.cap hxs).2
  have hcut := SlA.cut hxs (l := 0) (m := min x.length 3) oM oM
  obtain ⟨q26, hq26⟩ := sliced_form rp 0 (min x.length 3) rc 1
  rw [hq26] at hcut
  have hone := sets_one x _ rfl
  refine SC.skip (ST.thenN (SC.seq (SC.block ?_)))
  refine SC.draw [14] [(0, 2), (1, 2), (2, 2), (3, 2), (4, 1), (5, 2), (6, 2), (7, 2), (8, 1), (9, 2), (10, 2), (11, 2), (12, 0), (13, 0), (14, 0), (15, 2)] Tryz.mixed (by kernel_rfl) ?_
  refine SP.U (i := 0) rfl (SU.move rfl) (SP.U (i := 1) rfl (SU.move rfl) (SP.U (i := 2) rfl (SU.move rfl) (SP.U (i := 3) rfl (SU.indexAddr underlying22 sizeOf45 rfl rfl hb1 oM sL) (SP.K (i := 4) rfl (SQ.elem1 (u := .slice rp x.length rc) isAgg45 rfl (hrs0.mono hle).rd hgr rfl) (SP.U (i := 5) rfl (SU.move rfl) (SP.U (i := 6) rfl (SU.move rfl) (SP.U (i := 7) rfl (SU.indexAddr underlying22 sizeOf45 rfl rfl hb1 oM sL) (SP.K (i := 8) rfl (SQ.elem1 (u := .slice rp x.length rc) isAgg45 rfl (hrs0.mono hle).rd hgr rfl) (SP.U (i := 9) rfl (SU.lenN underlying45 rfl) (SP.U (i := 10) rfl (SU.min3 rfl) (SP.U (i := 11) rfl (SU.eq (v' := .slice q26 (min x.length 3 - 0) (rc - 0)) (SU.sliceH underlying45 sizeOf3 rfl rfl oM oM) hq26) (SP.o (i := 12) rfl (SO.buildSlice sty22 rfl rfl rfl (szs_mk ⟨rfl, trivial⟩) dC) dC (.inr (by rintro _ _ _ ⟨b27, rfl, rfl, rfl⟩; exact ⟨by exact Le.refl _, (by exact .cons _ (.refl _))⟩)) ?_))))))))))))
  rintro _ _ _ ⟨b27, rfl, rfl, rfl⟩
  refine SP.freeze fun g2 hle2 hb27 => ?_
  have hl2 : Lists g2 (.slice (some ⟨b27, 0, none⟩) 1 1) [(x.drop 0).take (min x.length 3 - 0)] := ⟨[⟨q26, min x.length 3 - 0, rc - 0⟩], SlA.lit hb27 rfl rfl, ⟨SlA.mono hcut hle2, trivial⟩⟩
  refine SP.o (i := 13) rfl (SO.call call10 rfl (sets_spec E g2 _ _ _ hl2)) dC (.inr (by rintro v28 g3 _ ⟨rs3, rfl, hle3, hall3⟩; exact ⟨by exact Le.trans (by assumption) (by assumption), (by exact .cons _ (.refl _))⟩)) ?_
  rintro v28 g3 _ ⟨rs3, rfl, hle3, hall3⟩
  refine SP.freezeRow fun g4 hle4 hs4 => ?_
  rw [hone] at hall3
  have hl3 := hall3.length
  refine SP.o (i := 14) rfl (SO.appA (e := encSv) 0 sty22 rfl rfl rfl hs4 (by simp at hl3; omega) (by simp at hl3; omega)) dC (.inl dC) ?_
  rintro v29 _ _ ⟨rfl, rfl⟩
  refine SP.U (i := 15) rfl (SU.assign rfl) (SP.nil (ST.blockN (ST.thenN (SC.region (SL.M rfl (SL.U (SU.add rfl rfl oM) (SL.A rfl (SL.nil ?_))))))))
  have hle24 := hle2.trans (hle3.trans hle4)
  refine ST.again (g4, v29, rs ++ rs3, i + 1) ⟨rfl, rfl, rfl, trivial⟩ rfl rfl ⟨hle.trans hle24, lN, lN, ?_⟩ lN
  dsimp only
  rw [hsucc]
  exact (hrs.mono fun _ _ => ListR.mono hle24).append (hall3.mono fun _ _ => ListR.mono hle4)
 ·have hls : ls.take i = ls.take 2 := by
   rw [Bool.and_eq_false_iff, decide_eq_false_iff_not, decide_eq_false_iff_not] at hc
   by_cases h2 : i = 2
   ·rw [h2]
   ·rw [List.take_of_length_le oM, List.take_of_length_le oM]
  rw [hls] at hrs
  refine SC.exit (ST.thenX (ST.thenX (ST.blockX (ST.thenN (SC.seq (SC.region (SL.M rfl (SL.A rfl (SL.nil (ST.thenN (SC.ret (ST.freezeRow fun g2 hle2 hs2 => ?_))))))))))))
  exact ST.ret1 (.inl rfl) results15 rfl ⟨rfl, hle.trans hle2, rs, hs2, hrs.mono fun _ _ => ListR.mono hle2⟩
theorem setC_le (x : List Int) : (setC x).length ≤ x.length := by
 unfold setC
 exact Nat.le_trans (uniq_length _ _) (by rw [sortI_length]; exact Nat.le_refl _)
theorem addSets_le (acc : List (List Int)) {t : List Int} (h : t.length ≤ 3) : (addSets acc t).length ≤ acc.length + 7 := by
 unfold addSets
 refine Nat.le_trans (uniq_length _ _) ?_
 rw [(sortL_perm _).length_eq, List.length_append]
 have : 2 ^ t.length ≤ 2 ^ 3 := Nat.pow_le_pow_right dC h
 simp [subsetsC]
 omega
theorem simpAll_few : ∀ (ls acc : List (List Int)) {all : List (List Int)}, simpAll acc ls = some all → (∀ x ∈ ls, x.length ≤ 3) → (∀ s ∈ acc, s.length ≤ 3) → all.length ≤ acc.length + 7 * ls.length ∧ ∀ s ∈ all, s.length ≤ 3
 | [], acc, all, h, _, ha => by cases h; exact ⟨by simp, ha⟩
 | s :: r, acc, all, h, hl, ha => by
  have hs := hl s (by simp)
  have h3 := setC_le s
  unfold simpAll at h
  split at h
  ·obtain ⟨h1, h2⟩ := simpAll_few r acc h (fun x hx => hl x (by simp [hx])) ha
   exact ⟨by simp only [List.length_cons]; omega, h2⟩
  ·split at h
   ·cases h
   ·obtain ⟨h1, h2⟩ := simpAll_few r _ h (fun x hx => hl x (by simp [hx])) (fun x hx => by
     rcases addSets_mem hx with hx | hx
     ·exact ha x hx
     ·have := ((subsetsC_iff _ _).1 hx).1.length_le
      omega)
    have := addSets_le acc (t := setC s) oM
    exact ⟨by simp only [List.length_cons]; omega, h2⟩
theorem short_len (ls : List (List Int)) : (shortC ls).length ≤ 2 ∧ ∀ x ∈ shortC ls, x.length ≤ 3 := by
 refine ⟨by simp [shortC]; omega, fun x hx => ?_⟩
 obtain ⟨l, _, rfl⟩ := List.mem_map.1 hx
 simp
 omega
theorem few_short (ls : List (List Int)) : ∃ A, Few (simpC (shortC ls)) A := by
 unfold simpC
 cases h : simpAll [] (shortC ls) with
 | none => exact ⟨[], Good.nil, rfl, by simp, by simp⟩
 | some all =>
  obtain ⟨hg, _⟩ := simpAll_good _ [] h Good.nil (by simp)
  obtain ⟨h1, h2⟩ := short_len ls
  obtain ⟨h3, h4⟩ := simpAll_few _ [] h h2 (by simp)
  exact ⟨all, hg, hg.cells, h4, by simp at h3; omega⟩
theorem eulC_bound (l : List Cl) : -(l.length : Int) ≤ eulC l ∧ eulC l ≤ l.length := by
 have h : ∀ m : List Cl, -(m.length : Int) ≤ (m.map fun c => if c.dim.tmod 2 = 0 then (1 : Int) else -1).sum ∧ (m.map fun c => if c.dim.tmod 2 = 0 then (1 : Int) else -1).sum ≤ m.length := by
  intro m
  induction m with
  | nil => simp
  | cons c r ih =>
   simp only [List.map_cons, List.sum_cons, List.length_cons]
   split <;> omega
 have h1 := h (tabC l)
 have h2 := tabC_length l
 unfold eulC
 omega
theorem cellsProducts_spec (E : World) (hE : E.drawn = 0) (g : PH) (s : Own) (v u : Value) (ls ms : List (List Int)) (q0 q1 q2 : Int) (hv : Lists g v ls) (hu : Lists g u ms) :
  Ctr Tryz.prog E 4 #[v, u, .agg #[vi q0, vi q1, vi q2]] g s (fun r g' s' => r = vb true ∧ s = s' ∧ Le g g') := by
 obtain ⟨h1, h2⟩ := short_len ls
 obtain ⟨h3, h4⟩ := short_len ms
 obtain ⟨X, hX⟩ := few_short ls
 obtain ⟨Y, hY⟩ := few_short ms
 have hsa := simpC_small (shortC ls)
 have hfb := (simpC_fits (shortC ms)).1
 have hka := fun g s v hv => refSimplicial_spec E g s v (shortC ls) hv oM (fun x hx => by have := h2 x hx; omega)
 have hkb := fun g s v hv => refSimplicial_spec E g s v (shortC ms) hv oM (fun x hx => by have := h4 x hx; omega)
 generalize simpC (shortC ls) = A at *
 generalize simpC (shortC ms) = B at *
 have hfa := hsa.fits
 have hfc := spoilC_fits hsa q0 q1 q2
 have hkc := fun g s v hv => spoiled_spec E g s v A q0 q1 q2 hv hfa
 generalize spoilC A q0 q1 q2 = C at *
 have hfp : Fits (prodC A B) := by rw [← prod_ref]; exact (refProdC_fits A B).1
 have hfr : Fits (prodC C B) := by rw [← prod_ref]; exact (refProdC_fits C B).1
 have hlp : (prodC A B).length ≤ 4000 := by rw [← prod_ref]; exact (refProdC_fits A B).2
 have hpp := fun g s v u hv hu => refProduct_spec E g s v u A B hv hu hfa hfb
 have hpr := fun g s v u hv hu => refProduct_spec E g s v u C B hv hu hfc hfb
 rw [prod_ref] at hpp hpr
 have hck := fun g s v hv => check_spec E g s v (prodC A B) hv hfp
 rw [hX.prodRight hY] at hck
 have heu := hX.euler hY
 have hlen := hX.prodLen hY
 have hbp := eulC_bound (prodC A B)
 have hal : A.length ≤ 14 := by rw [hX.cells, List.length_map]; exact hX.few
 have hbl : B.length ≤ 14 := by rw [hY.cells, List.length_map]; exact hY.few
 refine Ctr.of (args := [v, u, .agg #[vi q0, vi q1, vi q2]]) func4 rfl ntmps4 (Nat.le_of_ble_eq_true rfl) ?_
 refine SC.seq (SC.region (SL.W (SO.box rfl) ?_))
 rintro _ _ _ ⟨b5, rfl, rfl, rfl⟩
 refine SL.A rfl (SL.nil (ST.thenN (SC.seq (SC.region (SL.W (SO.call call9 rfl (sanity_spec E hE g _)) ?_)))))
 rintro _ g1 _ ⟨rfl, rfl, hle1⟩
 refine SL.A rfl (SL.nil (ST.thenN (SC.seq (SC.region (SL.M rfl (SL.W (SO.call call15 rfl (short_spec E g1 _ _ ls (hv.mono hle1))) ?_))))))
 rintro v17 g2 _ ⟨rfl, hle2, hl2⟩
 refine SL.W (SO.call call14 rfl (hka g2 _ _ hl2)) ?_
 rintro _ g3 _ ⟨rfl, hle3, xa, rfl, hxa⟩
 obtain ⟨qa, da, rfl⟩ := hxa.form
 have hle13 := hle1.trans (hle2.trans hle3)
 refine SL.W (SO.alloc zeroValue27) ?_
 rintro _ _ _ ⟨b8, rfl, rfl, rfl⟩
 refine SL.on (SO.storeAllK 0 sizeOf27 rfl rfl rfl rfl rfl (by exact ⟨rfl, trivial⟩)) ?_
 rintro _ _ _ ⟨rfl, rfl⟩
 refine SL.nil (ST.thenN (SC.seq (SC.region (SL.M rfl (SL.W (SO.call call15 rfl (short_spec E g3 _ _ ms (hu.mono hle13))) ?_)))))
 rintro v20 g4 _ ⟨rfl, hle4, hl4⟩
 refine SL.W (SO.call call14 rfl (hkb g4 _ _ hl4)) ?_
 rintro _ g5 _ ⟨rfl, hle5, xb, rfl, hxb⟩
 obtain ⟨qb, db, rfl⟩ := hxb.form
 have hle15 := hle13.trans (hle4.trans hle5)
 have hxa5 := hxa.mono (hle4.trans hle5)
 refine SL.W (SO.alloc zeroValue27) ?_
 rintro _ _ _ ⟨b9, rfl, rfl, rfl⟩
 refine SL.on (SO.storeAllK 0 sizeOf27 rfl rfl rfl rfl rfl (by exact ⟨rfl, trivial⟩)) ?_
 rintro _ _ _ ⟨rfl, rfl⟩
 refine SL.nil (ST.thenN (SC.seq (SC.region (SL.K (SQ.loadVarK 1 isAgg27 sizeOf27 rfl rfl rfl) (SL.K (SQ.loadVarK 2 isAgg34 sizeOf34 rfl rfl rfl) (SL.W (SO.call call16 rfl (hkc g5 _ _ hxa5)) ?_))))))
 rintro _ g6 _ ⟨rfl, hle6, xc, rfl, hxc⟩
 obtain ⟨qc, dc, rfl⟩ := hxc.form
 have hxa6 := hxa5.mono hle6
 have hxb6 := hxb.mono hle6
 refine SL.W (SO.alloc zeroValue27) ?_
 rintro _ _ _ ⟨b10, rfl, rfl, rfl⟩
 refine SL.on (SO.storeAllK 0 sizeOf27 rfl rfl rfl rfl rfl (by exact ⟨rfl, trivial⟩)) ?_
 rintro _ _ _ ⟨rfl, rfl⟩
 refine SL.nil (ST.thenN (SC.seq (SC.region (SL.K (SQ.loadVarK 2 isAgg27 sizeOf27 rfl rfl rfl) (SL.K (SQ.loadVarK 1 isAgg27 sizeOf27 rfl rfl rfl) (SL.W (SO.call call17 rfl (product_spec E g6 _ _ _ A B hxa6 hxb6 hfa hfb)) ?_))))))
 rintro _ g7 _ ⟨rfl, hle7, xp, rfl, hxp⟩
 obtain ⟨qp, dp, rfl⟩ := hxp.form
 have hxa7 := hxa6.mono hle7
 have hxb7 := hxb6.mono hle7
 have hxc7 := hxc.mono hle7
 refine SL.W (SO.alloc zeroValue27) ?_
 rintro _ _ _ ⟨b11, rfl, rfl, rfl⟩
 refine SL.on (SO.storeAllK 0 sizeOf27 rfl rfl rfl rfl rfl (by exact ⟨rfl, trivial⟩)) ?_
 rintro _ _ _ ⟨rfl, rfl⟩
 refine SL.nil (ST.thenN (SC.seq (SC.region (SL.K (SQ.loadVarK 1 isAgg27 sizeOf27 rfl rfl rfl) (SL.K (SQ.loadVarK 2 isAgg27 sizeOf27 rfl rfl rfl) (SL.W (SO.call call17 rfl (product_spec E g7 _ _ _ C B hxc7 hxb7 hfc hfb)) ?_))))))
 rintro _ g8 _ ⟨rfl, hle8, xr, rfl, hxr⟩
 obtain ⟨qr, dr, rfl⟩ := hxr.form
 have hxa8 := hxa7.mono hle8
 have hxb8 := hxb7.mono hle8
 have hxc8 := hxc7.mono hle8
 have hxp8 := hxp.mono hle8
 have hle18 := hle15.trans (hle6.trans (hle7.trans hle8))
 refine SL.W (SO.alloc zeroValue27) ?_
 rintro _ _ _ ⟨b12, rfl, rfl, rfl⟩
 refine SL.on (SO.storeAllK 0 sizeOf27 rfl rfl rfl rfl rfl (by exact ⟨rfl, trivial⟩)) ?_
 rintro _ _ _ ⟨rfl, rfl⟩
 refine SL.nil (ST.thenN (SC.seq (SC.region (SL.K (SQ.loadVarK 1 isAgg27 sizeOf27 rfl rfl rfl) (SL.W (SO.call call12 rfl (hck g8 _ _ hxp8)) ?_)))))
 rintro _ _ _ ⟨rfl, rfl, rfl⟩
 refine SL.M rfl (SL.U (SU.extract rfl rfl) (SL.U (SU.extract rfl rfl) (SL.A rfl (SL.A rfl (SL.nil (ST.thenN (SC.seq ?_)))))))
 refine SC.draw [] [(0, 2), (1, 2), (2, 1), (3, 1), (4, 1), (5, 0), (6, 0), (7, 2), (8, 2), (9, 1), (10, 1), (11, 1), (12, 0), (13, 0), (14, 2), (15, 2), (16, 2), (17, 2), (18, 2), (19, 2), (20, 1), (22, 1), (24, 1), (21, 0), (23, 0), (25, 0), (26, 2), (27, 2), (28, 2), (29, 2), (30, 2), (31, 1), (32, 2), (33, 2), (34, 1), (35, 2), (36, 2), (37, 1), (38, 2), (39, 2), (40, 2), (41, 2), (42, 2)] Tryz.mixed (by kernel_rfl) ?_
 refine SP.U (i := 0) rfl (SU.move rfl) (SP.U (i := 1) rfl (SU.move rfl) (SP.gq (i := 2) rfl (Gd.onT rfl rfl rfl dC) (SQ.loadVarK 1 isAgg27 sizeOf27 rfl rfl rfl) dC (SP.gq (i := 3) rfl (Gd.onT rfl rfl rfl dC) (SQ.loadVarK 4 isAgg27 sizeOf27 rfl rfl rfl) dC (SP.gq (i := 4) rfl (Gd.onT rfl rfl rfl dC) (SQ.loadVarK 3 isAgg27 sizeOf27 rfl rfl rfl) dC (SP.go (i := 5) rfl (Gd.onT rfl rfl rfl dC) (SO.call call18 rfl (hpp g8 _ _ _ hxa8 hxb8)) dC (.inr (by rintro _ g9 _ ⟨rfl, hle9, x9, rfl, hx9⟩; exact ⟨by assumption, (by exact .refl _)⟩)) ?_)))))
 rintro _ g9 _ ⟨rfl, hle9, x9, rfl, hx9⟩
 obtain ⟨q9, d9, rfl⟩ := hx9.form
 have hxb9 := hxb8.mono hle9
 have hxc9 := hxc8.mono hle9
 refine SP.go (i := 6) rfl (Gd.onT rfl rfl rfl dC) (SO.call call13 rfl (lawSame_refl E g9 _ _ _ _ (hxp8.mono hle9) hx9 hfp)) dC (.inr (by rintro _ _ _ ⟨rfl, rfl, rfl⟩; exact ⟨by assumption, (by exact .refl _)⟩)) ?_
 rintro _ _ _ ⟨rfl, rfl, rfl⟩
 refine SP.U (i := 7) rfl (SU.pickT rfl rfl) (SP.U (i := 8) rfl (SU.move rfl) (SP.gq (i := 9) rfl (Gd.onT rfl rfl rfl dC) (SQ.loadVarK 0 isAgg27 sizeOf27 rfl rfl rfl) dC (SP.gq (i := 10) rfl (Gd.onT rfl rfl rfl dC) (SQ.loadVarK 2 isAgg27 sizeOf27 rfl rfl rfl) dC (SP.gq (i := 11) rfl (Gd.onT rfl rfl rfl dC) (SQ.loadVarK 3 isAgg27 sizeOf27 rfl rfl rfl) dC (SP.go (i := 12) rfl (Gd.onT rfl rfl rfl dC) (SO.call call18 rfl (hpr g9 _ _ _ hxc9 hxb9)) dC (.inr (by rintro _ g10 _ ⟨rfl, hle10, x10, rfl, hx10⟩; exact ⟨by exact Le.trans (by assumption) (by assumption), (by exact .refl _)⟩)) ?_)))))
 rintro _ g10 _ ⟨rfl, hle10, x10, rfl, hx10⟩
 obtain ⟨q10, d10, rfl⟩ := hx10.form
 have hle810 := hle9.trans hle10
 refine SP.go (i := 13) rfl (Gd.onT rfl rfl rfl dC) (SO.call call13 rfl (lawSame_refl E g10 _ _ _ _ (hxr.mono hle810) hx10 hfr)) dC (.inr (by rintro _ _ _ ⟨rfl, rfl, rfl⟩; exact ⟨by assumption, (by exact .refl _)⟩)) ?_
 rintro _ _ _ ⟨rfl, rfl, rfl⟩
 refine SP.U (i := 14) rfl (SU.pickT rfl rfl) (SP.U (i := 15) rfl (SU.move rfl) (SP.gu (i := 16) rfl (Gd.onT rfl rfl rfl dC) (SU.move rfl) dC (SP.gu (i := 17) rfl (Gd.onT rfl rfl rfl dC) (SU.eq (v' := vb true) (SU.eql rfl rfl) rfl) dC (SP.U (i := 18) rfl (SU.pickT rfl rfl) (SP.U (i := 19) rfl (SU.move rfl) (SP.gq (i := 20) rfl (Gd.onT rfl rfl rfl dC) (SQ.loadVarK 1 isAgg27 sizeOf27 rfl rfl rfl) dC (SP.gq (i := 22) rfl (Gd.onT rfl rfl rfl dC) (SQ.loadVarK 4 isAgg27 sizeOf27 rfl rfl rfl) dC (SP.gq (i := 24) rfl (Gd.onT rfl rfl rfl dC) (SQ.loadVarK 3 isAgg27 sizeOf27 rfl rfl rfl) dC (SP.go (i := 21) rfl (Gd.onT rfl rfl rfl dC) (SO.call call19 rfl (euler_spec E g10 _ _ _ (hxp8.mono hle810) hfp)) dC (.inr (by rintro _ _ _ ⟨rfl, rfl, rfl⟩; exact ⟨by assumption, (by exact .refl _)⟩)) ?_)))))))))
 rintro _ _ _ ⟨rfl, rfl, rfl⟩
 refine SP.go (i := 23) rfl (Gd.onT rfl rfl rfl dC) (SO.call call19 rfl (euler_spec E g10 _ _ _ (hxa8.mono hle810) hfa)) dC (.inr (by rintro _ _ _ ⟨rfl, rfl, rfl⟩; exact ⟨by assumption, (by exact .refl _)⟩)) ?_
 rintro _ _ _ ⟨rfl, rfl, rfl⟩
 refine SP.go (i := 25) rfl (Gd.onT rfl rfl rfl dC) (SO.call call19 rfl (euler_spec E g10 _ _ _ (hxb8.mono hle810) hfb)) dC (.inr (by rintro _ _ _ ⟨rfl, rfl, rfl⟩; exact ⟨by assumption, (by exact .refl _)⟩)) ?_
 rintro _ _ _ ⟨rfl, rfl, rfl⟩
 refine SP.gu (i := 26) rfl (Gd.onT rfl rfl rfl dC) (SU.eq (v' := vi (eulC (prodC A B))) (SU.mul rfl rfl (by rw [← heu]; omega)) (congrArg vi heu.symm)) dC ?_
 refine SP.gu (i := 27) rfl (Gd.onT rfl rfl rfl dC) (SU.eq (v' := vb true) (SU.eql rfl rfl) (congrArg vb (decide_eq_true rfl))) dC (SP.U (i := 28) rfl (SU.pickT rfl rfl) (SP.U (i := 29) rfl (SU.move rfl) (SP.gu (i := 30) rfl (Gd.onT rfl rfl rfl dC) (SU.fieldAddr underlying27 rfl sizeOf25 rfl) dC (SP.gq (i := 31) rfl (Gd.onT rfl rfl rfl dC) (SQ.load (v := .slice qp (prodC A B).length dp) isAgg25 rfl (CellAt.own 1 rfl rfl)) dC (SP.gu (i := 32) rfl (Gd.onT rfl rfl rfl dC) (SU.lenN underlying25 rfl) dC (SP.gu (i := 33) rfl (Gd.onT rfl rfl rfl dC) (SU.fieldAddr underlying27 rfl sizeOf25 rfl) dC (SP.gq (i := 34) rfl (Gd.onT rfl rfl rfl dC) (SQ.load (v := .slice qa A.length da) isAgg25 rfl (CellAt.own 4 rfl rfl)) dC (SP.gu (i := 35) rfl (Gd.onT rfl rfl rfl dC) (SU.lenN underlying25 rfl) dC (SP.gu (i := 36) rfl (Gd.onT rfl rfl rfl dC) (SU.fieldAddr underlying27 rfl sizeOf25 rfl) dC (SP.gq (i := 37) rfl (Gd.onT rfl rfl rfl dC) (SQ.load (v := .slice qb B.length db) isAgg25 rfl (CellAt.own 3 rfl rfl)) dC (SP.gu (i := 38) rfl (Gd.onT rfl rfl rfl dC) (SU.lenN underlying25 rfl) dC (SP.gu (i := 39) rfl (Gd.onT rfl rfl rfl dC) (SU.eq (v' := vi ((prodC A B).length : Nat)) (SU.mul rfl rfl (by rw [← Int.natCast_mul, ← hlen]; omega)) (congrArg vi (by rw [hlen, Int.natCast_mul]))) dC ?_))))))))))))
 refine SP.gu (i := 40) rfl (Gd.onT rfl rfl rfl dC) (SU.eq (v' := vb true) (SU.eql rfl rfl) (congrArg vb (decide_eq_true rfl))) dC (SP.U (i := 41) rfl (SU.pickT rfl rfl) (SP.U (i := 42) rfl (SU.assign rfl) (SP.nil (ST.thenN (SC.ret (ST.drop (s' := s) (.cons _ (.cons _ (.cons _ (.cons _ (.cons _ (.cons _ (.refl _))))))) ?_))))))
 exact ST.ret1 (.inl rfl) results4 rfl ⟨rfl, rfl, hle18.trans hle810⟩
end Go.Proofs.YtkdibcicncjpdaaGreat
namespace Go.Proofs.YtkdibcicncjpdaaGreat.cellsProductsDone
open _root_.Go.Proofs.Tryz _root_.Go.Proofs.YtkdibcicncjpdaaGreat.Tryz
open Go Go.Sy Go.Pl Go.Proofs Go.Proofs.YtkdibcicncjpdaaGreat
open Go.ChangeShapes Go.WideShapes Go.ChangeAt Go.RowKit
set_option linter.unusedVariables false
theorem own : ownKnob Tryz.prog.godebug = none := by kernel_rfl
theorem laidOut : laidOutB Tryz.prog = true := by kernel_rfl
set_option maxRecDepth 100000 in
theorem lifted (os : Os) (started : os.Started) (H : Type) (enc : TypeId × Value → H) :
  ReturnsInHanded {} Tryz.checked os 4 .any (Rows.cellsProductsSpec.pre6 enc Tryz.prog f4 Rows.cellsProductsRow.domain false) (Rows.cellsProductsSpec.post enc Tryz.prog f4 false true false false) := by
 refine returnsInHanded_of_change (C := Tryz.checked) own started (by kernel_rfl) func4
  (ChangeSpec.witness6 (enc := enc) (C := Tryz.checked) false ⟨#[], #[.slice none 0 0, .slice none 0 0, .agg #[.int .i64 0, .int .i64 0, .int .i64 0]], []⟩ 8 (by kernel_rfl) (by kernel_rfl) (by kernel_rfl) (by kernel_rfl)) ?_
 intro W base args ds gs before hval0 hW hcnd _
 have hval : ∀ (j : Nat) t v, f4.params[j]? = some t → args[j]? = some v → Value.okWide Tryz.prog W .any base t v := hval0
 have hW' := hW
 obtain ⟨p, q, hA0, hV, rfl, hfz, hnd⟩ := hW
 have hA : DataW.TrodAll enc Tryz.prog W 0 (fun _ => true) true f4.params.toList args.toList ds p := hA0
 rw [params4] at hA hval
 obtain ⟨v0, vs0, d0, ds0, p0, q0, hargs, rfl, rfl, h0, r0⟩ := trodAll_cons hA
 obtain ⟨v1, vs1, d1, ds1, p1, q1, rfl, rfl, rfl, h1, r1⟩ := trodAll_cons r0
 obtain ⟨v2, vs2, d2, ds2, p2, q2, rfl, rfl, rfl, h2, r2⟩ := trodAll_cons r1
 obtain ⟨rfl, rfl, rfl⟩ := trodAll_nil r2
 obtain rfl : args = #[v0, v1, v2] := by cases args; simp_all
 obtain ⟨rfl, rfl⟩ := trodVars_none hV
 have lt0 : ∀ x ∈ p0, x.block < W.heap.size := by obtain ⟨m, hm⟩ := h0; exact DataW.trod_lt m _ _ _ hm
 have lt1 : ∀ x ∈ p1, x.block < W.heap.size := by obtain ⟨m, hm⟩ := h1; exact DataW.trod_lt m _ _ _ hm
 have lt2 : ∀ x ∈ p2, x.block < W.heap.size := by obtain ⟨m, hm⟩ := h2; exact DataW.trod_lt m _ _ _ hm
 obtain ⟨a0, a1, a2, e2⟩ := three_of (hval 2 34 v2 rfl rfl) h2
 clear hA0 hval0
 have walk : Calls Tryz.prog 4 #[v0, v1, v2] W fun e w' => e = .returned (.bool true) ∧ Below W.heap.size W w' := by
  obtain ⟨a, n0, c0, rfl⟩ := okWide_slice underlying22 (hval 0 22 v0 rfl rfl)
  obtain ⟨b, n1, c1, rfl⟩ := okWide_slice underlying22 (hval 1 22 v1 rfl rfl)
  obtain ⟨f0, hf0⟩ := h0
  obtain ⟨f1, hf1⟩ := h1
  obtain ⟨ls, hls⟩ := lists_of (v := .slice a n0 c0) hf0
  obtain ⟨ms, hms⟩ := lists_of (v := .slice b n1 c1) hf1
  rw [e2]
  refine (cellsProducts_spec (E0 W) rfl (held W) [] _ _ ls ms a0 a1 a2 hls hms W (at_start W)).mono ?_
  rintro e w' ⟨v, g', s', rfl, hat, rfl, rfl, hle⟩
  exact ⟨rfl, at_below hat hle⟩
 refine walk.mono fun e W' ⟨he, bel⟩ => ?_
 subst he
 exact ⟨_, rfl, _, _, _, [], _, [], hW', trodAll_mk1 (shut_bool underlying4 _), (trodAll_cons_mk (Below.trod laidOut (by kernel_rfl) (of_decide_eq_true (by kernel_rfl)) h0 bel lt0) (trodAll_cons_mk (Below.trod laidOut (by kernel_rfl) (of_decide_eq_true (by kernel_rfl)) h1 bel lt1) (trodAll_cons_mk (Below.trod laidOut (by kernel_rfl) (of_decide_eq_true (by kernel_rfl)) h2 bel lt2) trodAll_mk0))), rfl, bel.frame _, fun h => by cases h⟩
theorem over : Rows.cellsProductsRow.holds Tryz.pinned (OpenSpec.ofChange Rows.cellsProductsSpec) :=
 OpenClaim.holds_of_wide 4 f4 rfl rfl rfl rfl rfl rfl rfl ⟨rfl, rfl, rfl, rfl, rfl⟩ rfl rfl rfl rfl rfl (by kernel_rfl) func4 (by kernel_rfl)
  (of_decide_eq_true (by kernel_rfl)) (by unfold Func.isWrapper; first | (rw [if_pos (by decide +kernel)]; kernel_rfl) | (rw [if_neg (by decide +kernel)]; exact ⟨rfl, rfl⟩))
  (fun os started H enc _ => lifted os started H enc)
theorem proved : Rows.CellsProductsSaid := over
#print axioms proved
end Go.Proofs.YtkdibcicncjpdaaGreat.cellsProductsDone
