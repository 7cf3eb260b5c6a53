/-
  'CellsParts': closures, unions and meets of right complexes are right; Euler numbers of two parts, their union and meet add up. No condition.
-/
import Derived.Test.YtkdibcicncjpdaaGreatPa14
import Derived.Test.YtkdibcicncjpdaaGreatPa13
import Derived.Test.YtkdibcicncjpdaaGreatPa08
import Derived.Test.YtkdibcicncjpdaaGreatPa04
import Derived.Test.YtkdibcicncjpdaaGreatPa12
import Derived.Test.YtkdibcicncjpdaaGreatPa09
set_option linter.unusedSimpArgs false
set_option linter.unusedVariables false
namespace Go.Proofs.YtkdibcicncjpdaaGreat
open _root_.Go.Proofs.Tryz _root_.Go.Proofs.YtkdibcicncjpdaaGreat.Tryz
open Go Go.Sy Go.Pl Go.Proofs
structure Fm (tl : List Cl) (c : Cl) : Prop where
 dim : 0 ≤ c.dim ∧ c.dim ≤ 8
 cnt : cntBad c = false
 found : ∀ x ∈ c.sides, ∃ d, findT tl x.cell = some d ∧ d.dim = c.dim - 1
 asc : c.sides.Pairwise fun a b => a.cell < b.cell
 sg : ∀ x ∈ c.sides, x.sign = 1 ∨ x.sign = -1
 one : c.dim = 1 → sumS c.sides = 0
theorem Fm.ok {tl : List Cl} {c : Cl} (h : Fm tl c) : formC tl c = 0 := form_of h.dim h.cnt h.found h.asc h.sg h.one
theorem asc_of {l : List Side} (hs : l.Pairwise fun a b => a.cell ≤ b.cell) (hd : ∀ i x y, l[i]? = some x → l[i + 1]? = some y → x.cell ≠ y.cell) : l.Pairwise fun a b => a.cell < b.cell := by
 induction l with
 | nil => exact List.Pairwise.nil
 | cons a r ih =>
  obtain ⟨h1, h2⟩ := List.pairwise_cons.1 hs
  have hr := ih h2 fun i x y hx hy => hd (i + 1) x y (by simpa using hx) (by simpa using hy)
  refine List.pairwise_cons.2 ⟨fun b hb => ?_, hr⟩
  cases r with
  | nil => simp at hb
  | cons z q =>
   have hz : a.cell < z.cell := by
    have := h1 z (by simp)
    have := hd 0 a z rfl rfl
    omega
   rcases List.mem_cons.1 hb with rfl | hb
   ·exact hz
   ·have := (List.pairwise_cons.1 hr).1 b hb
    omega
theorem fm_of {tl : List Cl} {c : Cl} (h : formC tl c = 0) (hs : c.sides.Pairwise fun a b => a.cell ≤ b.cell) : Fm tl c := by
 unfold formC at h
 split at h
 ·cases h
 ·rename_i h1
  split at h
  ·cases h
  ·rename_i h2
   split at h
   ·cases h
   ·rename_i h3
    split at h
    ·cases h
    ·rename_i h4
     split at h
     ·cases h
     ·rename_i h5
      have hbad : ∀ i x, c.sides[i]? = some x → badSide tl c i x = false := fun i x hx => by
       have hi := (List.getElem?_eq_some_iff.1 hx).1
       have := List.any_eq_false.1 ((Bool.not_eq_true _).mp h3) i (List.mem_range.2 hi)
       unfold badAt at this
       rw [hx] at this
       simpa using this
      refine ⟨?_, by simpa using h2, fun x hx => ?_, asc_of hs fun i x y hx hy e => ?_, fun x hx => ?_, fun hd => ?_⟩
      ·simp [dimBad] at h1; omega
      ·obtain ⟨i, hi, rfl⟩ := List.getElem_of_mem hx
       have := hbad i _ (List.getElem?_eq_getElem hi)
       unfold badSide at this
       simp only [Bool.or_eq_false_iff, Bool.not_eq_false', decide_eq_false_iff_not, ne_eq, Decidable.not_not] at this
       obtain ⟨⟨g1, g2⟩, _⟩ := this
       obtain ⟨d, hd⟩ := Option.isSome_iff_exists.1 g1
       rw [hd] at g2
       exact ⟨d, hd, g2⟩
      ·have := hbad (i + 1) y hy
       unfold badSide at this
       rw [show i + 1 - 1 = i by omega, hx] at this
       simp [e] at this
      ·have := List.any_eq_false.1 ((Bool.not_eq_true _).mp h4) x hx
       simp [signBad] at this
       by_cases h6 : x.sign = 1
       ·exact .inl h6
       ·exact .inr (this h6)
      ·simpa [hd] using h5
structure Rt (l : List Cl) : Prop where
 few : l.length ≤ 4000
 asc : l.Pairwise fun a b => a.id < b.id
 pos : ∀ x ∈ l, 0 < x.id
 form : ∀ x ∈ l, Fm l x
 around : ∀ x ∈ l, x.dim > 1 → aroundC l x = 0
theorem Rt.canon {l : List Cl} (h : Rt l) : canonC l = l := by
 unfold canonC
 rw [(eq_sortBy (key := Cl.id) (h.asc.imp fun h => by omega) (Stab.refl l)).symm]
 have : ∀ c ∈ l, normC c = c := fun c hc => by
  unfold normC
  rw [(eq_sortBy (key := Side.cell) ((h.form c hc).asc.imp fun h => by omega) (Stab.refl c.sides)).symm]
 rw [List.map_congr_left this]
 simp
theorem Rt.tab {l : List Cl} (h : Rt l) : tabC l = l := by rw [tabC_strict (by rw [h.canon]; exact h.asc), h.canon]
theorem Rt.check {l : List Cl} (h : Rt l) : checkC l = (0, 0) := by
 refine check_ok h.few ?_ ?_ ?_ ?_ <;> rw [h.canon]
 ·exact h.pos
 ·exact h.asc
 ·exact fun x hx => (h.form x hx).ok
 ·exact h.around
theorem Rt.find {l : List Cl} (h : Rt l) {c : Cl} (hc : c ∈ l) : findT l c.id = some c := by
 refine find_mem ?_ hc
 rw [List.Nodup, List.pairwise_map]
 exact h.asc.imp fun h => by omega
theorem chk2_none_form {tl : List Cl} : ∀ {l : List Cl}, chk2 tl l = none → ∀ x ∈ l, x.dim > 1 → aroundC tl x = 0
 | [], _, x, hx, _ => by simp at hx
 | y :: r, h, x, hx, hd => by
  unfold chk2 at h
  split at h
  ·cases h
  ·rename_i hn
   rcases List.mem_cons.1 hx with rfl | hx
   ·exact Decidable.of_not_not fun h => hn ⟨hd, h⟩
   ·exact chk2_none_form h x hx hd
theorem chk2_some {tl : List Cl} : ∀ {l : List Cl} {p : Int × Int}, chk2 tl l = some p → p.2 ≠ 0
 | [], _, h => by cases h
 | y :: r, p, h => by
  unfold chk2 at h
  split at h
  ·rename_i hn; cases h; exact hn.2
  ·exact chk2_some h
theorem canon_sides (l : List Cl) : ∀ c ∈ canonC l, c.sides.Pairwise fun a b => a.cell ≤ b.cell := fun c hc => by
 obtain ⟨d, _, rfl⟩ := List.mem_map.1 hc
 exact sortBy_srt d.sides
theorem rt_of {l : List Cl} (h : (checkC l).2 = 0) : Rt (canonC l) := by
 have h1 := check_ne h
 obtain ⟨h2, h3, h4⟩ := chk1_none_form h1
 have ht := tabC_strict h2
 have h5 : l.length ≤ 4000 := check_len h
 refine ⟨by rw [canonC_length]; exact h5, h2, h3, fun x hx => fm_of (by rw [← ht]; exact h4 x hx) (canon_sides l x hx), ?_⟩
 have h6 : chk2 (tabC l) (canonC l) = none := by
  unfold checkC at h
  rw [if_neg oM, h1] at h
  cases hc : chk2 (tabC l) (canonC l) with
  | none => rfl
  | some p =>
   rw [hc] at h
   exact absurd h (chk2_some hc)
 rw [ht] at h6
 exact chk2_none_form h6
theorem perm_sumI {l m : List Int} (h : l.Perm m) : l.sum = m.sum := by
 induction h with
 | nil => rfl
 | cons x _ ih => simp [ih]
 | swap x y l => simp; omega
 | trans _ _ ih1 ih2 => exact ih1.trans ih2
theorem perm_sumN {l m : List Nat} (h : l.Perm m) : l.sum = m.sum := by
 induction h with
 | nil => rfl
 | cons x _ ih => simp [ih]
 | swap x y l => simp; omega
 | trans _ _ ih1 ih2 => exact ih1.trans ih2
theorem sortBy_perm {α : Type} {key : α → Int} (l : List α) : (sortBy key l).Perm l := by
 have hi : ∀ (x : α) (l : List α), (ins key x l).Perm (x :: l) := by
  intro x l
  induction l with
  | nil => exact .refl _
  | cons y r ih =>
   unfold ins
   split
   ·exact .refl _
   ·exact (ih.cons y).trans (.swap x y r)
 induction l with
 | nil => exact .refl _
 | cons x r ih => exact (hi x _).trans (ih.cons x)
def inner (tl : List Cl) (x : Side) (r : Int) : Int := ((sidesOf tl x).map fun q => if q.cell = r then x.sign * q.sign else 0).sum
theorem sumR_inner (tl : List Cl) (l : List Side) (r : Int) : sumR tl l r = (l.map fun x => inner tl x r).sum := by
 unfold sumR
 induction l with
 | nil => rfl
 | cons x q ih => simp only [List.flatMap_cons, List.sum_append, List.map_cons, List.sum_cons, ih]; rfl
theorem sumR_perm {tl : List Cl} {l m : List Side} (h : l.Perm m) (r : Int) : sumR tl l r = sumR tl m r := by
 rw [sumR_inner, sumR_inner]
 exact perm_sumI (h.map _)
theorem cntR_perm {tl : List Cl} {l m : List Side} (h : l.Perm m) (r : Int) : cntR tl l r = cntR tl m r := perm_sumN (h.map _)
def sgn (b : Bool) : Int := if b then -1 else 1
theorem negIf_sgn (b : Bool) {a : Int} (h : a = 1 ∨ a = -1) : negIf b a = sgn b * a ∧ (negIf b a = 1 ∨ negIf b a = -1) := by
 rcases h with rfl | rfl <;> cases b <;> exact ⟨by decide, by decide⟩
theorem sum_const {α : Type} {l : List α} {f g : α → Int} {K : Int} (h : ∀ x ∈ l, f x = K * g x) : (l.map f).sum = K * (l.map g).sum := by
 induction l with
 | nil => simp
 | cons x r ih =>
  simp only [List.map_cons, List.sum_cons]
  rw [h x (by simp), ih fun y hy => h y (by simp [hy]), Int.mul_add]
structure Nm (l : List Cl) (k : Int) : Prop where
 inj : ∀ a ∈ l, ∀ b ∈ l, mixC a.id k = mixC b.id k → a = b
 pos : ∀ a ∈ l, 0 < mixC a.id k
section
variable {l : List Cl} (h : Rt l) {k : Int} (hn : Nm l k) (t : Int)
include h hn
omit hn in
theorem ren_sub (c : Cl) (hc : c ∈ l) {x : Side} (hx : x ∈ c.sides) : ∃ d ∈ l, d.id = x.cell ∧ findT l x.cell = some d ∧ d.dim = c.dim - 1 := by
 obtain ⟨d, hd, hdd⟩ := (h.form c hc).found x hx
 obtain ⟨h1, h2⟩ := findT_mem hd
 exact ⟨d, h1, h2, hd, hdd⟩
theorem ren_ids : ((l.map (renCell k t)).map Cl.id).Nodup := by
 rw [List.map_map, List.Nodup, List.pairwise_map]
 refine List.Pairwise.imp_of_mem ?_ h.asc
 intro a b ha hb hlt e
 have := hn.inj a ha b hb e
 subst this
 omega
theorem ren_nodup : ((canonC (l.map (renCell k t))).map Cl.id).Nodup := by
 have h1 := ren_ids h hn t
 have h2 : ((canonC (l.map (renCell k t))).map Cl.id).Perm ((l.map (renCell k t)).map Cl.id) := by
  rw [canonC_ids]
  exact (sortBy_perm _).map _
 exact h2.symm.nodup h1
omit h hn in
theorem ren_mem {c : Cl} (hc : c ∈ l) : normC (renCell k t c) ∈ canonC (l.map (renCell k t)) :=
 List.mem_map.2 ⟨_, (sortBy_mem _ _).2 (List.mem_map.2 ⟨c, hc, rfl⟩), rfl⟩
omit h hn in
theorem mem_ren {c' : Cl} (hc : c' ∈ canonC (l.map (renCell k t))) : ∃ c ∈ l, c' = normC (renCell k t c) := by
 obtain ⟨d, hd, rfl⟩ := List.mem_map.1 hc
 obtain ⟨c, hc', rfl⟩ := List.mem_map.1 ((sortBy_mem _ _).1 hd)
 exact ⟨c, hc', rfl⟩
theorem ren_find {c : Cl} (hc : c ∈ l) : findT (canonC (l.map (renCell k t))) (mixC c.id k) = some (normC (renCell k t c)) :=
 find_mem (x := normC (renCell k t c)) (ren_nodup h hn t) (ren_mem t hc)
omit h hn in
theorem ren_perm (c : Cl) : (normC (renCell k t c)).sides.Perm (c.sides.map (renSide k t c)) := sortBy_perm _
omit hn in
theorem ren_sign {c : Cl} (hc : c ∈ l) {x : Side} (hx : x ∈ c.sides) : (renSide k t c x).sign = sgn (turn2 t c x.cell) * (sgn (turn1 t c) * x.sign) ∧ ((renSide k t c x).sign = 1 ∨ (renSide k t c x).sign = -1) := by
 have h1 := negIf_sgn (turn1 t c) ((h.form c hc).sg x hx)
 have h2 := negIf_sgn (turn2 t c x.cell) h1.2
 exact ⟨by rw [← h1.1]; exact h2.1, h2.2⟩
theorem ren_form {c : Cl} (hc : c ∈ l) : Fm (canonC (l.map (renCell k t))) (normC (renCell k t c)) := by
 have hf := h.form c hc
 have hlen : (normC (renCell k t c)).sides.length = c.sides.length := by rw [(ren_perm t c).length_eq, List.length_map]
 have hmem : ∀ x', x' ∈ (normC (renCell k t c)).sides ↔ ∃ x ∈ c.sides, renSide k t c x = x' := fun x' => by rw [(ren_perm t c).mem_iff, List.mem_map]
 refine ⟨hf.dim, ?_, fun x' hx' => ?_, ?_, fun x' hx' => ?_, fun hd => ?_⟩
 ·have := hf.cnt
  unfold cntBad at this ⊢
  rw [hlen]
  exact this
 ·obtain ⟨x, hx, rfl⟩ := (hmem x').1 hx'
  obtain ⟨d, hd, hid, _, hdd⟩ := ren_sub h c hc hx
  have := ren_find h hn t hd
  rw [hid] at this
  exact ⟨_, this, hdd⟩
 ·have h1 : (normC (renCell k t c)).sides.Pairwise fun a b => a.cell ≤ b.cell := sortBy_srt _
  have h2 : ((normC (renCell k t c)).sides.map Side.cell).Nodup := by
   refine ((ren_perm t c).map Side.cell).symm.nodup ?_
   rw [List.map_map, List.Nodup, List.pairwise_map]
   refine List.Pairwise.imp_of_mem ?_ hf.asc
   intro a b ha hb hlt e
   obtain ⟨d, hd, hid, _⟩ := ren_sub h c hc ha
   obtain ⟨d', hd', hid', _⟩ := ren_sub h c hc hb
   have e : mixC a.cell k = mixC b.cell k := e
   rw [← hid, ← hid'] at e
   have := hn.inj d hd d' hd' e
   subst this
   omega
  rw [List.Nodup, List.pairwise_map] at h2
  exact (h1.and h2).imp fun ⟨h3, h4⟩ => by omega
 ·obtain ⟨x, hx, rfl⟩ := (hmem x').1 hx'
  exact (ren_sign h t hc hx).2
 ·have hd : c.dim = 1 := hd
  have h1 := hf.one hd
  unfold sumS at h1 ⊢
  rw [perm_sumI ((ren_perm t c).map Side.sign), List.map_map]
  rw [sum_const (g := Side.sign) (K := sgn (turn1 t c)) fun x hx => ?_, h1, Int.mul_zero]
  have h2 := (ren_sign (k := k) h t hc hx).1
  have h3 : turn2 t c x.cell = false := by unfold turn2; simp [hd]
  rw [h3] at h2
  show (renSide k t c x).sign = _
  rw [h2]
  unfold sgn
  simp
theorem ren_hits {c : Cl} (hc : c ∈ l) {x : Side} (hx : x ∈ c.sides) {e : Cl} (he : e ∈ l) : hits (canonC (l.map (renCell k t))) (renSide k t c x) (mixC e.id k) = hits l x e.id := by
 obtain ⟨d, hd, hid, hfd, _⟩ := ren_sub h c hc hx
 unfold hits sidesOf
 rw [hfd, show (renSide k t c x).cell = mixC d.id k by rw [hid]; rfl, ren_find h hn t hd]
 show ((normC (renCell k t d)).sides.filter _).length = _
 rw [((ren_perm t d).filter _).length_eq, List.filter_map, List.length_map]
 congr 1
 refine List.filter_congr fun q hq => ?_
 obtain ⟨u, hu, hui, _⟩ := ren_sub h d hd hq
 show decide (mixC q.cell k = mixC e.id k) = decide (q.cell = e.id)
 rw [decide_eq_decide, ← hui]
 by_cases hue : u = e
 ·subst hue; simp
 ·have h1 : ¬ mixC u.id k = mixC e.id k := fun e' => hue (hn.inj u hu e he e')
  have h2 : ¬ u.id = e.id := fun e' => hue (by have a1 := h.find hu; have a2 := h.find he; rw [e', a2] at a1; injection a1 with a1; exact a1.symm)
  simp [h1, h2]
theorem ren_hits_no {c : Cl} (hc : c ∈ l) {x : Side} (hx : x ∈ c.sides) {r : Int} (hr : ∀ e ∈ l, mixC e.id k ≠ r) : hits (canonC (l.map (renCell k t))) (renSide k t c x) r = 0 := by
 obtain ⟨d, hd, hid, hfd, _⟩ := ren_sub h c hc hx
 unfold hits sidesOf
 rw [show (renSide k t c x).cell = mixC d.id k by rw [hid]; rfl, ren_find h hn t hd]
 show ((normC (renCell k t d)).sides.filter _).length = _
 rw [((ren_perm t d).filter _).length_eq, List.length_eq_zero_iff, List.filter_eq_nil_iff]
 intro q' hq'
 obtain ⟨q, hq, rfl⟩ := List.mem_map.1 hq'
 obtain ⟨u, hu, hui, _⟩ := ren_sub h d hd hq
 have := hr u hu
 rw [hui] at this
 show ¬ decide (mixC q.cell k = r) = true
 simpa using this
theorem ren_inner {c : Cl} (hc : c ∈ l) (hd1 : c.dim > 1) {x : Side} (hx : x ∈ c.sides) {e : Cl} (he : e ∈ l) :
  inner (canonC (l.map (renCell k t))) (renSide k t c x) (mixC e.id k) = sgn (turn1 t c) * sgn ((decide (t > 1) && decide (c.dim - 1 > 1)) && decide (e.id.tmod t = 1)) * inner l x e.id := by
 obtain ⟨d, hd, hid, hfd, hdd⟩ := ren_sub h c hc hx
 have hsx := (ren_sign (k := k) h t hc hx).1
 unfold inner sidesOf
 rw [hfd, show (renSide k t c x).cell = mixC d.id k by rw [hid]; rfl, ren_find h hn t hd]
 show ((normC (renCell k t d)).sides.map _).sum = _
 rw [perm_sumI ((ren_perm t d).map _), List.map_map]
 show _ = _ * (d.sides.map _).sum
 refine sum_const fun q hq => ?_
 obtain ⟨u, hu, hui, _⟩ := ren_sub h d hd hq
 have hsq := (ren_sign (k := k) h t hd hq).1
 simp only [Function.comp_def]
 show (if mixC q.cell k = mixC e.id k then (renSide k t c x).sign * (renSide k t d q).sign else 0) = _
 by_cases hue : u = e
 ·subst hue
  rw [hui, if_pos rfl, if_pos rfl, hsx, hsq]
  have h1 : turn2 t c x.cell = turn1 t d := by
   unfold turn2 turn1
   rw [hid]
   simp [hd1]
  have h2 : turn2 t d q.cell = ((decide (t > 1) && decide (c.dim - 1 > 1)) && decide (q.cell.tmod t = 1)) := by
   unfold turn2
   rw [hdd]
  rw [h1, h2]
  generalize turn1 t d = b1
  generalize turn1 t c = b2
  generalize ((decide (t > 1) && decide (c.dim - 1 > 1)) && decide (q.cell.tmod t = 1)) = b3
  cases b1 <;> cases b2 <;> cases b3 <;> simp [sgn, Int.neg_mul, Int.mul_neg]
 ·have h1 : ¬ mixC q.cell k = mixC e.id k := fun e' => hue (hn.inj u hu e he (by rw [hui]; exact e'))
  have h2 : ¬ q.cell = e.id := fun e' => hue (by have a1 := h.find hu; have a2 := h.find he; rw [hui, e', a2] at a1; injection a1 with a1; exact a1.symm)
  rw [if_neg h1, if_neg h2, Int.mul_zero]
omit h hn in
theorem inner_no {tl : List Cl} {x : Side} {r : Int} (h0 : hits tl x r = 0) : inner tl x r = 0 := by
 unfold hits at h0
 rw [List.length_eq_zero_iff, List.filter_eq_nil_iff] at h0
 unfold inner
 have : ((sidesOf tl x).map fun q => if q.cell = r then x.sign * q.sign else 0) = (sidesOf tl x).map fun _ => (0 : Int) := List.map_congr_left fun q hq => if_neg (by simpa using h0 q hq)
 rw [this]
 generalize sidesOf tl x = m
 induction m with
 | nil => rfl
 | cons a b ih => simpa using ih
theorem ren_around {c : Cl} (hc : c ∈ l) (hd1 : c.dim > 1) : aroundC (canonC (l.map (renCell k t))) (normC (renCell k t c)) = 0 := by
 have hf := h.form c hc
 have hf' := ren_form h hn t hc
 have hn0 : 0 < c.sides.length := by
  have := hf.cnt
  simp [cntBad] at this
  have := this.2 hd1
  omega
 have hlen : (normC (renCell k t c)).sides.length = c.sides.length := by rw [(ren_perm t c).length_eq, List.length_map]
 have nd : ∀ {c : Cl}, (c.sides.Pairwise fun a b => a.cell < b.cell) → (c.sides.map Side.cell).Nodup := fun h => by
  rw [List.Nodup, List.pairwise_map]
  exact h.imp fun h => by omega
 obtain ⟨a1, a2, a3⟩ := (around_iff hn0 (nd hf.asc)).1 (h.around c hc hd1)
 refine (around_iff (by rw [hlen]; exact hn0) (nd hf'.asc)).2 ⟨fun r => ?_, fun r => ?_, fun x' hx' y' hy' => ?_⟩
 ·rw [sumR_perm (ren_perm t c), sumR_inner, List.map_map]
  simp only [Function.comp_def]
  by_cases hr : ∃ e ∈ l, mixC e.id k = r
  ·obtain ⟨e, he, rfl⟩ := hr
   have h1 := a1 e.id
   rw [sumR_inner] at h1
   rw [sum_const (g := fun x => inner l x e.id) (K := sgn (turn1 t c) * sgn ((decide (t > 1) && decide (c.dim - 1 > 1)) && decide (e.id.tmod t = 1))) fun x hx => ren_inner h hn t hc hd1 hx he, h1, Int.mul_zero]
  ·have hr : ∀ e ∈ l, mixC e.id k ≠ r := fun e he e' => hr ⟨e, he, e'⟩
   rw [sum_const (g := fun _ => (0 : Int)) (K := 0) fun x hx => by
    rw [inner_no (ren_hits_no h hn t hc hx hr)]
    rfl, Int.zero_mul]
 ·rw [cntR_perm (ren_perm t c)]
  unfold cntR
  rw [List.map_map]
  simp only [Function.comp_def]
  by_cases hr : ∃ e ∈ l, mixC e.id k = r
  ·obtain ⟨e, he, rfl⟩ := hr
   have h1 := a2 e.id
   unfold cntR at h1
   rw [List.map_congr_left (g := fun x => hits l x e.id) fun x hx => ren_hits h hn t hc hx he]
   exact h1
  ·have hr : ∀ e ∈ l, mixC e.id k ≠ r := fun e he e' => hr ⟨e, he, e'⟩
   left
   rw [List.map_congr_left (g := fun _ => 0) fun x hx => ren_hits_no h hn t hc hx hr]
   generalize c.sides = m
   induction m with
   | nil => rfl
   | cons a b ih => simpa using ih
 ·have hmem : ∀ x', x' ∈ (normC (renCell k t c)).sides ↔ x' ∈ c.sides.map (renSide k t c) := fun x' => (ren_perm t c).mem_iff
  obtain ⟨x, hx, rfl⟩ := List.mem_map.1 ((hmem x').1 hx')
  obtain ⟨y, hy, rfl⟩ := List.mem_map.1 ((hmem y').1 hy')
  have hm : ∀ x ∈ c.sides, renSide k t c x ∈ (normC (renCell k t c)).sides := fun x hx => (hmem _).2 (List.mem_map.2 ⟨x, hx, rfl⟩)
  refine (a3 x hx y hy).map (f := fun a => mixC a k) fun a b => ?_
  rintro ⟨u, hu, v, hv, rfl, rfl, r, h1, h2⟩
  obtain ⟨du, hdu, hidu, hfu, _⟩ := ren_sub h c hc hu
  have hr : ∃ e ∈ l, e.id = r := by
   unfold hits sidesOf at h1
   rw [hfu] at h1
   obtain ⟨q, hq⟩ := List.exists_mem_of_length_pos h1
   obtain ⟨hq1, hq2⟩ := List.mem_filter.1 hq
   obtain ⟨e, he, hei, _⟩ := ren_sub h du hdu (x := q) hq1
   exact ⟨e, he, by rw [hei]; simpa using hq2⟩
  obtain ⟨e, he, rfl⟩ := hr
  exact .one ⟨_, hm u hu, _, hm v hv, rfl, rfl, mixC e.id k, by rw [ren_hits h hn t hc hu he]; exact h1, by rw [ren_hits h hn t hc hv he]; exact h2⟩
theorem ren_right : Rt (canonC (l.map (renCell k t))) := by
 refine ⟨by rw [canonC_length, List.length_map]; exact h.few, ?_, fun x' hx' => ?_, fun x' hx' => ?_, fun x' hx' hd => ?_⟩
 ·have h1 := canonC_sorted (l.map (renCell k t))
  have h2 := ren_nodup h hn t
  rw [List.pairwise_map] at h1
  rw [List.Nodup, List.pairwise_map] at h2
  exact (h1.and h2).imp fun ⟨h3, h4⟩ => by omega
 ·obtain ⟨c, hc, rfl⟩ := mem_ren t hx'
  exact hn.pos c hc
 ·obtain ⟨c, hc, rfl⟩ := mem_ren t hx'
  exact ren_form h hn t hc
 ·obtain ⟨c, hc, rfl⟩ := mem_ren t hx'
  exact ren_around h hn t hc hd
end
set_option maxRecDepth 100000
def Bd (l : List Cl) : Prop := ∀ c ∈ l, c.id ≤ l.length
theorem rt_simp (ls : List (List Int)) : Rt (simpC ls) ∧ Bd (simpC ls) := by
 have h1 := rt_of (l := simpC ls) (by rw [simpC_right])
 have h2 : canonC (simpC ls) = simpC ls := by
  unfold simpC
  cases simpAll [] ls with
  | none => rfl
  | some all => exact canonC_idem _
 rw [h2] at h1
 refine ⟨h1, ?_⟩
 unfold simpC
 cases h : simpAll [] ls with
 | none => intro c hc; simp at hc
 | some all =>
  obtain ⟨hg, _⟩ := simpAll_good ls [] h Good.nil (by simp)
  dsimp only
  rw [hg.cells]
  intro c hc
  obtain ⟨s, hs, rfl⟩ := List.mem_map.1 hc
  have := (List.getElem?_eq_some_iff.1 (hg.get_lb hs)).1
  show ixC all s ≤ _
  unfold ixC
  rw [List.length_map]
  omega
theorem lbI_lt {l : List Int} {x : Int} (h : x ∈ l) : lbI l x < l.length := by
 unfold lbI
 induction l with
 | nil => simp at h
 | cons a r ih =>
  rw [List.filter_cons]
  rcases List.mem_cons.1 h with rfl | h
  ·have := List.length_filter_le (fun y => decide (y < x)) r
   simp
   omega
  ·have := ih h
   split
   ·simp only [List.length_cons]; omega
   ·simp only [List.length_cons]; omega
theorem rt_prod (a b : List Cl) : Rt (refProdC a b) ∧ Bd (refProdC a b) ∧ (refProdC a b).length ≤ a.length * b.length := by
 rw [prod_ref]
 unfold prodC
 split
 ·exact ⟨⟨by simp, List.Pairwise.nil, by simp, by simp, by simp⟩, fun c hc => by simp at hc, by simp⟩
 ·rename_i hbad
  split
  ·rename_i hok
   have hlen : (canonC (prodAll a b)).length = a.length * b.length := by
    rw [canonC_length]
    unfold prodAll
    rw [flatMap_len, canonC_length, canonC_length]
   refine ⟨rt_of hok, fun c hc => ?_, by rw [hlen]; exact Nat.le_refl _⟩
   rw [hlen]
   obtain ⟨h1, h2, _⟩ := prodBad_no (by simpa using hbad)
   have ta := tabC_strict (chk1_none_form (check_ne h1)).1
   have tb := tabC_strict (chk1_none_form (check_ne h2)).1
   obtain ⟨d, hd, rfl⟩ := List.mem_map.1 hc
   have hd := (sortBy_mem _ _).1 hd
   unfold prodAll at hd
   rw [ta, tb] at hd
   obtain ⟨x, hx, hd⟩ := List.mem_flatMap.1 hd
   obtain ⟨y, hy, rfl⟩ := List.mem_map.1 hd
   have l1 := lbI_lt (List.mem_map.2 ⟨x, hx, rfl⟩ : x.id ∈ (canonC a).map Cl.id)
   have l2 := lbI_lt (List.mem_map.2 ⟨y, hy, rfl⟩ : y.id ∈ (canonC b).map Cl.id)
   rw [List.length_map, canonC_length] at l1 l2
   show prodId (canonC a) (canonC b) x.id y.id ≤ _
   unfold prodId
   rw [canonC_length]
   have h3 : (lbI ((canonC a).map Cl.id) x.id + 1) * b.length ≤ a.length * b.length := Nat.mul_le_mul_right _ l1
   rw [Nat.succ_mul] at h3
   have h4 : ((lbI ((canonC a).map Cl.id) x.id * b.length : Nat) : Int) = (lbI ((canonC a).map Cl.id) x.id : Int) * (b.length : Int) := Int.natCast_mul _ _
   rw [← h4]
   omega
  ·exact ⟨⟨by simp, List.Pairwise.nil, by simp, by simp, by simp⟩, fun c hc => by simp at hc, by simp⟩
theorem poly_check : ∀ n, n < 7 → 2 ≤ n → (checkC (polyC n)).2 = 0 ∧ ∀ c ∈ polyC n, c.id ≤ 90 := by decide +kernel
theorem simpAll_two : ∀ (ls acc : List (List Int)) {all : List (List Int)}, simpAll acc ls = some all → (∀ x ∈ ls, x.length ≤ 2) → all.length ≤ acc.length + 3 * ls.length
 | [], acc, all, h, _ => by cases h; simp
 | s :: r, acc, all, h, hl => by
  have hs := hl s (by simp)
  have h3 : (setC s).length ≤ s.length := by
   unfold setC
   exact Nat.le_trans (uniq_length _ _) (by rw [sortI_length]; exact Nat.le_refl _)
  simp only [List.length_cons]
  unfold simpAll at h
  split at h
  ·have := simpAll_two r acc h fun x hx => hl x (by simp [hx])
   omega
  ·split at h
   ·cases h
   ·have h1 := simpAll_two r _ h fun x hx => hl x (by simp [hx])
    have h2 : (addSets acc (setC s)).length ≤ acc.length + 3 := by
     unfold addSets
     refine Nat.le_trans (uniq_length _ _) ?_
     rw [(sortL_perm _).length_eq, List.length_append]
     have : 2 ^ (setC s).length ≤ 2 ^ 2 := Nat.pow_le_pow_right dC oM
     simp [subsetsC]
     omega
    omega
theorem circle_len : (simpC [[0, 1], [1, 2], [0, 2]]).length ≤ 9 := by
 unfold simpC
 cases h : simpAll [] [[0, 1], [1, 2], [0, 2]] with
 | none => simp
 | some all =>
  have := simpAll_two _ _ h dC
  dsimp only
  rw [canonC_length, simpCells_length]
  simpa using this
theorem rt_base (m : Int) (ls : List (List Int)) (y : Int) : Rt (bigC (baseM m ls y)) ∧ ∀ c ∈ bigC (baseM m ls y), c.id ≤ 90 := by
 have key : ∀ l : List Cl, Rt l → (l.length ≤ 45 → ∀ c ∈ l, c.id ≤ 90) → Rt (bigC l) ∧ ∀ c ∈ bigC l, c.id ≤ 90 := by
  intro l h1 h2
  unfold bigC
  split
  ·have h3 := rt_prod (simpC [[0, 1], [1, 2], [0, 2]]) (simpC [[0, 1], [1, 2], [0, 2]])
   refine ⟨h3.1, fun c hc => ?_⟩
   have h4 := h3.2.1 c hc
   have h5 := h3.2.2
   have h6 : torusC.length ≤ 9 * 9 := Nat.le_trans h5 (Nat.mul_le_mul circle_len circle_len)
   have h7 : c.id ≤ torusC.length := h4
   omega
  ·exact ⟨h1, h2 oM⟩
 have hS : ∀ ls, Rt (bigC (simpC ls)) ∧ ∀ c ∈ bigC (simpC ls), c.id ≤ 90 := fun ls => key _ (rt_simp ls).1 fun hl c hc => by have := (rt_simp ls).2 c hc; omega
 have hP : ∀ a b, Rt (bigC (refProdC a b)) ∧ ∀ c ∈ bigC (refProdC a b), c.id ≤ 90 := fun a b => key _ (rt_prod a b).1 fun hl c hc => by have := (rt_prod a b).2.1 c hc; omega
 have h5 := modW_range y 5 dC dC
 unfold baseM
 repeat' split
 ·exact hS _
 ·exact hP _ _
 ·have h6 := poly_check (2 + modW y 5).toNat oM oM
  have h7 := rt_of h6.1
  rw [show canonC (polyC (2 + modW y 5).toNat) = polyC (2 + modW y 5).toNat from canonC_idem _] at h7
  exact key _ h7 fun _ => h6.2
 ·exact hP _ _
 ·exact hS _
 ·exact hS _
theorem mix_inj : ∀ k ∈ [1, 3, 5], ∀ a, a < 91 → ∀ b, b < 91 → mixC (a : Nat) k = mixC (b : Nat) k → a = b := by decide +kernel
theorem mix_pos : ∀ k ∈ [1, 3, 5], ∀ a, a < 91 → 0 < a → 0 < mixC (a : Nat) k := by decide +kernel
theorem made_right (kd : Int) (ls : List (List Int)) (y : Int) : Rt (madeC kd ls y) := by
 obtain ⟨h1, h2⟩ := rt_base (modW kd 8) ls y
 have hk : renK y ∈ [(1 : Int), 3, 5] := by
  have := modW_range (IntKind.i64.wrap (y.tdiv 7)) 3 dC dC
  unfold renK
  generalize modW (IntKind.i64.wrap (y.tdiv 7)) 3 = q at *
  rcases (by omega : q = 0 ∨ q = 1 ∨ q = 2) with rfl | rfl | rfl <;> decide
 refine ren_right h1 ⟨fun a ha b hb e => ?_, fun a ha => ?_⟩ _
 ·have p1 := h1.pos a ha
  have p2 := h1.pos b hb
  have q1 := h2 a ha
  have q2 := h2 b hb
  have e1 : ((a.id.toNat : Nat) : Int) = a.id := Int.toNat_of_nonneg oM
  have e2 : ((b.id.toNat : Nat) : Int) = b.id := Int.toNat_of_nonneg oM
  have := mix_inj _ hk a.id.toNat oM b.id.toNat oM (by rw [e1, e2]; exact e)
  have hid : a.id = b.id := oM
  have f1 := h1.find ha
  have f2 := h1.find hb
  rw [hid, f2] at f1
  injection f1 with f1
  exact f1.symm
 ·have p1 := h1.pos a ha
  have q1 := h2 a ha
  have e1 : ((a.id.toNat : Nat) : Int) = a.id := Int.toNat_of_nonneg oM
  have := mix_pos _ hk a.id.toNat oM oM
  rw [e1] at this
  exact this
def part (l : List Cl) (p : Int → Bool) : List Cl := l.filter fun c => p c.id
def ClosedP (l : List Cl) (p : Int → Bool) : Prop := ∀ c ∈ l, p c.id = true → ∀ x ∈ c.sides, p x.cell = true
theorem part_find {l : List Cl} {p : Int → Bool} {id : Int} (hp : p id = true) : findT (part l p) id = findT l id := by
 unfold findT part
 induction l with
 | nil => rfl
 | cons c r ih =>
  rw [List.filter_cons]
  by_cases hc : c.id = id
  ·rw [if_pos (by rw [hc]; exact hp)]
   simp [hc]
  ·split
   ·simp only [List.find?_cons, hc, decide_false]
    exact ih
   ·simp only [List.find?_cons, hc, decide_false]
    exact ih
theorem part_none {l : List Cl} {p : Int → Bool} {id : Int} (hp : p id = false) : findT (part l p) id = none := by
 unfold findT part
 rw [List.find?_eq_none]
 intro c hc
 have := (List.mem_filter.1 hc).2
 simp
 intro e
 rw [e, hp] at this
 cases this
theorem part_right {l : List Cl} (h : Rt l) {p : Int → Bool} (hp : ClosedP l p) : Rt (part l p) := by
 have hsub : (part l p).Sublist l := List.filter_sublist
 refine ⟨Nat.le_trans hsub.length_le h.few, h.asc.sublist hsub, fun x hx => h.pos x (hsub.subset hx), fun c hc => ?_, fun c hc hd => ?_⟩
 ·obtain ⟨hc1, hc2⟩ := List.mem_filter.1 hc
  have hf := h.form c hc1
  exact ⟨hf.dim, hf.cnt, fun x hx => by rw [part_find (hp c hc1 hc2 x hx)]; exact hf.found x hx, hf.asc, hf.sg, hf.one⟩
 ·obtain ⟨hc1, hc2⟩ := List.mem_filter.1 hc
  rw [← h.around c hc1 hd, aroundC_L, aroundC_L]
  congr 1
  unfold lookL
  refine List.map_congr_left fun x hx => ?_
  unfold sidesOf
  rw [part_find (hp c hc1 hc2 x hx)]
theorem clos_closed {l : List Cl} (h : Rt l) (ids : List Int) : ClosedP l fun k => (closF l ids).contains k := by
 intro c hc hp x hx
 have hm : c.id ∈ closF l ids := by simpa using hp
 obtain ⟨id, hid, hr⟩ := (mem_closF l ids c.id).1 hm
 obtain ⟨d, hd, _⟩ := (h.form c hc).found x hx
 have ha : adjT l c.id = some (c.sides.map Side.cell) := by unfold adjT; rw [h.find hc]; rfl
 have : x.cell ∈ closF l ids := (mem_closF l ids x.cell).2 ⟨id, hid, hr.snoc ha (List.mem_map.2 ⟨x, hx, rfl⟩) (by unfold adjT; rw [hd]; simp)⟩
 simpa using this
theorem perm_canon {l F : List Cl} (hF : Rt F) (hp : l.Perm F) : canonC l = F := by
 have hc := hF.canon
 have hs : sortBy Cl.id l = F := by
  refine (eq_sortBy (hF.asc.imp fun h => by omega) ⟨hp.length_eq.symm, fun k => ?_⟩).symm
  have h1 : (l.filter fun a => a.id == k).Perm (F.filter fun a => a.id == k) := hp.filter _
  have h3 : (F.filter fun a => a.id == k).Pairwise fun a b => a.id < b.id := hF.asc.sublist List.filter_sublist
  have h5 : ∀ a ∈ F.filter (fun a => a.id == k), a.id = k := fun a ha => by simpa using (List.mem_filter.1 ha).2
  generalize F.filter (fun a => a.id == k) = m at *
  match m, h1, h3, h5 with
  | [], h1, _, _ => exact (List.perm_nil.1 h1).symm
  | [a], h1, _, _ => exact (List.perm_singleton.1 h1).symm
  | a :: b :: r, _, h3, h5 =>
   have h4 := (List.pairwise_cons.1 h3).1 b (by simp)
   have h6 := h5 a (by simp)
   have h7 := h5 b (by simp)
   omega
 unfold canonC at hc ⊢
 rw [hs]
 have hs2 : sortBy Cl.id F = F := (eq_sortBy (key := Cl.id) (hF.asc.imp fun h => by omega) (Stab.refl F)).symm
 rw [hs2] at hc
 exact hc
theorem Rt.nodup {l : List Cl} (h : Rt l) : l.Nodup := h.asc.imp fun h e => by subst e; omega
section
variable {l : List Cl} (h : Rt l) {p q : Int → Bool} (hp : ClosedP l p) (hq : ClosedP l q)
include h hp hq
omit h in
theorem closed_or : ClosedP l fun k => p k || q k := fun c hc hpc x hx => by
 have hpc : (p c.id || q c.id) = true := hpc
 show (p x.cell || q x.cell) = true
 rw [Bool.or_eq_true] at hpc ⊢
 rcases hpc with h1 | h1
 ·exact .inl (hp c hc h1 x hx)
 ·exact .inr (hq c hc h1 x hx)
omit h in
theorem closed_and : ClosedP l fun k => p k && q k := fun c hc hpc x hx => by
 have hpc : (p c.id && q c.id) = true := hpc
 show (p x.cell && q x.cell) = true
 rw [Bool.and_eq_true] at hpc ⊢
 exact ⟨hp c hc hpc.1 x hx, hq c hc hpc.2 x hx⟩
theorem part_union : unionC (part l p) (part l q) = (part l fun k => p k || q k, true) := by
 have hcl : (part l q).any (clash (part l p)) = false := by
  rw [List.any_eq_false]
  intro c hc
  obtain ⟨hc1, _⟩ := List.mem_filter.1 hc
  unfold clash
  cases hpc : p c.id with
  | false => rw [part_none hpc]; simp
  | true => rw [part_find hpc, h.find hc1]; simp
 unfold unionC
 rw [hcl]
 refine congrArg (·, true) (perm_canon (part_right h (closed_or hp hq)) ?_)
 have hn := h.nodup
 refine (List.perm_ext_iff_of_nodup ?_ (hn.sublist List.filter_sublist)).2 fun c => ?_
 ·rw [List.nodup_append]
  refine ⟨hn.sublist List.filter_sublist, (hn.sublist List.filter_sublist).sublist List.filter_sublist, fun a ha b hb e => ?_⟩
  subst e
  obtain ⟨ha1, ha2⟩ := List.mem_filter.1 ha
  have := (List.mem_filter.1 hb).2
  unfold isNew at this
  rw [part_find ha2, h.find ha1] at this
  cases this
 ·unfold part
  simp only [List.mem_append, List.mem_filter]
  constructor
  ·rintro (⟨h1, h2⟩ | ⟨⟨h1, h2⟩, _⟩)
   ·exact ⟨h1, by simp [h2]⟩
   ·exact ⟨h1, by simp [h2]⟩
  ·rintro ⟨h1, h2⟩
   cases hpc : p c.id with
   | true => exact .inl ⟨h1, rfl⟩
   | false =>
    refine .inr ⟨⟨h1, by simpa [hpc] using h2⟩, ?_⟩
    unfold isNew
    rw [show findT (List.filter (fun c => p c.id) l) c.id = none from part_none hpc]
    rfl
theorem part_meet : meetC (part l p) (part l q) = part l fun k => p k && q k := by
 unfold meetC
 conv => lhs; unfold part
 rw [List.filter_filter]
 unfold part
 refine List.filter_congr fun c hc => ?_
 show (meetP (part l p) (part l q) c && p c.id) = (p c.id && q c.id)
 cases hpc : p c.id with
 | false => simp
 | true =>
  simp only [Bool.and_true, Bool.true_and]
  have hcp : c ∈ part l p := List.mem_filter.2 ⟨hc, hpc⟩
  have hrp := part_right h hp
  rw [Bool.eq_iff_iff]
  show meetP (part l p) (part l q) c = true ↔ _
  unfold meetP
  rw [List.all_eq_true]
  constructor
  ·intro hall
   have hm : c.id ∈ closF (part l p) [c.id] := (mem_closF _ _ _).2 ⟨c.id, by simp, .refl _ (by unfold adjT; rw [hrp.find hcp]; simp)⟩
   have := hall _ hm
   cases hqc : q c.id with
   | true => rfl
   | false =>
    unfold meetI at this
    rw [part_none hqc] at this
    cases this
  ·intro hqc id hid
   obtain ⟨_, hm, hr⟩ := (mem_closF _ _ _).1 hid
   simp at hm
   subst hm
   have key : ∀ a b, Rch (adjT (part l p)) a b → q a = true → q b = true := by
    intro a b hr
    induction hr with
    | refl _ _ => exact fun h => h
    | step a b _ m hm hb _ ih =>
     intro hqa
     obtain ⟨d, hd, rfl⟩ := adjT_some hm
     obtain ⟨hd1, rfl⟩ := findT_mem hd
     obtain ⟨x, hx, rfl⟩ := List.mem_map.1 hb
     exact ih (hq d (List.mem_filter.1 hd1).1 hqa x hx)
   have hqi := key _ _ hr hqc
   obtain ⟨d, hd⟩ := closF_in hid
   obtain ⟨hd1, hdi⟩ := findT_mem hd
   have hdl := (List.mem_filter.1 hd1).1
   unfold meetI
   rw [hd, part_find hqi, ← hdi, h.find hdl]
   simp
theorem part_euler : eulC (part l fun k => p k || q k) + eulC (part l fun k => p k && q k) = eulC (part l p) + eulC (part l q) := by
 unfold eulC
 rw [(part_right h hp).tab, (part_right h hq).tab, (part_right h (closed_or hp hq)).tab, (part_right h (closed_and hp hq)).tab]
 clear h hp hq
 unfold part
 induction l with
 | nil => rfl
 | cons c r ih =>
  dsimp only at ih ⊢
  simp only [List.filter_cons]
  cases p c.id <;> cases q c.id <;> simp <;> omega
end
theorem part_whole {l : List Cl} (h : Rt l) (p : Int → Bool) : unionC l (part l p) = (l, true) := by
 have hcl : (part l p).any (clash l) = false := by
  rw [List.any_eq_false]
  intro c hc
  obtain ⟨hc1, _⟩ := List.mem_filter.1 hc
  unfold clash
  rw [h.find hc1]
  simp
 have hnew : (part l p).filter (isNew l) = [] := by
  rw [List.filter_eq_nil_iff]
  intro c hc
  obtain ⟨hc1, _⟩ := List.mem_filter.1 hc
  unfold isNew
  rw [h.find hc1]
  simp
 unfold unionC
 rw [hcl, hnew, List.append_nil, h.canon]
 rfl
theorem part_ids {l : List Cl} (h : Rt l) (ids : List Int) : closureC l ids = (part l fun k => (closF l ids).contains k).map Cl.id := by
 unfold closureC
 rw [h.tab]
 have h1 : (closF l ids).Nodup := by
  have : ∀ (q v : List Int), v.Nodup → (q.foldl (fun v id => reachF l (l.length + 1) id v) v).Nodup := by
   intro q
   induction q with
   | nil => intro v hv; exact hv
   | cons y t ih => intro v hv; exact ih _ (by dsimp only; rw [reachF_dfs]; exact dfs_nodup _ _ _ _ hv)
  exact this ids [] (by simp)
 refine strict_unique ?_ ?_ fun x => ?_
 ·have h2 := sortI_sorted (closF l ids)
  have h3 : (sortI (closF l ids)).Nodup := (sortI_perm _).symm.nodup h1
  exact (h2.and h3).imp fun ⟨h4, h5⟩ => by omega
 ·unfold StrictI
  rw [List.pairwise_map]
  exact h.asc.sublist List.filter_sublist
 ·rw [(sortI_perm _).mem_iff, List.mem_map]
  constructor
  ·intro hx
   obtain ⟨c, hc⟩ := closF_in hx
   obtain ⟨h2, rfl⟩ := findT_mem hc
   exact ⟨c, List.mem_filter.2 ⟨h2, by simpa using hx⟩, rfl⟩
  ·rintro ⟨c, hc, rfl⟩
   simpa using (List.mem_filter.1 hc).2
set_option maxHeartbeats 1000000
theorem subP (E : World) (g : PH) (b m : Nat) (sm : List (Int × Value)) (q : Int → Bool) (tl : List Cl) (hb : g b = some (.cells #[.map (some m)] 96 (0, 0))) (hm : Mp g m sm) (hs : SetI sm q) : PredOk E (.func (.func 74) #[] #[pp b 0]) (fun c => q c.id) tl g := by
 intro g s c r hle hmem hc
 refine CallV.mk (cap := [pp b 0]) call74 ?_
 have hb' := hle _ _ hb
 have hm' := hm.mono hle
 refine Ctr.of (args := [rcv r, pp b 0]) func74 rfl ntmps74 (Nat.le_of_ble_eq_true rfl) ?_
 refine SC.seq (SC.region (SL.W (SO.box rfl) ?_))
 rintro _ _ _ ⟨b2, rfl, rfl, rfl⟩
 refine SL.A rfl (SL.nil (ST.thenN (SC.seq (SC.region (SL.K (SQ.load isAgg96 rfl (CellAt.known hb' rfl)) (SL.U (SU.fieldAddr underlying51 rfl sizeOf3 rfl) (SL.K (SQ.load isAgg3 rfl (CellAt.own 0 rfl rfl)) (SL.K (SQ.eq (v' := vb (q c.id)) (SQ.lookup mty96 rfl rfl (MapAt.known hm')) (by rw [← hc.1]; exact hs.get _)) ?_))))))))
 refine SL.A rfl (SL.nil (ST.thenN (SC.ret (ST.drop (s' := s) (.cons _ (.refl _)) ?_))))
 exact ST.ret1 (.inl rfl) results74 rfl ⟨rfl, rfl, rfl⟩
theorem sub_spec (E : World) (g : PH) (s : Own) (v iv : Value) (l : List Cl) (ids : List Int) (hv : Cells g v l) (hf : Fits l) (hi : Ints g iv ids) (hl : ids.length < 1099511627776) :
  Ctr Tryz.prog E 27 #[.agg #[v], iv] g s (fun r g' s' => s = s' ∧ Le g g' ∧ ∃ u, r = .agg #[u] ∧ Cells g' u ((tabC l).filter fun c => (closF (tabC l) ids).contains c.id)) := by
 have hft := tabC_fits hf
 obtain ⟨ip, ic, rfl⟩ := SlA.form hi
 refine Ctr.of (args := [.agg #[v], .slice ip ids.length ic]) func27 rfl ntmps27 (Nat.le_of_ble_eq_true rfl) ?_
 refine SC.seq (SC.region (SL.W (SO.box rfl) ?_))
 rintro _ _ _ ⟨b2, rfl, rfl, rfl⟩
 refine SL.W (SO.alloc zeroValue27) ?_
 rintro _ _ _ ⟨b4, rfl, rfl, rfl⟩
 refine SL.nil (ST.thenN (SC.seq (SC.region (SL.K (SQ.loadVarK 1 isAgg27 sizeOf27 rfl rfl rfl) (SL.W (SO.call call50 rfl (of_spec E g _ v l hv hf)) ?_)))))
 rintro tv g1 _ ⟨rfl, hle1, ht⟩
 refine SL.A rfl (SL.nil (ST.thenN (SC.seq (SC.region (SL.M rfl (SL.M rfl (SL.W (SO.call call72 rfl (closure_spec E g1 _ _ _ (tabC l) ids ht hft (hi.mono hle1) hl)) ?_)))))))
 rintro _ g2 _ ⟨m, rfl, hle2, rfl⟩
 refine SL.W (SO.alloc zeroValue96) ?_
 rintro _ _ _ ⟨b6, rfl, rfl, rfl⟩
 refine SL.on (SO.storeAllK 0 sizeOf96 rfl rfl rfl rfl rfl ⟨rfl, trivial⟩) ?_
 rintro _ _ _ ⟨rfl, rfl⟩
 refine SL.freeze fun g3 hle3 hb6 => ?_
 refine SL.freezeMap fun g4 hle4 hm4 => ?_
 have hle14 := hle2.trans (hle3.trans hle4)
 refine SL.nil (ST.thenN (SC.seq (SC.region (SL.M rfl (SL.U (SU.mkFunc rfl) (SL.W (SO.call call70 rfl (only_spec E g4 _ _ _ (tabC l) _ (ht.mono hle14) (tabC_nodup l) hft (subP E g4 b6 m _ (fun k => (closF (tabC l) ids).contains k) _ (hle4 _ _ hb6) hm4 (setP_set _)))) ?_))))))
 rintro _ g5 _ ⟨rfl, hle5, x, rfl, hx⟩
 obtain ⟨q, d, rfl⟩ := hx.form
 refine SL.on (SO.storeAllK 0 sizeOf27 rfl rfl rfl rfl rfl (by exact ⟨rfl, trivial⟩)) ?_
 rintro _ _ _ ⟨rfl, rfl⟩
 refine SL.nil (ST.thenN (SC.ret ?_))
 exact ST.retCD 0 s (.inl rfl) results27 rfl isAgg27 sizeOf27 rfl rfl (.cons _ (.cons _ (.refl _))) ⟨rfl, hle1.trans (hle14.trans hle5), _, rfl, hx⟩
def fewV (l : List Cl) (n : Int) : Int := if decide ((l.length : Int) > 0) && decide (n.tmod 5 ≠ 0) then (pickC l n).id else n
def fewC (l : List Cl) (ns : List Int) : List Int := (ns.take 6).map (fewV l)
theorem fewC_length (l : List Cl) (ns : List Int) : (fewC l ns).length ≤ 6 := by simp [fewC]; omega
theorem few_spec (E : World) (g : PH) (s : Own) (v iv : Value) (l : List Cl) (ns : List Int) (hv : Cells g v l) (hf : Fits l) (hi : Ints g iv ns) :
  Ctr Tryz.prog E 28 #[.agg #[v], iv] g s (fun r g' s' => s = s' ∧ Le g g' ∧ Ints g' r (fewC l ns)) := by
 obtain ⟨rs, hrs, hall⟩ := hv
 have hrl := hall.length
 have hfl := hf.1
 obtain ⟨p, c, rfl⟩ := hrs.form
 obtain ⟨ip, ic, rfl⟩ := SlA.form hi
 refine Ctr.of (args := [.agg #[.slice p rs.length c], .slice ip ns.length ic]) func28 rfl ntmps28 (Nat.le_of_ble_eq_true rfl) ?_
 refine SC.seq (SC.region (SL.W (SO.box rfl) ?_))
 rintro _ _ _ ⟨b2, rfl, rfl, rfl⟩
 refine SL.A rfl (SL.nil (ST.thenN (SC.seq (SC.region (SL.A rfl (SL.nil (ST.thenN (SC.seq (SC.seq (SC.region (SL.A rfl (SL.nil (ST.thenN (SC.block ?_))))))))))))))
 refine SC.to (g' := g) (s' := pt b2 (.cells #[.slice p rs.length c] 27 (0, 0)) :: s) (fun w hw => hw) ?_
 refine SC.nilRow 3 1 ?_
 refine SC.loop (ι := Value × Nat) (fun i => [(1, .slice ip ns.length ic), (2, pp b2 0), (5, i.1), (6, vi i.2)]) (fun _ => g)
  (fun i => rowA encInt 3 i.1 ((ns.take i.2).map (fewV l)) :: pt b2 (.cells #[.slice p rs.length c] 27 (0, 0)) :: s)
  (fun i => i.2 ≤ ns.length ∧ i.2 ≤ 6) (fun i => ns.length - i.2) (.slice none 0 0, 0) ⟨rfl, rfl, rfl, rfl, trivial⟩ rfl rfl ⟨Nat.zero_le _, Nat.zero_le _⟩ ?_
 rintro ⟨ov, i⟩ ⟨hk, hk6⟩
 dsimp only at hk hk6 ⊢
 have f1 : (i : Int) < (ns.length : Int) → (decide ((i : Int) < (ns.length : Int)) && decide ((i : Int) < 6)) = decide ((i : Int) < 6) := fun h => by simp [h]
 have f2 : ¬ (i : Int) < (ns.length : Int) → (decide ((i : Int) < (ns.length : Int)) && decide ((i : Int) < 6)) = false := fun h => by simp only [h, decide_false, Bool.false_and]
 refine SC.seq ?_
 refine SC.cutB 15 ((decide ((i : Int) < (ns.length : Int)) && decide ((i : Int) < 6))) ?_ ?_
 ·refine SC.region (SL.M rfl (SL.M rfl (SL.U (SU.lenN underlying45 rfl) (SL.U (SU.lss rfl rfl) (SL.M rfl ?_)))))
  refine SL.split ?_ ?_
  ·intro h12
   refine SL.Y rfl rfl rfl (SU.move rfl) (SL.Y rfl rfl rfl (SU.lss rfl rfl) (SL.U (SU.pickT rfl rfl) (SL.nil ?_)))
   exact ST.mid1 (by (rw [f1 h12]; rfl)) mI
  ·intro h12
   refine SL.Z rfl rfl rfl (SL.Z rfl rfl rfl (SL.U (SU.pickF rfl rfl) (SL.nil ?_)))
   exact ST.mid1 (by (rw [f2 h12]; rfl)) mI
 refine SC.ifB rfl (fun hc => ?_) (fun hc => ?_)
 ·rw [Bool.and_eq_true, decide_eq_true_iff, decide_eq_true_iff] at hc
  have hil : i < ns.length := oM
  have hb1 := SlA.based hi oM
  have hgi : ns[((i : Nat) : Int).toNat]? = some ns[i] := List.getElem?_eq_getElem hil
  have hsucc := map_take_succ hil (fewV l)
  generalize ns[i] = n at *
  have f3 : (l.length : Int) > 0 → (decide ((l.length : Int) > 0) && decide (n.tmod 5 ≠ 0)) = decide (n.tmod 5 ≠ 0) := fun h => by simp only [h, decide_true, Bool.true_and]
  have f4 : ¬ (l.length : Int) > 0 → (decide ((l.length : Int) > 0) && decide (n.tmod 5 ≠ 0)) = false := fun h => by simp only [h, decide_false, Bool.false_and]
  rw [← hrl] at *
  refine SC.skip (ST.thenN (SC.seq (SC.block (SC.seq (SC.region (SL.M rfl (SL.M rfl (SL.U (SU.indexAddr underlying45 sizeOf3 rfl rfl hb1 oM sL) (SL.K (SQ.elem1 isAgg3 rfl (SlA.rd hi) hgi rfl) (SL.A rfl (SL.nil (ST.thenN ?_))))))))))))
  refine SC.cut (ι := Unit) (fun _ => [(1, .slice ip ns.length ic), (2, pp b2 0), (5, ov), (6, vi i), (7, vi (fewV l n))]) (fun _ => g) (fun _ => rowA encInt 3 ov ((ns.take i).map (fewV l)) :: pt b2 (.cells #[.slice p l.length c] 27 (0, 0)) :: s) (fun _ => True) ?_ ?_
  ·refine SC.cutB 33 ((decide ((l.length : Int) > 0) && decide (n.tmod 5 ≠ 0))) ?_ ?_
   ·refine SC.region (SL.U (SU.fieldAddr underlying27 rfl sizeOf25 rfl) (SL.K (SQ.load (v := .slice p l.length c) isAgg25 rfl (CellAt.own 1 rfl rfl)) (SL.U (SU.lenN underlying25 rfl) (SL.U (SU.gtr rfl rfl) (SL.M rfl ?_)))))
    refine SL.split ?_ ?_
    ·intro h26
     refine SL.Y rfl rfl rfl (SU.move rfl) (SL.Y rfl rfl rfl (SU.move rfl) (SL.Y rfl rfl rfl (SU.indexAddr underlying45 sizeOf3 rfl rfl hb1 oM sL) (SL.gq (Gd.onT rfl rfl rfl dC) (SQ.elem1 isAgg3 rfl (SlA.rd hi) hgi rfl) dC (SL.Y rfl rfl rfl (SU.rem rfl rfl dC) (SL.Y rfl rfl rfl (SU.neq rfl rfl) (SL.U (SU.pickT rfl rfl) (SL.nil ?_)))))))
     exact ST.mid1 (by (rw [f3 h26]; rfl)) mI
    ·intro h26
     refine SL.Z rfl rfl rfl (SL.Z rfl rfl rfl (SL.Z rfl rfl rfl (SL.Z rfl rfl rfl (SL.Z rfl rfl rfl (SL.Z rfl rfl rfl (SL.U (SU.pickF rfl rfl) (SL.nil ?_)))))))
     exact ST.mid1 (by (rw [f4 h26]; rfl)) mI
   refine SC.ifB rfl (fun hd => ?_) (fun hd => ?_)
   ·have hpos : (l.length : Int) > 0 := by rw [Bool.and_eq_true, decide_eq_true_iff] at hd; exact hd.1
    obtain ⟨hm1, hm2⟩ := modW_nat n l.length oM oM
    have hml : (modW n l.length).toNat < rs.length := by have := hall.length; omega
    have hbv := hrs.based oM
    have hcr := hall.get (List.getElem?_eq_getElem hm2) (List.getElem?_eq_getElem hml)
    have hgr : rs[(modW n (l.length : Nat)).toNat]? = some rs[(modW n l.length).toNat] := List.getElem?_eq_getElem hml
    have hid : rs[(modW n l.length).toNat].id = (pickC l n).id := by
     rw [hcr.1]
     unfold pickC
     rw [List.getD_eq_getElem?_getD, List.getElem?_eq_getElem hm2]
     rfl
    refine SC.draw [] [(0, 2), (1, 1), (2, 2), (3, 2), (4, 2), (5, 1), (6, 2), (7, 1), (8, 2), (9, 0), (10, 2), (11, 2), (12, 1), (13, 2)] Tryz.mixed (by kernel_rfl) ?_
    refine SP.U (i := 0) rfl (SU.fieldAddr underlying27 rfl sizeOf25 rfl) (SP.K (i := 1) rfl (SQ.load (v := .slice p l.length c) isAgg25 rfl (CellAt.own 1 rfl rfl)) (SP.U (i := 2) rfl (SU.move rfl) (SP.U (i := 3) rfl (SU.move rfl) (SP.U (i := 4) rfl (SU.indexAddr underlying45 sizeOf3 rfl rfl hb1 oM sL) (SP.K (i := 5) rfl (SQ.elem1 isAgg3 rfl (SlA.rd hi) hgi rfl) (SP.U (i := 6) rfl (SU.fieldAddr underlying27 rfl sizeOf25 rfl) (SP.K (i := 7) rfl (SQ.load (v := .slice p l.length c) isAgg25 rfl (CellAt.own 1 rfl rfl)) (SP.U (i := 8) rfl (SU.lenN underlying25 rfl) (SP.o (i := 9) rfl (SO.call call38 rfl (mod_spec E g _ n l.length oM)) dC (.inr (by rintro _ _ _ ⟨rfl, rfl, rfl⟩; exact ⟨by exact Le.refl _, (by exact .refl _)⟩)) ?_)))))))))
    rintro _ _ _ ⟨rfl, rfl, rfl⟩
    refine SP.U (i := 10) rfl (SU.indexAddr underlying25 sizeOf51 rfl rfl hbv oM sL) (SP.U (i := 11) rfl (SU.fieldAddrC underlying51 rfl sizeOf3 rfl hbv) (SP.K (i := 12) rfl (SQ.partA (e := encCell) (o := 0) (u := vi (pickC l n).id) isAgg3 rfl hrs.rd hgr (by rw [← hid]; rfl)) ?_))
    refine SP.U (i := 13) rfl (SU.assign rfl) (SP.nil ?_)
    exact ST.mid () ⟨rfl, rfl, rfl, rfl, by unfold fewV; rw [if_pos hd]; rfl, trivial⟩ rfl rfl trivial
   ·refine SC.skip ?_
    exact ST.mid () ⟨rfl, rfl, rfl, rfl, by unfold fewV; rw [if_neg (by rw [hd]; simp)]; rfl, trivial⟩ rfl rfl trivial
  rintro _ -
  try dsimp only
  refine SC.region (SL.M rfl (SL.M rfl (SL.W (SO.buildSlice sty45 rfl rfl rfl (szs_mk (by exact ⟨rfl, trivial⟩)) dC) ?_)))
  rintro _ _ _ ⟨b49, rfl, rfl, rfl⟩
  refine SL.W (SO.app1A (e := encInt) 0 (fewV l n) sty45 rfl rfl rfl rfl rfl (by rw [List.length_map, List.length_take]; omega) (by rw [List.length_map, List.length_take]; omega)) ?_
  rintro ov' _ _ ⟨rfl, rfl⟩
  refine SL.A rfl (SL.nil (ST.blockN (ST.thenN (SC.region (SL.M rfl (SL.U (SU.add rfl rfl oM) (SL.A rfl (SL.nil ?_))))))))
  refine ST.to (fun w hw => ?_) (g' := g) (s' := rowA encInt 3 ov' ((ns.take (i + 1)).map (fewV l)) :: pt b2 (.cells #[.slice p l.length c] 27 (0, 0)) :: s) ?_
  ·rw [hsucc]; exact hw
  exact ST.again (ov', i + 1) ⟨rfl, rfl, rfl, rfl, trivial⟩ rfl (by rw [← hrl]) ⟨lN, lN⟩ lN
 ·have hns : ns.take i = ns.take 6 := by
   rw [Bool.and_eq_false_iff, decide_eq_false_iff_not, decide_eq_false_iff_not] at hc
   by_cases h6 : i = 6
   ·rw [h6]
   ·rw [List.take_of_length_le oM, List.take_of_length_le oM]
  rw [hns]
  refine SC.exit (ST.thenX (ST.thenX (ST.blockX (ST.thenN (SC.seq (SC.region (SL.M rfl (SL.A rfl (SL.nil (ST.thenN (SC.ret (ST.freezeRow fun g2 hle2 hs2 => ?_))))))))))))
  refine ST.drop (s' := s) (.cons _ (.refl _)) ?_
  exact ST.ret1 (.inl rfl) results28 rfl ⟨rfl, hle2, hs2⟩
theorem lawSame_refl (E : World) (g : PH) (s : Own) (v u : Value) (l : List Cl) (hv : Cells g v l) (hu : Cells g u l) (hf : Fits l) :
  Ctr Tryz.prog E 13 #[.agg #[v], .agg #[u]] g s (fun r g' s' => r = vb true ∧ g = g' ∧ s = s') :=
 (lawSame_spec E g s v u l l hv hu hf).mono fun _ _ _ ⟨h1, h2⟩ => ⟨by rw [h1, decide_eq_true rfl], h2⟩
theorem part_fits {l : List Cl} (h : Fits l) (p : Int → Bool) : Fits (part l p) := filter_fits _ h
theorem checkRt_spec (E : World) (g : PH) (s : Own) (v : Value) (l : List Cl) (hv : Cells g v l) (hf : Fits l) (h : Rt l) :
  Ctr Tryz.prog E 12 #[.agg #[v]] g s (fun r g' s' => r = .tuple #[vi 0, vi 0] ∧ g = g' ∧ s = s') :=
 (check_spec E g s v l hv hf).mono fun _ _ _ ⟨h1, h2⟩ => ⟨by rw [h1, h.check], h2⟩
theorem eulP_bound (l : List Cl) : -(l.length : Int) ≤ eulC l ∧ eulC l ≤ l.length := by
 have h : ∀ m : List Cl, -(m.length : Int) ≤ (m.map fun c => if c.dim.tmod 2 = 0 then (1 : Int) else -1).sum ∧ (m.map fun c => if c.dim.tmod 2 = 0 then (1 : Int) else -1).sum ≤ m.length := by
  intro m
  induction m with
  | nil => simp
  | cons c r ih =>
   simp only [List.map_cons, List.sum_cons, List.length_cons]
   split <;> omega
 have h1 := h (tabC l)
 have h2 := tabC_length l
 unfold eulC
 omega
theorem mix_le : ∀ k ∈ [1, 3, 5], ∀ a, a < 91 → mixC (a : Nat) k ≤ 300 := by decide +kernel
theorem made_ids (kd : Int) (ls : List (List Int)) (y : Int) : ∀ c ∈ madeC kd ls y, inI64 c.id := by
 intro c hc
 have h0 := (made_right kd ls y).pos c hc
 obtain ⟨h1, h2⟩ := rt_base (modW kd 8) ls y
 have hk : renK y ∈ [(1 : Int), 3, 5] := by
  have := modW_range (IntKind.i64.wrap (y.tdiv 7)) 3 dC dC
  unfold renK
  generalize modW (IntKind.i64.wrap (y.tdiv 7)) 3 = q at *
  rcases (by omega : q = 0 ∨ q = 1 ∨ q = 2) with rfl | rfl | rfl <;> decide
 obtain ⟨a, ha, rfl⟩ := mem_ren (renT y) hc
 have p1 := h1.pos a ha
 have q1 := h2 a ha
 have e1 : ((a.id.toNat : Nat) : Int) = a.id := Int.toNat_of_nonneg oM
 have := mix_le _ hk a.id.toNat oM
 rw [e1] at this
 have h3 : (normC (renCell (renK y) (renT y) a)).id = mixC a.id (renK y) := rfl
 rw [h3] at h0 ⊢
 unfold inI64
 omega
theorem cellsParts_spec (E : World) (hE : E.drawn = 0) (g : PH) (s : Own) (v iv jv : Value) (kd y : Int) (ls : List (List Int)) (ns ms : List Int) (hv : Lists g v ls) (hi : Ints g iv ns) (hj : Ints g jv ms) :
  Ctr Tryz.prog E 7 #[.agg #[vi kd, v, vi y], iv, jv] g s (fun r g' s' => r = vb true ∧ s = s' ∧ Le g g') := by
 obtain ⟨p, n, c, rfl⟩ : ∃ p n c, v = .slice p n c := by
  obtain ⟨rs0, hrs0, _⟩ := hv
  obtain ⟨p, c, rfl⟩ := SlA.form hrs0
  exact ⟨_, _, _, rfl⟩
 obtain ⟨ip, ic, rfl⟩ := SlA.form hi
 obtain ⟨jp, jc, rfl⟩ := SlA.form hj
 have hM := made_right kd ls y
 have hsm := madeC_small kd ls y
 have hin := made_ids kd ls y
 have hfm := hsm.fits
 have hmade := fun g s v hv => made_spec E g s v kd y ls hv
 generalize madeC kd ls y = M at *
 have hl1 := fewC_length M ns
 have hl2 := fewC_length M ms
 have htab := hM.tab
 have hcan := hM.canon
 obtain ⟨P, hP⟩ : ∃ P : Int → Bool, P = fun k => (closF M (fewC M ns)).contains k := ⟨_, rfl⟩
 obtain ⟨Q, hQ⟩ : ∃ Q : Int → Bool, Q = fun k => (closF M (fewC M ms)).contains k := ⟨_, rfl⟩
 have hcP : ClosedP M P := by rw [hP]; exact clos_closed hM _
 have hcQ : ClosedP M Q := by rw [hQ]; exact clos_closed hM _
 have hids : closureC M (fewC M ns) = (part M P).map Cl.id := by rw [hP]; exact part_ids hM _
 have hsubA := fun g s v iv hv hi => sub_spec E g s v iv M (fewC M ns) hv hfm hi oM
 have hsubB := fun g s v iv hv hi => sub_spec E g s v iv M (fewC M ms) hv hfm hi oM
 rw [htab] at hsubA hsubB
 have eA : (M.filter fun c => (closF M (fewC M ns)).contains c.id) = part M P := by rw [hP]; rfl
 have eB : (M.filter fun c => (closF M (fewC M ms)).contains c.id) = part M Q := by rw [hQ]; rfl
 rw [eA] at hsubA
 rw [eB] at hsubB
 have hcl := fun g s v iv hv hi => closureTop E hE g s v iv M (fewC M ns) hv hfm hi oM hin
 rw [hids] at hcl
 clear hP hQ eA eB
 have hrA := part_right hM hcP
 have hrB := part_right hM hcQ
 have hrU := part_right hM (closed_or hcP hcQ)
 have hrV := part_right hM (closed_and hcP hcQ)
 have hfA := part_fits hfm P
 have hfB := part_fits hfm Q
 have hfU := part_fits hfm (fun k => P k || Q k)
 have hfV := part_fits hfm (fun k => P k && Q k)
 have hmul := hM.few
 have hal : (part M P).length ≤ M.length := List.length_filter_le _ _
 have hbl : (part M Q).length ≤ M.length := List.length_filter_le _ _
 have hun := fun g s v u hv hu => union_spec E g s v u (part M P) (part M Q) hv hu hfA hfB oM
 rw [hrA.tab, hrB.tab, part_union hM hcP hcQ] at hun
 have hme := fun g s v u hv hu => meet_spec E g s v u (part M P) (part M Q) hv hu hfA hfB
 rw [hrA.tab, hrB.tab, part_meet hM hcP hcQ] at hme
 have hwh := fun g s v u hv hu => union_spec E g s v u M (part M P) hv hu hfm hfA oM
 rw [htab, hrA.tab, part_whole hM P] at hwh
 dsimp only at hun hwh
 have hca := fun g s v hv => canon_spec E g s v M hv hfm
 rw [hcan] at hca
 have heu := part_euler hM hcP hcQ
 refine Ctr.of (args := [.agg #[vi kd, .slice p n c, vi y], .slice ip ns.length ic, .slice jp ms.length jc]) func7 rfl ntmps7 (Nat.le_of_ble_eq_true rfl) ?_
 refine SC.seq (SC.region (SL.W (SO.box rfl) ?_))
 rintro _ _ _ ⟨b3, rfl, rfl, rfl⟩
 refine SL.A rfl (SL.nil (ST.thenN (SC.seq (SC.region (SL.W (SO.call call9 rfl (sanity_spec E hE g _)) ?_)))))
 rintro _ g1 _ ⟨rfl, rfl, hle1⟩
 refine SL.A rfl (SL.nil (ST.thenN (SC.seq (SC.region (SL.K (SQ.loadVarK 0 isAgg40 sizeOf40 rfl rfl rfl) (SL.W (SO.call call20 rfl (hmade g1 _ _ (hv.mono hle1))) ?_))))))
 rintro _ g2 _ ⟨rfl, hle2, xm, rfl, hxm⟩
 obtain ⟨qm, dm, rfl⟩ := hxm.form
 have hle12 := hle1.trans hle2
 refine SL.W (SO.alloc zeroValue27) ?_
 rintro _ _ _ ⟨b8, rfl, rfl, rfl⟩
 refine SL.on (SO.storeAllK 0 sizeOf27 rfl rfl rfl rfl rfl (by exact ⟨rfl, trivial⟩)) ?_
 rintro _ _ _ ⟨rfl, rfl⟩
 refine SL.nil (ST.thenN ?_)
 refine SC.cut (ι := Nat × Value × PH) (fun i => [(1, .slice ip ns.length ic), (2, .slice jp ms.length jc), (3, pp b3 0), (7, vb true), (8, pp b8 0), (9, pp i.1 0)]) (fun i => i.2.2) (fun i => pt i.1 (.cells #[i.2.1] 27 (0, 0)) :: pt b8 (.cells #[.slice qm M.length dm] 27 (0, 0)) :: pt b3 (.cells #[vi kd, .slice p n c, vi y] 40 (0, 0)) :: s) (fun i => Le g2 i.2.2 ∧ Cells i.2.2 i.2.1 (part M P)) ?_ ?_
 ·refine SC.drawX [] Tryz.mixed (by kernel_rfl) ?_
  refine SX.q (i := 0) rfl (by kernel_rfl) (SQ.loadVarK 0 isAgg27 sizeOf27 rfl rfl rfl) dC (SX.q (i := 1) rfl (by kernel_rfl) (SQ.loadVarK 0 isAgg27 sizeOf27 rfl rfl rfl) dC (SX.u (i := 2) rfl (by kernel_rfl) (SU.move rfl) dC ?_))
  refine SX.br2 3 5 (by kernel_rfl) ?_ ?_
  ·refine SB.o (i := 3) rfl (SO.call call28 rfl (few_spec E g2 _ _ _ M ns hxm hfm (SlA.mono hi hle12))) dC (.inr (by rintro v35 g3 _ ⟨rfl, hle3, hi3⟩; exact ⟨by assumption, (by exact .refl _)⟩)) ?_
   rintro v35 g3 _ ⟨rfl, hle3, hi3⟩
   obtain ⟨q35, d35, rfl⟩ := SlA.form hi3
   refine SX.br2 4 5 (by kernel_rfl) ?_ ?_
   ·refine SB.o (i := 4) rfl (SO.call call27 rfl (hsubA g3 _ _ _ (hxm.mono hle3) hi3)) dC (.inr (by rintro _ g4 _ ⟨rfl, hle4, xa, rfl, hxa⟩; exact ⟨by exact Le.trans (by assumption) (by assumption), (by exact .refl _)⟩)) ?_
    rintro _ g4 _ ⟨rfl, hle4, xa, rfl, hxa⟩
    obtain ⟨qa, da, rfl⟩ := hxa.form
    refine SX.br1 5 (by kernel_rfl) ?_
    ·refine SB.o (i := 5) rfl (SO.alloc zeroValue27) dC (.inr (by rintro _ _ _ ⟨b9, rfl, rfl, rfl⟩; exact ⟨by exact Le.trans (by assumption) (by assumption), (by exact .cons _ (.refl _))⟩)) ?_
     rintro _ _ _ ⟨b9, rfl, rfl, rfl⟩
     refine SX.br1 6 (by kernel_rfl) ?_
     ·refine SB.on (i := 6) rfl (SO.storeAllK 0 sizeOf27 rfl rfl rfl rfl rfl (by exact ⟨rfl, trivial⟩)) (.inr (by rintro _ _ _ ⟨rfl, rfl⟩; exact ⟨by exact Le.trans (by assumption) (by assumption), (by exact .cons _ (.refl _))⟩)) ?_
      rintro _ _ _ ⟨rfl, rfl⟩
      refine SX.nil (by kernel_rfl) ?_
      exact ST.mid (b9, _, g4) ⟨rfl, rfl, rfl, rfl, rfl, rfl, trivial⟩ rfl rfl ⟨hle3.trans hle4, hxa⟩
   ·refine SB.o (i := 5) rfl (SO.alloc zeroValue27) dC (.inr (by rintro _ _ _ ⟨b9, rfl, rfl, rfl⟩; exact ⟨by assumption, (by exact .cons _ (.refl _))⟩)) ?_
    rintro _ _ _ ⟨b9, rfl, rfl, rfl⟩
    refine SX.br1 4 (by kernel_rfl) ?_
    ·refine SB.o (i := 4) rfl (SO.call call27 rfl (hsubA g3 _ _ _ (hxm.mono hle3) hi3)) dC (.inr (by rintro _ g4 _ ⟨rfl, hle4, xa, rfl, hxa⟩; exact ⟨by exact Le.trans (by assumption) (by assumption), (by exact .cons _ (.refl _))⟩)) ?_
     rintro _ g4 _ ⟨rfl, hle4, xa, rfl, hxa⟩
     obtain ⟨qa, da, rfl⟩ := hxa.form
     refine SX.br1 6 (by kernel_rfl) ?_
     ·refine SB.on (i := 6) rfl (SO.storeAllK 0 sizeOf27 rfl rfl rfl rfl rfl (by exact ⟨rfl, trivial⟩)) (.inr (by rintro _ _ _ ⟨rfl, rfl⟩; exact ⟨by exact Le.trans (by assumption) (by assumption), (by exact .cons _ (.refl _))⟩)) ?_
      rintro _ _ _ ⟨rfl, rfl⟩
      refine SX.nil (by kernel_rfl) ?_
      exact ST.mid (b9, _, g4) ⟨rfl, rfl, rfl, rfl, rfl, rfl, trivial⟩ rfl rfl ⟨hle3.trans hle4, hxa⟩
  ·refine SB.o (i := 5) rfl (SO.alloc zeroValue27) dC (.inr (by rintro _ _ _ ⟨b9, rfl, rfl, rfl⟩; exact ⟨by exact Le.refl _, (by exact .cons _ (.refl _))⟩)) ?_
   rintro _ _ _ ⟨b9, rfl, rfl, rfl⟩
   refine SX.br1 3 (by kernel_rfl) ?_
   ·refine SB.o (i := 3) rfl (SO.call call28 rfl (few_spec E g2 _ _ _ M ns hxm hfm (SlA.mono hi hle12))) dC (.inr (by rintro v35 g3 _ ⟨rfl, hle3, hi3⟩; exact ⟨by assumption, (by exact .cons _ (.refl _))⟩)) ?_
    rintro v35 g3 _ ⟨rfl, hle3, hi3⟩
    obtain ⟨q35, d35, rfl⟩ := SlA.form hi3
    refine SX.br1 4 (by kernel_rfl) ?_
    ·refine SB.o (i := 4) rfl (SO.call call27 rfl (hsubA g3 _ _ _ (hxm.mono hle3) hi3)) dC (.inr (by rintro _ g4 _ ⟨rfl, hle4, xa, rfl, hxa⟩; exact ⟨by exact Le.trans (by assumption) (by assumption), (by exact .cons _ (.refl _))⟩)) ?_
     rintro _ g4 _ ⟨rfl, hle4, xa, rfl, hxa⟩
     obtain ⟨qa, da, rfl⟩ := hxa.form
     refine SX.br1 6 (by kernel_rfl) ?_
     ·refine SB.on (i := 6) rfl (SO.storeAllK 0 sizeOf27 rfl rfl rfl rfl rfl (by exact ⟨rfl, trivial⟩)) (.inr (by rintro _ _ _ ⟨rfl, rfl⟩; exact ⟨by exact Le.trans (by assumption) (by assumption), (by exact .cons _ (.refl _))⟩)) ?_
      rintro _ _ _ ⟨rfl, rfl⟩
      refine SX.nil (by kernel_rfl) ?_
      exact ST.mid (b9, _, g4) ⟨rfl, rfl, rfl, rfl, rfl, rfl, trivial⟩ rfl rfl ⟨hle3.trans hle4, hxa⟩
 rintro ⟨b9, xa, g4⟩ ⟨hle24, hxa⟩
 dsimp only at hle24 hxa ⊢
 obtain ⟨qa, da, rfl⟩ := hxa.form
 have hxm4 := hxm.mono hle24
 have hle14 := hle12.trans hle24
 refine SC.cut (ι := Nat × Value × PH) (fun i => [(1, .slice ip ns.length ic), (2, .slice jp ms.length jc), (3, pp b3 0), (7, vb true), (8, pp b8 0), (9, pp b9 0), (10, pp i.1 0)]) (fun i => i.2.2) (fun i => pt i.1 (.cells #[i.2.1] 27 (0, 0)) :: pt b9 (.cells #[.slice qa (part M P).length da] 27 (0, 0)) :: pt b8 (.cells #[.slice qm M.length dm] 27 (0, 0)) :: pt b3 (.cells #[vi kd, .slice p n c, vi y] 40 (0, 0)) :: s) (fun i => Le g4 i.2.2 ∧ Cells i.2.2 i.2.1 (part M Q)) ?_ ?_
 ·refine SC.drawX [] Tryz.mixed (by kernel_rfl) ?_
  refine SX.q (i := 0) rfl (by kernel_rfl) (SQ.loadVarK 1 isAgg27 sizeOf27 rfl rfl rfl) dC (SX.q (i := 1) rfl (by kernel_rfl) (SQ.loadVarK 1 isAgg27 sizeOf27 rfl rfl rfl) dC (SX.u (i := 2) rfl (by kernel_rfl) (SU.move rfl) dC ?_))
  refine SX.br2 3 5 (by kernel_rfl) ?_ ?_
  ·refine SB.o (i := 3) rfl (SO.call call28 rfl (few_spec E g4 _ _ _ M ms hxm4 hfm (SlA.mono hj hle14))) dC (.inr (by rintro v40 g5 _ ⟨rfl, hle5, hi5⟩; exact ⟨by assumption, (by exact .refl _)⟩)) ?_
   rintro v40 g5 _ ⟨rfl, hle5, hi5⟩
   obtain ⟨q40, d40, rfl⟩ := SlA.form hi5
   refine SX.br2 4 5 (by kernel_rfl) ?_ ?_
   ·refine SB.o (i := 4) rfl (SO.call call27 rfl (hsubB g5 _ _ _ (hxm4.mono hle5) hi5)) dC (.inr (by rintro _ g6 _ ⟨rfl, hle6, xb, rfl, hxb⟩; exact ⟨by exact Le.trans (by assumption) (by assumption), (by exact .refl _)⟩)) ?_
    rintro _ g6 _ ⟨rfl, hle6, xb, rfl, hxb⟩
    obtain ⟨qb, db, rfl⟩ := hxb.form
    refine SX.br1 5 (by kernel_rfl) ?_
    ·refine SB.o (i := 5) rfl (SO.alloc zeroValue27) dC (.inr (by rintro _ _ _ ⟨b10, rfl, rfl, rfl⟩; exact ⟨by exact Le.trans (by assumption) (by assumption), (by exact .cons _ (.refl _))⟩)) ?_
     rintro _ _ _ ⟨b10, rfl, rfl, rfl⟩
     refine SX.br1 6 (by kernel_rfl) ?_
     ·refine SB.on (i := 6) rfl (SO.storeAllK 0 sizeOf27 rfl rfl rfl rfl rfl (by exact ⟨rfl, trivial⟩)) (.inr (by rintro _ _ _ ⟨rfl, rfl⟩; exact ⟨by exact Le.trans (by assumption) (by assumption), (by exact .cons _ (.refl _))⟩)) ?_
      rintro _ _ _ ⟨rfl, rfl⟩
      refine SX.nil (by kernel_rfl) ?_
      exact ST.mid (b10, _, g6) ⟨rfl, rfl, rfl, rfl, rfl, rfl, rfl, trivial⟩ rfl rfl ⟨hle5.trans hle6, hxb⟩
   ·refine SB.o (i := 5) rfl (SO.alloc zeroValue27) dC (.inr (by rintro _ _ _ ⟨b10, rfl, rfl, rfl⟩; exact ⟨by assumption, (by exact .cons _ (.refl _))⟩)) ?_
    rintro _ _ _ ⟨b10, rfl, rfl, rfl⟩
    refine SX.br1 4 (by kernel_rfl) ?_
    ·refine SB.o (i := 4) rfl (SO.call call27 rfl (hsubB g5 _ _ _ (hxm4.mono hle5) hi5)) dC (.inr (by rintro _ g6 _ ⟨rfl, hle6, xb, rfl, hxb⟩; exact ⟨by exact Le.trans (by assumption) (by assumption), (by exact .cons _ (.refl _))⟩)) ?_
     rintro _ g6 _ ⟨rfl, hle6, xb, rfl, hxb⟩
     obtain ⟨qb, db, rfl⟩ := hxb.form
     refine SX.br1 6 (by kernel_rfl) ?_
     ·refine SB.on (i := 6) rfl (SO.storeAllK 0 sizeOf27 rfl rfl rfl rfl rfl (by exact ⟨rfl, trivial⟩)) (.inr (by rintro _ _ _ ⟨rfl, rfl⟩; exact ⟨by exact Le.trans (by assumption) (by assumption), (by exact .cons _ (.refl _))⟩)) ?_
      rintro _ _ _ ⟨rfl, rfl⟩
      refine SX.nil (by kernel_rfl) ?_
      exact ST.mid (b10, _, g6) ⟨rfl, rfl, rfl, rfl, rfl, rfl, rfl, trivial⟩ rfl rfl ⟨hle5.trans hle6, hxb⟩
  ·refine SB.o (i := 5) rfl (SO.alloc zeroValue27) dC (.inr (by rintro _ _ _ ⟨b10, rfl, rfl, rfl⟩; exact ⟨by exact Le.refl _, (by exact .cons _ (.refl _))⟩)) ?_
   rintro _ _ _ ⟨b10, rfl, rfl, rfl⟩
   refine SX.br1 3 (by kernel_rfl) ?_
   ·refine SB.o (i := 3) rfl (SO.call call28 rfl (few_spec E g4 _ _ _ M ms hxm4 hfm (SlA.mono hj hle14))) dC (.inr (by rintro v40 g5 _ ⟨rfl, hle5, hi5⟩; exact ⟨by assumption, (by exact .cons _ (.refl _))⟩)) ?_
    rintro v40 g5 _ ⟨rfl, hle5, hi5⟩
    obtain ⟨q40, d40, rfl⟩ := SlA.form hi5
    refine SX.br1 4 (by kernel_rfl) ?_
    ·refine SB.o (i := 4) rfl (SO.call call27 rfl (hsubB g5 _ _ _ (hxm4.mono hle5) hi5)) dC (.inr (by rintro _ g6 _ ⟨rfl, hle6, xb, rfl, hxb⟩; exact ⟨by exact Le.trans (by assumption) (by assumption), (by exact .cons _ (.refl _))⟩)) ?_
     rintro _ g6 _ ⟨rfl, hle6, xb, rfl, hxb⟩
     obtain ⟨qb, db, rfl⟩ := hxb.form
     refine SX.br1 6 (by kernel_rfl) ?_
     ·refine SB.on (i := 6) rfl (SO.storeAllK 0 sizeOf27 rfl rfl rfl rfl rfl (by exact ⟨rfl, trivial⟩)) (.inr (by rintro _ _ _ ⟨rfl, rfl⟩; exact ⟨by exact Le.trans (by assumption) (by assumption), (by exact .cons _ (.refl _))⟩)) ?_
      rintro _ _ _ ⟨rfl, rfl⟩
      refine SX.nil (by kernel_rfl) ?_
      exact ST.mid (b10, _, g6) ⟨rfl, rfl, rfl, rfl, rfl, rfl, rfl, trivial⟩ rfl rfl ⟨hle5.trans hle6, hxb⟩
 rintro ⟨b10, xb, g6⟩ ⟨hle46, hxb⟩
 dsimp only at hle46 hxb ⊢
 obtain ⟨qb, db, rfl⟩ := hxb.form
 have hxm6 := hxm4.mono hle46
 have hxa6 := hxa.mono hle46
 have hle16 := hle14.trans hle46
 refine SC.seq (SC.region (SL.K (SQ.loadVarK 1 isAgg27 sizeOf27 rfl rfl rfl) (SL.K (SQ.loadVarK 0 isAgg27 sizeOf27 rfl rfl rfl) (SL.W (SO.call call23 rfl (hun g6 _ _ _ hxa6 hxb)) ?_))))
 rintro _ g7 _ ⟨rfl, hle7, xu, rfl, hxu⟩
 obtain ⟨qu, du, rfl⟩ := hxu.form
 have hxm7 := hxm6.mono hle7
 have hxa7 := hxa6.mono hle7
 have hxb7 := hxb.mono hle7
 refine SL.M rfl (SL.U (SU.extract rfl rfl) (SL.U (SU.extract rfl rfl) (SL.W (SO.alloc zeroValue27) ?_)))
 rintro _ _ _ ⟨b11, rfl, rfl, rfl⟩
 refine SL.on (SO.storeAllK 0 sizeOf27 rfl rfl rfl rfl rfl (by exact ⟨rfl, trivial⟩)) ?_
 rintro _ _ _ ⟨rfl, rfl⟩
 refine SL.A rfl (SL.nil (ST.thenN (SC.seq (SC.region (SL.K (SQ.loadVarK 2 isAgg27 sizeOf27 rfl rfl rfl) (SL.K (SQ.loadVarK 1 isAgg27 sizeOf27 rfl rfl rfl) (SL.W (SO.call call25 rfl (hme g7 _ _ _ hxa7 hxb7)) ?_)))))))
 rintro _ g8 _ ⟨rfl, hle8, xv, rfl, hxv⟩
 obtain ⟨qv, dv, rfl⟩ := hxv.form
 have hxm8 := hxm7.mono hle8
 have hxa8 := hxa7.mono hle8
 have hxb8 := hxb7.mono hle8
 have hxu8 := hxu.mono hle8
 refine SL.W (SO.alloc zeroValue27) ?_
 rintro _ _ _ ⟨b13, rfl, rfl, rfl⟩
 refine SL.on (SO.storeAllK 0 sizeOf27 rfl rfl rfl rfl rfl (by exact ⟨rfl, trivial⟩)) ?_
 rintro _ _ _ ⟨rfl, rfl⟩
 refine SL.nil (ST.thenN (SC.seq (SC.region (SL.K (SQ.loadVarK 4 isAgg27 sizeOf27 rfl rfl rfl) (SL.K (SQ.loadVarK 3 isAgg27 sizeOf27 rfl rfl rfl) (SL.W (SO.call call23 rfl (hwh g8 _ _ _ hxm8 hxa8)) ?_))))))
 rintro _ g9 _ ⟨rfl, hle9, xw, rfl, hxw⟩
 obtain ⟨qw, dw, rfl⟩ := hxw.form
 have hxm9 := hxm8.mono hle9
 have hxa9 := hxa8.mono hle9
 have hxb9 := hxb8.mono hle9
 have hxu9 := hxu8.mono hle9
 have hxv9 := hxv.mono hle9
 have hle69 := hle7.trans (hle8.trans hle9)
 have hle19 := hle16.trans hle69
 refine SL.M rfl (SL.U (SU.extract rfl rfl) (SL.U (SU.extract rfl rfl) (SL.W (SO.alloc zeroValue27) ?_)))
 rintro _ _ _ ⟨b14, rfl, rfl, rfl⟩
 refine SL.on (SO.storeAllK 0 sizeOf27 rfl rfl rfl rfl rfl (by exact ⟨rfl, trivial⟩)) ?_
 rintro _ _ _ ⟨rfl, rfl⟩
 refine SL.A rfl (SL.nil (ST.thenN (SC.seq ?_)))
 refine SC.draw [] [(0, 1), (1, 1), (2, 2), (3, 0), (4, 0), (5, 2)] Tryz.mixed (by kernel_rfl) ?_
 refine SP.K (i := 0) rfl (SQ.loadVarK 5 isAgg27 sizeOf27 rfl rfl rfl) (SP.K (i := 1) rfl (SQ.loadVarK 5 isAgg27 sizeOf27 rfl rfl rfl) (SP.U (i := 2) rfl (SU.move rfl) (SP.o (i := 3) rfl (SO.call call28 rfl (few_spec E g9 _ _ _ M ns hxm9 hfm (SlA.mono hi hle19))) dC (.inr (by rintro v60 g10 _ ⟨rfl, hle10, hi10⟩; exact ⟨by assumption, (by exact .refl _)⟩)) ?_)))
 rintro v60 g10 _ ⟨rfl, hle10, hi10⟩
 obtain ⟨q60, d60, rfl⟩ := SlA.form hi10
 refine SP.o (i := 4) rfl (SO.call call29 rfl (hcl g10 _ _ _ (hxm9.mono hle10) hi10)) dC (.inr (by rintro v61 g11 _ ⟨rfl, hle11, hi11⟩; exact ⟨by exact Le.trans (by assumption) (by assumption), (by exact .refl _)⟩)) ?_
 rintro v61 g11 _ ⟨rfl, hle11, hi11⟩
 obtain ⟨q61, d61, rfl⟩ := SlA.form hi11
 have hle911 := hle10.trans hle11
 refine SP.U (i := 5) rfl (SU.assign rfl) (SP.nil (ST.thenN (SC.seq (SC.seq ?_))))
 refine SC.draw [] [(0, 2), (1, 2), (2, 2), (3, 2), (4, 2), (5, 2), (6, 2), (7, 1), (8, 1), (9, 0), (10, 0), (11, 2), (12, 2), (13, 2), (14, 2), (15, 1), (16, 2), (17, 2), (18, 2), (19, 2), (20, 2)] Tryz.mixed (by kernel_rfl) ?_
 refine SP.U (i := 0) rfl (SU.move rfl) (SP.U (i := 1) rfl (SU.not rfl) (SP.U (i := 2) rfl (SU.move rfl) (SP.gu (i := 3) rfl (Gd.onT rfl rfl rfl dC) (SU.move rfl) dC (SP.gu (i := 4) rfl (Gd.onT rfl rfl rfl dC) (SU.not rfl) dC (SP.U (i := 5) rfl (SU.pickF rfl rfl) (SP.U (i := 6) rfl (SU.move rfl) (SP.gq (i := 7) rfl (Gd.onT rfl rfl rfl dC) (SQ.loadVarK 0 isAgg27 sizeOf27 rfl rfl rfl) dC (SP.gq (i := 8) rfl (Gd.onT rfl rfl rfl dC) (SQ.loadVarK 5 isAgg27 sizeOf27 rfl rfl rfl) dC (SP.go (i := 9) rfl (Gd.onT rfl rfl rfl dC) (SO.call call30 rfl (hca g11 _ _ (hxm9.mono hle911))) dC (.inr (by rintro _ g12 _ ⟨rfl, hle12', xc, rfl, hxc⟩; exact ⟨by assumption, (by exact .refl _)⟩)) ?_)))))))))
 rintro _ g12 _ ⟨rfl, hle12', xc, rfl, hxc⟩
 obtain ⟨qc, dc, rfl⟩ := hxc.form
 refine SP.go (i := 10) rfl (Gd.onT rfl rfl rfl dC) (SO.call call13 rfl (lawSame_refl E g12 _ _ _ _ ((hxw.mono hle911).mono hle12') hxc hfm)) dC (.inr (by rintro _ _ _ ⟨rfl, rfl, rfl⟩; exact ⟨by assumption, (by exact .refl _)⟩)) ?_
 rintro _ _ _ ⟨rfl, rfl, rfl⟩
 refine SP.gu (i := 11) rfl (Gd.onT rfl rfl rfl dC) (SU.not rfl) dC (SP.U (i := 12) rfl (SU.pickF rfl rfl) (SP.U (i := 13) rfl (SU.move rfl) (SP.gu (i := 14) rfl (Gd.onT rfl rfl rfl dC) (SU.fieldAddr underlying27 rfl sizeOf25 rfl) dC (SP.gq (i := 15) rfl (Gd.onT rfl rfl rfl dC) (SQ.load (v := .slice qa (part M P).length da) isAgg25 rfl (CellAt.own 4 rfl rfl)) dC (SP.gu (i := 16) rfl (Gd.onT rfl rfl rfl dC) (SU.lenN underlying25 rfl) dC (SP.gu (i := 17) rfl (Gd.onT rfl rfl rfl dC) (SU.move rfl) dC (SP.gu (i := 18) rfl (Gd.onT rfl rfl rfl dC) (SU.lenN underlying45 rfl) dC (SP.gu (i := 19) rfl (Gd.onT rfl rfl rfl dC) (SU.eq (v' := vb false) (SU.neq rfl rfl) (congrArg vb (decide_eq_false (by simp)))) dC ?_))))))))
 refine SP.U (i := 20) rfl (SU.pickF rfl rfl) (SP.nil (ST.thenN (SC.condF rfl (SC.skip (ST.thenN (SC.seq (SC.seq (SC.region (SL.A rfl (SL.nil (ST.thenN (SC.block ?_))))))))))))
 have hle912 := hle911.trans hle12'
 have hxm12 := hxm9.mono hle912
 have hxa12 := hxa9.mono hle912
 have hxb12 := hxb9.mono hle912
 have hxu12 := hxu9.mono hle912
 have hxv12 := hxv9.mono hle912
 have hi12 := SlA.mono hi11 hle12'
 have hle112 := hle19.trans hle912
 have hxa120 := hxa12
 obtain ⟨ra, hra, halla⟩ := hxa120
 have eal := halla.length
 have hraf := hra
 have hmfl := hfm.1
 obtain ⟨q9, d9, he9⟩ := hra.form
 injection he9 with e91 e92 e93
 subst e91; subst e93
 refine SC.to (g' := g12) (s' := pt b14 (.cells #[.slice qw M.length dw] 27 (0, 0)) :: pt b13 (.cells #[.slice qv (part M fun k => P k && Q k).length dv] 27 (0, 0)) :: pt b11 (.cells #[.slice qu (part M fun k => P k || Q k).length du] 27 (0, 0)) :: pt b10 (.cells #[.slice qb (part M Q).length db] 27 (0, 0)) :: pt b9 (.cells #[.slice qa (part M P).length da] 27 (0, 0)) :: pt b8 (.cells #[.slice qm M.length dm] 27 (0, 0)) :: pt b3 (.cells #[vi kd, .slice p n c, vi y] 40 (0, 0)) :: s) (fun w hw => hw) ?_
 refine SC.loop (ι := Nat) (fun i => [(7, vb true), (8, pp b8 0), (9, pp b9 0), (10, pp b10 0), (11, pp b11 0), (13, pp b13 0), (16, .slice q61 ((part M P).map Cl.id).length d61), (17, vi i)]) (fun _ => g12) (fun _ => pt b14 (.cells #[.slice qw M.length dw] 27 (0, 0)) :: pt b13 (.cells #[.slice qv (part M fun k => P k && Q k).length dv] 27 (0, 0)) :: pt b11 (.cells #[.slice qu (part M fun k => P k || Q k).length du] 27 (0, 0)) :: pt b10 (.cells #[.slice qb (part M Q).length db] 27 (0, 0)) :: pt b9 (.cells #[.slice qa (part M P).length da] 27 (0, 0)) :: pt b8 (.cells #[.slice qm M.length dm] 27 (0, 0)) :: pt b3 (.cells #[vi kd, .slice p n c, vi y] 40 (0, 0)) :: s) (fun i => i ≤ (part M P).length) (fun i => (part M P).length - i) 0
  ⟨rfl, rfl, rfl, rfl, rfl, rfl, rfl, rfl, trivial⟩ rfl rfl (Nat.zero_le _) ?_
 intro i hik
 try dsimp only at hik ⊢
 refine SC.seq (SC.seq (SC.region (SL.M rfl (SL.M rfl (SL.U (SU.lenN underlying45 rfl) (SL.U (SU.lss rfl rfl) (SL.nil (ST.thenN ?_))))))))
 refine SC.ifP rfl (fun hlt => ?_) (fun hlt => ?_)
 ·have hil : i < (part M P).length := by simp at hlt; omega
  have hir : i < ra.length := oM
  have hba := hra.based oM
  have hbi := SlA.based hi12 (by simp; omega)
  have hgA : (part M P)[i]? = some (part M P)[i] := List.getElem?_eq_getElem hil
  have hgi : ((part M P).map Cl.id)[((i : Nat) : Int).toNat]? = some (part M P)[i].id := by simp [hil]
  have hxr0 := halla.get hgA (List.getElem?_eq_getElem hir)
  have hgr : ra[((i : Nat) : Int).toNat]? = some ra[i] := List.getElem?_eq_getElem hir
  have hxm0 : (part M P)[i] ∈ part M P := List.getElem_mem hil
  generalize (part M P)[i] = x at *
  have hid0 : ra[i].id = x.id := hxr0.1
  obtain ⟨hxM, hxP⟩ := List.mem_filter.1 hxm0
  have hfc : findC M x.id = some x := by
   show findT (tabC M) x.id = some x
   rw [htab]
   exact hM.find hxM
  have hfd := fun g s v hv => find_spec E g s v M x.id hv hfm
  rw [hfc] at hfd
  have hxl := hfm.2 x hxM
  have hside : ∀ z ∈ x.sides, (findC (part M P) z.cell).isSome = true := fun z hz => by
   show (findT (tabC (part M P)) z.cell).isSome = true
   rw [hrA.tab, part_find (hcP x hxM hxP z hz)]
   obtain ⟨d, hd, _⟩ := (hM.form x hxM).found z hz
   rw [hd]
   rfl
  refine SC.skip (ST.thenN (SC.seq (SC.block ?_)))
  refine SC.cut (ι := Nat × Option Addr × Nat × PH) (fun q => [(7, vb true), (8, pp b8 0), (9, pp b9 0), (10, pp b10 0), (11, pp b11 0), (13, pp b13 0), (16, .slice q61 ((part M P).map Cl.id).length d61), (17, vi i), (18, pp q.1 0), (19, vb true)]) (fun q => q.2.2.2) (fun q => pt q.1 (.cells #[vi x.id, vi x.dim, .slice q.2.1 x.sides.length q.2.2.1] 51 (0, 0)) :: pt b14 (.cells #[.slice qw M.length dw] 27 (0, 0)) :: pt b13 (.cells #[.slice qv (part M fun k => P k && Q k).length dv] 27 (0, 0)) :: pt b11 (.cells #[.slice qu (part M fun k => P k || Q k).length du] 27 (0, 0)) :: pt b10 (.cells #[.slice qb (part M Q).length db] 27 (0, 0)) :: pt b9 (.cells #[.slice qa (part M P).length da] 27 (0, 0)) :: pt b8 (.cells #[.slice qm M.length dm] 27 (0, 0)) :: pt b3 (.cells #[vi kd, .slice p n c, vi y] 40 (0, 0)) :: s) (fun q => Le g12 q.2.2.2 ∧ SlA encSide q.2.2.2 (.slice q.2.1 x.sides.length q.2.2.1) x.sides) ?_ ?_
  ·refine SC.drawX [] Tryz.mixed (by kernel_rfl) ?_
   refine SX.q (i := 0) rfl (by kernel_rfl) (SQ.loadVarK 5 isAgg27 sizeOf27 rfl rfl rfl) dC (SX.u (i := 1) rfl (by kernel_rfl) (SU.move rfl) dC (SX.u (i := 2) rfl (by kernel_rfl) (SU.move rfl) dC (SX.u (i := 3) rfl (by kernel_rfl) (SU.indexAddr underlying45 sizeOf3 rfl rfl hbi oM sL) dC (SX.q (i := 4) rfl (by kernel_rfl) (SQ.elem1 isAgg3 rfl (SlA.rd hi12) hgi rfl) dC ?_))))
   refine SX.br2 5 9 (by kernel_rfl) ?_ ?_
   ·refine SB.o (i := 5) rfl (SO.call call31 rfl (hfd g12 _ _ hxm12)) dC (.inr (by rintro _ g13 _ ⟨rfl, hle13, xr, rfl, hxr⟩; exact ⟨by assumption, (by exact .refl _)⟩)) ?_
    rintro _ g13 _ ⟨rfl, hle13, xr, rfl, hxr⟩
    obtain ⟨xp, xcap, rfl, hxs⟩ := cellR_form hxr
    refine SX.u (i := 6) rfl (by kernel_rfl) (SU.move rfl) dC (SX.u (i := 7) rfl (by kernel_rfl) (SU.extract rfl rfl) dC (SX.u (i := 8) rfl (by kernel_rfl) (SU.extract rfl rfl) dC ?_))
    refine SX.br1 9 (by kernel_rfl) ?_
    ·refine SB.o (i := 9) rfl (SO.alloc zeroValue51) dC (.inr (by rintro _ _ _ ⟨b18, rfl, rfl, rfl⟩; exact ⟨by assumption, (by exact .cons _ (.refl _))⟩)) ?_
     rintro _ _ _ ⟨b18, rfl, rfl, rfl⟩
     refine SX.br1 10 (by kernel_rfl) ?_
     ·refine SB.on (i := 10) rfl (SO.storeAllK 0 sizeOf51 rfl rfl rfl rfl rfl (by exact ⟨rfl, rfl, rfl, trivial⟩)) (.inr (by rintro _ _ _ ⟨rfl, rfl⟩; exact ⟨by assumption, (by exact .cons _ (.refl _))⟩)) ?_
      rintro _ _ _ ⟨rfl, rfl⟩
      refine SX.u (i := 11) rfl (by kernel_rfl) (SU.assign rfl) dC (SX.nil (by kernel_rfl) ?_)
      exact ST.mid (b18, xp, xcap, g13) ⟨rfl, rfl, rfl, rfl, rfl, rfl, rfl, rfl, rfl, rfl, trivial⟩ rfl rfl ⟨hle13, hxs⟩
   ·refine SB.o (i := 9) rfl (SO.alloc zeroValue51) dC (.inr (by rintro _ _ _ ⟨b18, rfl, rfl, rfl⟩; exact ⟨by exact Le.refl _, (by exact .cons _ (.refl _))⟩)) ?_
    rintro _ _ _ ⟨b18, rfl, rfl, rfl⟩
    refine SX.br1 5 (by kernel_rfl) ?_
    ·refine SB.o (i := 5) rfl (SO.call call31 rfl (hfd g12 _ _ hxm12)) dC (.inr (by rintro _ g13 _ ⟨rfl, hle13, xr, rfl, hxr⟩; exact ⟨by assumption, (by exact .cons _ (.refl _))⟩)) ?_
     rintro _ g13 _ ⟨rfl, hle13, xr, rfl, hxr⟩
     obtain ⟨xp, xcap, rfl, hxs⟩ := cellR_form hxr
     refine SX.u (i := 6) rfl (by kernel_rfl) (SU.move rfl) dC (SX.u (i := 7) rfl (by kernel_rfl) (SU.extract rfl rfl) dC (SX.u (i := 8) rfl (by kernel_rfl) (SU.extract rfl rfl) dC ?_))
     refine SX.br1 10 (by kernel_rfl) ?_
     ·refine SB.on (i := 10) rfl (SO.storeAllK 0 sizeOf51 rfl rfl rfl rfl rfl (by exact ⟨rfl, rfl, rfl, trivial⟩)) (.inr (by rintro _ _ _ ⟨rfl, rfl⟩; exact ⟨by assumption, (by exact .cons _ (.refl _))⟩)) ?_
      rintro _ _ _ ⟨rfl, rfl⟩
      refine SX.u (i := 11) rfl (by kernel_rfl) (SU.assign rfl) dC (SX.nil (by kernel_rfl) ?_)
      exact ST.mid (b18, xp, xcap, g13) ⟨rfl, rfl, rfl, rfl, rfl, rfl, rfl, rfl, rfl, rfl, trivial⟩ rfl rfl ⟨hle13, hxs⟩
  rintro ⟨b18, xp, xcap, g13⟩ ⟨hle13, hxs⟩
  dsimp only at hle13 hxs ⊢
  have hxa13 := hxa12.mono hle13
  refine SC.seq (SC.seq ?_)
  refine SC.draw [] [(0, 2), (1, 2), (2, 2), (3, 2), (4, 1), (5, 2), (6, 2), (7, 2), (8, 1), (9, 2), (10, 2), (11, 2), (12, 1), (13, 2), (14, 2)] Tryz.mixed (by kernel_rfl) ?_
  refine SP.U (i := 0) rfl (SU.move rfl) (SP.U (i := 1) rfl (SU.not rfl) (SP.U (i := 2) rfl (SU.move rfl) (SP.gu (i := 3) rfl (Gd.onT rfl rfl rfl dC) (SU.fieldAddr underlying27 rfl sizeOf25 rfl) dC (SP.gq (i := 4) rfl (Gd.onT rfl rfl rfl dC) (SQ.load (v := .slice qa (part M P).length da) isAgg25 rfl (CellAt.own 5 rfl rfl)) dC (SP.gu (i := 5) rfl (Gd.onT rfl rfl rfl dC) (SU.move rfl) dC (SP.gu (i := 6) rfl (Gd.onT rfl rfl rfl dC) (SU.indexAddr underlying25 sizeOf51 rfl rfl hba oM sL) dC (SP.gu (i := 7) rfl (Gd.onT rfl rfl rfl dC) (SU.fieldAddrC underlying51 rfl sizeOf3 rfl hba) dC (SP.gq (i := 8) rfl (Gd.onT rfl rfl rfl dC) (SQ.partA (e := encCell) (o := 0) (u := vi x.id) isAgg3 rfl (hra.mono hle13).rd hgr (by rw [← hid0]; rfl)) dC ?_))))))))
  refine SP.gu (i := 9) rfl (Gd.onT rfl rfl rfl dC) (SU.move rfl) dC (SP.gu (i := 10) rfl (Gd.onT rfl rfl rfl dC) (SU.move rfl) dC (SP.gu (i := 11) rfl (Gd.onT rfl rfl rfl dC) (SU.indexAddr underlying45 sizeOf3 rfl rfl hbi oM sL) dC (SP.gq (i := 12) rfl (Gd.onT rfl rfl rfl dC) (SQ.elem1 isAgg3 rfl (SlA.rd (SlA.mono hi12 hle13)) hgi rfl) dC (SP.gu (i := 13) rfl (Gd.onT rfl rfl rfl dC) (SU.eq (v' := vb false) (SU.neq rfl rfl) (congrArg vb (decide_eq_false (by simp)))) dC ?_))))
  refine SP.U (i := 14) rfl (SU.pickF rfl rfl) (SP.nil (ST.thenN (SC.condF rfl (SC.skip (ST.thenN (SC.seq (SC.region (SL.A rfl (SL.nil (ST.thenN (SC.block ?_)))))))))))
  refine SC.loop (ι := Nat) (fun j => [(7, vb true), (8, pp b8 0), (9, pp b9 0), (10, pp b10 0), (11, pp b11 0), (13, pp b13 0), (16, .slice q61 ((part M P).map Cl.id).length d61), (17, vi i), (18, pp b18 0), (20, vi j)]) (fun _ => g13) (fun _ => pt b18 (.cells #[vi x.id, vi x.dim, .slice xp x.sides.length xcap] 51 (0, 0)) :: pt b14 (.cells #[.slice qw M.length dw] 27 (0, 0)) :: pt b13 (.cells #[.slice qv (part M fun k => P k && Q k).length dv] 27 (0, 0)) :: pt b11 (.cells #[.slice qu (part M fun k => P k || Q k).length du] 27 (0, 0)) :: pt b10 (.cells #[.slice qb (part M Q).length db] 27 (0, 0)) :: pt b9 (.cells #[.slice qa (part M P).length da] 27 (0, 0)) :: pt b8 (.cells #[.slice qm M.length dm] 27 (0, 0)) :: pt b3 (.cells #[vi kd, .slice p n c, vi y] 40 (0, 0)) :: s) (fun j => j ≤ x.sides.length) (fun j => x.sides.length - j) 0
   ⟨rfl, rfl, rfl, rfl, rfl, rfl, rfl, rfl, rfl, rfl, trivial⟩ rfl rfl (Nat.zero_le _) ?_
  intro j hj
  try dsimp only at hj ⊢
  refine SC.seq (SC.seq (SC.region (SL.M rfl (SL.U (SU.fieldAddr underlying51 rfl sizeOf49 rfl) (SL.K (SQ.load (v := .slice xp x.sides.length xcap) isAgg49 rfl (CellAt.own 0 rfl rfl)) (SL.U (SU.lenN underlying49 rfl) (SL.U (SU.lss rfl rfl) (SL.nil (ST.thenN ?_)))))))))
  refine SC.ifP rfl (fun hlt2 => ?_) (fun hlt2 => ?_)
  ·have hjl : j < x.sides.length := oM
   have hbx := hxs.based oM
   have hjx : x.sides[((j : Nat) : Int).toNat]? = some x.sides[j] := List.getElem?_eq_getElem hjl
   have hzm := List.getElem_mem hjl
   generalize x.sides[j] = z at *
   have hfz := fun g s v hv => find_spec E g s v (part M P) z.cell hv hfA
   rw [hside z hzm] at hfz
   refine SC.skip (ST.thenN (SC.seq (SC.block ?_)))
   refine SC.cut (ι := Unit) (fun _ => [(7, vb true), (8, pp b8 0), (9, pp b9 0), (10, pp b10 0), (11, pp b11 0), (13, pp b13 0), (16, .slice q61 ((part M P).map Cl.id).length d61), (17, vi i), (18, pp b18 0), (20, vi j), (22, vb true)]) (fun _ => g13) (fun _ => pt b18 (.cells #[vi x.id, vi x.dim, .slice xp x.sides.length xcap] 51 (0, 0)) :: pt b14 (.cells #[.slice qw M.length dw] 27 (0, 0)) :: pt b13 (.cells #[.slice qv (part M fun k => P k && Q k).length dv] 27 (0, 0)) :: pt b11 (.cells #[.slice qu (part M fun k => P k || Q k).length du] 27 (0, 0)) :: pt b10 (.cells #[.slice qb (part M Q).length db] 27 (0, 0)) :: pt b9 (.cells #[.slice qa (part M P).length da] 27 (0, 0)) :: pt b8 (.cells #[.slice qm M.length dm] 27 (0, 0)) :: pt b3 (.cells #[vi kd, .slice p n c, vi y] 40 (0, 0)) :: s) (fun _ => True) ?_ ?_
   ·refine SC.drawX [] Tryz.mixed (by kernel_rfl) ?_
    refine SX.q (i := 0) rfl (by kernel_rfl) (SQ.loadVarK 5 isAgg27 sizeOf27 rfl rfl rfl) dC (SX.u (i := 1) rfl (by kernel_rfl) (SU.fieldAddr underlying51 rfl sizeOf49 rfl) dC (SX.q (i := 2) rfl (by kernel_rfl) (SQ.load (v := .slice xp x.sides.length xcap) isAgg49 rfl (CellAt.own 0 rfl rfl)) dC (SX.u (i := 3) rfl (by kernel_rfl) (SU.move rfl) dC (SX.u (i := 4) rfl (by kernel_rfl) (SU.indexAddr underlying49 sizeOf55 rfl rfl hbx oM sL) dC (SX.u (i := 5) rfl (by kernel_rfl) (SU.fieldAddrC underlying55 rfl sizeOf3 rfl hbx) dC (SX.q (i := 6) rfl (by kernel_rfl) (SQ.partA (e := encSide) (o := 0) (u := vi z.cell) isAgg3 rfl hxs.rd hjx rfl) dC ?_))))))
    refine SX.br2 7 11 (by kernel_rfl) ?_ ?_
    ·refine SB.o (i := 7) rfl (SO.call call31 rfl (hfz g13 _ _ hxa13)) dC (.inr (by rintro _ g15 _ ⟨rfl, hle15, zr, rfl, hzr⟩; exact ⟨by assumption, (by exact .refl _)⟩)) ?_
     rintro _ g15 _ ⟨rfl, hle15, zr, rfl, hzr⟩
     obtain ⟨zi, zd, zp, zn, zc⟩ := zr
     refine SX.u (i := 8) rfl (by kernel_rfl) (SU.move rfl) dC (SX.u (i := 9) rfl (by kernel_rfl) (SU.extract rfl rfl) dC (SX.u (i := 10) rfl (by kernel_rfl) (SU.extract rfl rfl) dC ?_))
     refine SX.br1 11 (by kernel_rfl) ?_
     ·refine SB.o (i := 11) rfl (SO.alloc zeroValue51) dC (.inr (by rintro _ _ _ ⟨b21, rfl, rfl, rfl⟩; exact ⟨by assumption, (by exact .cons _ (.refl _))⟩)) ?_
      rintro _ _ _ ⟨b21, rfl, rfl, rfl⟩
      refine SX.br1 12 (by kernel_rfl) ?_
      ·refine SB.on (i := 12) rfl (SO.storeAllK 0 sizeOf51 rfl rfl rfl rfl rfl (by exact ⟨rfl, rfl, rfl, trivial⟩)) (.inr (by rintro _ _ _ ⟨rfl, rfl⟩; exact ⟨by assumption, (by exact .cons _ (.refl _))⟩)) ?_
       rintro _ _ _ ⟨rfl, rfl⟩
       refine SX.u (i := 13) rfl (by kernel_rfl) (SU.assign rfl) dC (SX.nil (by kernel_rfl) ?_)
       (refine ST.drop (.cons _ (.refl _)) (ST.less hle15 ?_); exact ST.mid () ⟨rfl, rfl, rfl, rfl, rfl, rfl, rfl, rfl, rfl, rfl, rfl, trivial⟩ rfl rfl trivial)
    ·refine SB.o (i := 11) rfl (SO.alloc zeroValue51) dC (.inr (by rintro _ _ _ ⟨b21, rfl, rfl, rfl⟩; exact ⟨by exact Le.refl _, (by exact .cons _ (.refl _))⟩)) ?_
     rintro _ _ _ ⟨b21, rfl, rfl, rfl⟩
     refine SX.br1 7 (by kernel_rfl) ?_
     ·refine SB.o (i := 7) rfl (SO.call call31 rfl (hfz g13 _ _ hxa13)) dC (.inr (by rintro _ g15 _ ⟨rfl, hle15, zr, rfl, hzr⟩; exact ⟨by assumption, (by exact .cons _ (.refl _))⟩)) ?_
      rintro _ g15 _ ⟨rfl, hle15, zr, rfl, hzr⟩
      obtain ⟨zi, zd, zp, zn, zc⟩ := zr
      refine SX.u (i := 8) rfl (by kernel_rfl) (SU.move rfl) dC (SX.u (i := 9) rfl (by kernel_rfl) (SU.extract rfl rfl) dC (SX.u (i := 10) rfl (by kernel_rfl) (SU.extract rfl rfl) dC ?_))
      refine SX.br1 12 (by kernel_rfl) ?_
      ·refine SB.on (i := 12) rfl (SO.storeAllK 0 sizeOf51 rfl rfl rfl rfl rfl (by exact ⟨rfl, rfl, rfl, trivial⟩)) (.inr (by rintro _ _ _ ⟨rfl, rfl⟩; exact ⟨by assumption, (by exact .cons _ (.refl _))⟩)) ?_
       rintro _ _ _ ⟨rfl, rfl⟩
       refine SX.u (i := 13) rfl (by kernel_rfl) (SU.assign rfl) dC (SX.nil (by kernel_rfl) ?_)
       (refine ST.drop (.cons _ (.refl _)) (ST.less hle15 ?_); exact ST.mid () ⟨rfl, rfl, rfl, rfl, rfl, rfl, rfl, rfl, rfl, rfl, rfl, trivial⟩ rfl rfl trivial)
   rintro _ -
   try dsimp only
   refine SC.seq (SC.region (SL.M rfl (SL.U (SU.not rfl) (SL.nil (ST.thenN (SC.condF rfl (SC.skip (ST.blockN (ST.thenN (SC.region (SL.M rfl (SL.U (SU.add rfl rfl oM) (SL.A rfl (SL.nil ?_))))))))))))))
   exact ST.again (j + 1) ⟨rfl, rfl, rfl, rfl, rfl, rfl, rfl, rfl, rfl, rfl, trivial⟩ rfl rfl lN lN
  ·refine SC.exit (ST.thenX (ST.thenX (ST.blockX (ST.blockN (ST.thenN (SC.region (SL.M rfl (SL.U (SU.add rfl rfl oM) (SL.A rfl (SL.nil ?_))))))))))
   refine ST.drop (s' := pt b14 (.cells #[.slice qw M.length dw] 27 (0, 0)) :: pt b13 (.cells #[.slice qv (part M fun k => P k && Q k).length dv] 27 (0, 0)) :: pt b11 (.cells #[.slice qu (part M fun k => P k || Q k).length du] 27 (0, 0)) :: pt b10 (.cells #[.slice qb (part M Q).length db] 27 (0, 0)) :: pt b9 (.cells #[.slice qa (part M P).length da] 27 (0, 0)) :: pt b8 (.cells #[.slice qm M.length dm] 27 (0, 0)) :: pt b3 (.cells #[vi kd, .slice p n c, vi y] 40 (0, 0)) :: s) (.cons _ (.refl _)) (ST.less hle13 ?_)
   exact ST.again (i + 1) ⟨rfl, rfl, rfl, rfl, rfl, rfl, rfl, rfl, trivial⟩ rfl rfl lN lN
 ·have bU := eulP_bound (part M fun k => P k || Q k)
  have bV := eulP_bound (part M fun k => P k && Q k)
  have bA := eulP_bound (part M P)
  have bB := eulP_bound (part M Q)
  have lU : (part M fun k => P k || Q k).length ≤ M.length := List.length_filter_le _ _
  have lV : (part M fun k => P k && Q k).length ≤ M.length := List.length_filter_le _ _
  refine SC.exit (ST.thenX (ST.thenX (ST.blockX (ST.thenN (SC.seq (SC.region (SL.K (SQ.loadVarK 4 isAgg27 sizeOf27 rfl rfl rfl) (SL.W (SO.call call12 rfl (checkRt_spec E g12 _ _ (part M P) hxa12 hfA hrA)) ?_))))))))
  rintro _ _ _ ⟨rfl, rfl, rfl⟩
  refine SL.M rfl (SL.U (SU.extract rfl rfl) (SL.U (SU.extract rfl rfl) (SL.A rfl (SL.A rfl (SL.nil (ST.thenN (SC.seq (SC.region (SL.K (SQ.loadVarK 2 isAgg27 sizeOf27 rfl rfl rfl) (SL.W (SO.call call12 rfl (checkRt_spec E g12 _ _ _ hxu12 hfU hrU)) ?_))))))))))
  rintro _ _ _ ⟨rfl, rfl, rfl⟩
  refine SL.M rfl (SL.U (SU.extract rfl rfl) (SL.U (SU.extract rfl rfl) (SL.A rfl (SL.A rfl (SL.nil (ST.thenN (SC.seq (SC.region (SL.K (SQ.loadVarK 1 isAgg27 sizeOf27 rfl rfl rfl) (SL.W (SO.call call12 rfl (checkRt_spec E g12 _ _ _ hxv12 hfV hrV)) ?_))))))))))
  rintro _ _ _ ⟨rfl, rfl, rfl⟩
  refine SL.M rfl (SL.U (SU.extract rfl rfl) (SL.U (SU.extract rfl rfl) (SL.A rfl (SL.A rfl (SL.nil (ST.thenN (SC.seq ?_)))))))
  refine SC.draw [] [(0, 2), (1, 2), (2, 2), (3, 2), (4, 2), (5, 2), (6, 2), (7, 2), (8, 2), (9, 2), (10, 2), (11, 2), (12, 2), (13, 2), (14, 1), (16, 1), (19, 1), (21, 1), (15, 0), (17, 0), (18, 2), (20, 0), (22, 0), (23, 2), (24, 2), (25, 2), (26, 2)] Tryz.mixed (by kernel_rfl) ?_
  refine SP.U (i := 0) rfl (SU.move rfl) (SP.U (i := 1) rfl (SU.move rfl) (SP.gu (i := 2) rfl (Gd.onT rfl rfl rfl dC) (SU.move rfl) dC (SP.gu (i := 3) rfl (Gd.onT rfl rfl rfl dC) (SU.eq (v' := vb true) (SU.eql rfl rfl) rfl) dC (SP.U (i := 4) rfl (SU.pickT rfl rfl) (SP.U (i := 5) rfl (SU.move rfl) (SP.gu (i := 6) rfl (Gd.onT rfl rfl rfl dC) (SU.move rfl) dC (SP.gu (i := 7) rfl (Gd.onT rfl rfl rfl dC) (SU.eq (v' := vb true) (SU.eql rfl rfl) rfl) dC (SP.U (i := 8) rfl (SU.pickT rfl rfl) (SP.U (i := 9) rfl (SU.move rfl) (SP.gu (i := 10) rfl (Gd.onT rfl rfl rfl dC) (SU.move rfl) dC (SP.gu (i := 11) rfl (Gd.onT rfl rfl rfl dC) (SU.eq (v' := vb true) (SU.eql rfl rfl) rfl) dC (SP.U (i := 12) rfl (SU.pickT rfl rfl) (SP.U (i := 13) rfl (SU.move rfl) (SP.gq (i := 14) rfl (Gd.onT rfl rfl rfl dC) (SQ.loadVarK 2 isAgg27 sizeOf27 rfl rfl rfl) dC (SP.gq (i := 16) rfl (Gd.onT rfl rfl rfl dC) (SQ.loadVarK 1 isAgg27 sizeOf27 rfl rfl rfl) dC (SP.gq (i := 19) rfl (Gd.onT rfl rfl rfl dC) (SQ.loadVarK 4 isAgg27 sizeOf27 rfl rfl rfl) dC (SP.gq (i := 21) rfl (Gd.onT rfl rfl rfl dC) (SQ.loadVarK 3 isAgg27 sizeOf27 rfl rfl rfl) dC (SP.go (i := 15) rfl (Gd.onT rfl rfl rfl dC) (SO.call call19 rfl (euler_spec E g12 _ _ _ hxu12 hfU)) dC (.inr (by rintro _ _ _ ⟨rfl, rfl, rfl⟩; exact ⟨by exact Le.refl _, (by exact .refl _)⟩)) ?_))))))))))))))))))
  rintro _ _ _ ⟨rfl, rfl, rfl⟩
  refine SP.go (i := 17) rfl (Gd.onT rfl rfl rfl dC) (SO.call call19 rfl (euler_spec E g12 _ _ _ hxv12 hfV)) dC (.inr (by rintro _ _ _ ⟨rfl, rfl, rfl⟩; exact ⟨by exact Le.refl _, (by exact .refl _)⟩)) ?_
  rintro _ _ _ ⟨rfl, rfl, rfl⟩
  refine SP.gu (i := 18) rfl (Gd.onT rfl rfl rfl dC) (SU.add rfl rfl oM) dC (SP.go (i := 20) rfl (Gd.onT rfl rfl rfl dC) (SO.call call19 rfl (euler_spec E g12 _ _ _ hxa12 hfA)) dC (.inr (by rintro _ _ _ ⟨rfl, rfl, rfl⟩; exact ⟨by exact Le.refl _, (by exact .refl _)⟩)) ?_)
  rintro _ _ _ ⟨rfl, rfl, rfl⟩
  refine SP.go (i := 22) rfl (Gd.onT rfl rfl rfl dC) (SO.call call19 rfl (euler_spec E g12 _ _ _ hxb12 hfB)) dC (.inr (by rintro _ _ _ ⟨rfl, rfl, rfl⟩; exact ⟨by exact Le.refl _, (by exact .refl _)⟩)) ?_
  rintro _ _ _ ⟨rfl, rfl, rfl⟩
  refine SP.gu (i := 23) rfl (Gd.onT rfl rfl rfl dC) (SU.add rfl rfl oM) dC (SP.gu (i := 24) rfl (Gd.onT rfl rfl rfl dC) (SU.eq (v' := vb true) (SU.eql rfl rfl) (congrArg vb (decide_eq_true heu))) dC (SP.U (i := 25) rfl (SU.pickT rfl rfl) (SP.U (i := 26) rfl (SU.assign rfl) (SP.nil (ST.thenN (SC.ret (ST.drop (s' := s) (.cons _ (.cons _ (.cons _ (.cons _ (.cons _ (.cons _ (.cons _ (.refl _)))))))) ?_)))))))
  exact ST.ret1 (.inl rfl) results7 rfl ⟨rfl, rfl, hle112⟩
end Go.Proofs.YtkdibcicncjpdaaGreat
namespace Go.Proofs.YtkdibcicncjpdaaGreat.cellsPartsDone
open _root_.Go.Proofs.Tryz _root_.Go.Proofs.YtkdibcicncjpdaaGreat.Tryz
open Go Go.Sy Go.Pl Go.Proofs Go.Proofs.YtkdibcicncjpdaaGreat
open Go.ChangeShapes Go.WideShapes Go.ChangeAt Go.RowKit
set_option linter.unusedVariables false
theorem own : ownKnob Tryz.prog.godebug = none := by kernel_rfl
theorem laidOut : laidOutB Tryz.prog = true := by kernel_rfl
set_option maxRecDepth 100000 in
theorem lifted (os : Os) (started : os.Started) (H : Type) (enc : TypeId × Value → H) :
  ReturnsInHanded {} Tryz.checked os 7 .any (Rows.cellsPartsSpec.pre6 enc Tryz.prog f7 Rows.cellsPartsRow.domain false) (Rows.cellsPartsSpec.post enc Tryz.prog f7 false true false false) := by
 refine returnsInHanded_of_change (C := Tryz.checked) own started (by kernel_rfl) func7
  (ChangeSpec.witness6 (enc := enc) (C := Tryz.checked) false ⟨#[], #[.agg #[.int .i64 0, .slice none 0 0, .int .i64 0], .slice none 0 0, .slice none 0 0], []⟩ 8 (by kernel_rfl) (by kernel_rfl) (by kernel_rfl) (by kernel_rfl)) ?_
 intro W base args ds gs before hval0 hW hcnd _
 have hval : ∀ (j : Nat) t v, f7.params[j]? = some t → args[j]? = some v → Value.okWide Tryz.prog W .any base t v := hval0
 have hW' := hW
 obtain ⟨p, q, hA0, hV, rfl, hfz, hnd⟩ := hW
 have hA : DataW.TrodAll enc Tryz.prog W 0 (fun _ => true) true f7.params.toList args.toList ds p := hA0
 rw [params7] at hA hval
 obtain ⟨v0, vs0, d0, ds0, p0, q0, hargs, rfl, rfl, h0, r0⟩ := trodAll_cons hA
 obtain ⟨v1, vs1, d1, ds1, p1, q1, rfl, rfl, rfl, h1, r1⟩ := trodAll_cons r0
 obtain ⟨v2, vs2, d2, ds2, p2, q2, rfl, rfl, rfl, h2, r2⟩ := trodAll_cons r1
 obtain ⟨rfl, rfl, rfl⟩ := trodAll_nil r2
 obtain rfl : args = #[v0, v1, v2] := by cases args; simp_all
 obtain ⟨rfl, rfl⟩ := trodVars_none hV
 have lt0 : ∀ x ∈ p0, x.block < W.heap.size := by obtain ⟨m, hm⟩ := h0; exact DataW.trod_lt m _ _ _ hm
 have lt1 : ∀ x ∈ p1, x.block < W.heap.size := by obtain ⟨m, hm⟩ := h1; exact DataW.trod_lt m _ _ _ hm
 have lt2 : ∀ x ∈ p2, x.block < W.heap.size := by obtain ⟨m, hm⟩ := h2; exact DataW.trod_lt m _ _ _ hm
 obtain ⟨kd, y, u, ls, e0, hls⟩ := shape_of (hval 0 40 v0 rfl rfl) h0
 clear hA0 hval0
 have walk : Calls Tryz.prog 7 #[v0, v1, v2] W fun e w' => e = .returned (.bool true) ∧ Below W.heap.size W w' := by
  obtain ⟨a, n0, c0, rfl⟩ := okWide_slice underlying45 (hval 1 45 v1 rfl rfl)
  obtain ⟨b, n1, c1, rfl⟩ := okWide_slice underlying45 (hval 2 45 v2 rfl rfl)
  obtain ⟨f1, hf1⟩ := h1
  obtain ⟨f2, hf2⟩ := h2
  obtain ⟨ns, _, _, hns⟩ := ints_of (v := .slice a n0 c0) hf1
  obtain ⟨ms, _, _, hms⟩ := ints_of (v := .slice b n1 c1) hf2
  rw [e0]
  refine (cellsParts_spec (E0 W) rfl (held W) [] u _ _ kd y ls ns ms hls hns hms W (at_start W)).mono ?_
  rintro e w' ⟨v, g', s', rfl, hat, rfl, rfl, hle⟩
  exact ⟨rfl, at_below hat hle⟩
 refine walk.mono fun e W' ⟨he, bel⟩ => ?_
 subst he
 exact ⟨_, rfl, _, _, _, [], _, [], hW', trodAll_mk1 (shut_bool underlying4 _), (trodAll_cons_mk (Below.trod laidOut (by kernel_rfl) (of_decide_eq_true (by kernel_rfl)) h0 bel lt0) (trodAll_cons_mk (Below.trod laidOut (by kernel_rfl) (of_decide_eq_true (by kernel_rfl)) h1 bel lt1) (trodAll_cons_mk (Below.trod laidOut (by kernel_rfl) (of_decide_eq_true (by kernel_rfl)) h2 bel lt2) trodAll_mk0))), rfl, bel.frame _, fun h => by cases h⟩
theorem over : Rows.cellsPartsRow.holds Tryz.pinned (OpenSpec.ofChange Rows.cellsPartsSpec) :=
 OpenClaim.holds_of_wide 7 f7 rfl rfl rfl rfl rfl rfl rfl ⟨rfl, rfl, rfl, rfl, rfl⟩ rfl rfl rfl rfl rfl (by kernel_rfl) func7 (by kernel_rfl)
  (of_decide_eq_true (by kernel_rfl)) (by unfold Func.isWrapper; first | (rw [if_pos (by decide +kernel)]; kernel_rfl) | (rw [if_neg (by decide +kernel)]; exact ⟨rfl, rfl⟩))
  (fun os started H enc _ => lifted os started H enc)
theorem proved : Rows.CellsPartsSaid := over
#print axioms proved
end Go.Proofs.YtkdibcicncjpdaaGreat.cellsPartsDone
