/- Ref3 Sec Ref4 -/
import Derived.Test.YtkdibcicncjpdaaGreatOw09
import Derived.Test.YtkdibcicncjpdaaGreatOw04
set_option linter.unusedSimpArgs false
set_option linter.unusedVariables false
namespace Go.Proofs.YtkdibcicncjpdaaGreat
open _root_.Go.Proofs.Tryz _root_.Go.Proofs.YtkdibcicncjpdaaGreat.Tryz
open Go Go.Sy Go.Pl Go.Proofs
set_option maxRecDepth 100000
theorem lbI_split {l : List Int} (hs : l.Pairwise (· ≤ ·)) (x : Int) : (∀ k (h : k < l.length), k < lbI l x → l[k] < x) ∧ (∀ k (h : k < l.length), lbI l x ≤ k → x ≤ l[k]) := by
 induction l with
 | nil => exact ⟨fun k h => absurd h (by simp), fun k h => absurd h (by simp)⟩
 | cons a r ih =>
  obtain ⟨h1, h2⟩ := List.pairwise_cons.1 hs
  obtain ⟨i1, i2⟩ := ih h2
  by_cases ha : a < x
  ·have hl : lbI (a :: r) x = lbI r x + 1 := by simp [lbI, ha]
   rw [hl]
   refine ⟨fun k h hk => ?_, fun k h hk => ?_⟩
   ·cases k with
    | zero => exact ha
    | succ k => exact i1 k (by simpa using h) oM
   ·cases k with
    | zero => omega
    | succ k => exact i2 k (by simpa using h) oM
  ·have hz : lbI (a :: r) x = 0 := by
    unfold lbI
    rw [List.length_eq_zero_iff, List.filter_eq_nil_iff]
    intro y hy
    rcases List.mem_cons.1 hy with rfl | hy
    ·simpa using Int.not_lt.1 ha
    ·have := h1 y hy; simp; omega
   rw [hz]
   refine ⟨fun k h hk => absurd hk oM, fun k h _ => ?_⟩
   cases k with
   | zero => exact Int.not_lt.1 ha
   | succ k =>
    have hk' : k < r.length := by simpa using h
    have := h1 r[k] (List.getElem_mem hk')
    simp
    omega
theorem at_find {tl : List Cl} (hs : (tl.map Cl.id).Pairwise (· ≤ ·)) (id : Int) : (findT tl id = none ∧ atC tl id = -1) ∨ ∃ c k, findT tl id = some c ∧ atC tl id = ((k : Nat) : Int) ∧ tl[k]? = some c := by
 obtain ⟨h1, h2⟩ := lbI_split hs id
 by_cases hc : (tl.map Cl.id).contains id = true
 ·right
  have hm : id ∈ tl.map Cl.id := by simpa using hc
  obtain ⟨c0, hc0, e0⟩ := List.mem_map.1 hm
  cases hf : findT tl id with
  | none =>
   have := List.find?_eq_none.1 hf c0 hc0
   simp [e0] at this
  | some c =>
   have hi : lbI (tl.map Cl.id) id < tl.length := by
    rcases Nat.lt_or_ge (lbI (tl.map Cl.id) id) tl.length with h | h
    ·exact h
    ·obtain ⟨j, hj, rfl⟩ := List.getElem_of_mem hc0
     have := h1 j (by simpa using hj) oM
     simp at this
     omega
   refine ⟨c, lbI (tl.map Cl.id) id, rfl, by unfold atC; rw [if_pos hc], ?_⟩
   rw [List.getElem?_eq_getElem hi]
   have hge := h2 _ (by simpa using hi) (Nat.le_refl _)
   have hid : tl[lbI (tl.map Cl.id) id].id = id := by
    obtain ⟨j, hj, rfl⟩ := List.getElem_of_mem hc0
    have hji : lbI (tl.map Cl.id) id ≤ j := by
     rcases Nat.lt_or_ge j (lbI (tl.map Cl.id) id) with h | h
     ·have := h1 j (by simpa using hj) h; simp at this; omega
     ·exact h
    rcases Nat.eq_or_lt_of_le hji with h | h
    ·simp only [h]; exact e0
    ·have h3 := List.pairwise_iff_getElem.1 hs _ j (by simpa using hi) (by simpa using hj) h
     simp at h3 hge
     omega
   unfold findT at hf
   rw [List.find?_eq_some_iff_getElem] at hf
   obtain ⟨hp, j, hj, ej, hlt⟩ := hf
   have hp' : c.id = id := by simpa using hp
   congr 1
   rw [← ej]
   have hji : j = lbI (tl.map Cl.id) id := by
    rcases Nat.lt_trichotomy j (lbI (tl.map Cl.id) id) with h | h | h
    ·have := h1 j (by simpa using hj) h; simp [ej, hp'] at this
    ·exact h
    ·have := hlt _ h; simp [hid] at this
   simp only [hji]
 ·left
  have hn : id ∉ tl.map Cl.id := by simpa using hc
  refine ⟨?_, by unfold atC; rw [if_neg hc]⟩
  unfold findT
  rw [List.find?_eq_none]
  intro x hx
  simp
  exact fun e => hn (List.mem_map.2 ⟨x, hx, e⟩)
theorem two_signs {l : List Side} (h2 : l.length = 2) (hns : l.any signBad = false) : ∃ a b, l = [a, b] ∧ (decide (sumS l ≠ 0)) = decide (a.sign = b.sign) := by
 match l, h2 with
 | [a, b], _ =>
  simp only [List.any_cons, List.any_nil, Bool.or_false, Bool.or_eq_false_iff] at hns
  have e1 : a.sign = 1 ∨ a.sign = -1 := by
   have h1 := hns.1
   simp only [signBad, Bool.and_eq_false_iff, decide_eq_false_iff_not, ne_eq, Decidable.not_not] at h1
   exact h1
  have e2 : b.sign = 1 ∨ b.sign = -1 := by
   have h1 := hns.2
   simp only [signBad, Bool.and_eq_false_iff, decide_eq_false_iff_not, ne_eq, Decidable.not_not] at h1
   exact h1
  refine ⟨a, b, rfl, ?_⟩
  rw [Bool.eq_iff_iff]
  simp [sumS]
  omega
theorem first_spec (E : World) (g : PH) (s : Own) (v : Value) (tl : List Cl) (c : Cl) (r : Rc) (hv : Cells g v tl) (htl : tl.length < 1099511627776) (hs : (tl.map Cl.id).Pairwise (· ≤ ·)) (hc : CellR g c r) (hl : c.sides.length < 1099511627776) :
  Ctr Tryz.prog E 131 #[v, rcv r] g s (fun r g' s' => r = vi (formC tl c) ∧ g = g' ∧ s = s') := by
 obtain ⟨rs, hrs, hall⟩ := hv
 have hv : Cells g v tl := ⟨rs, hrs, hall⟩
 have hrl := hall.length
 obtain ⟨vp, vc, rfl⟩ := hrs.form
 obtain ⟨rp, rcap, rfl, hcs⟩ := cellR_form hc
 have hx0 := fun h => hcs.based h
 refine Ctr.of (args := [.slice vp rs.length vc, .agg #[vi c.id, vi c.dim, .slice rp c.sides.length rcap]]) func131 rfl ntmps131 (Nat.le_of_ble_eq_true rfl) ?_
 refine SC.seq (SC.region (SL.W (SO.box rfl) ?_))
 rintro _ _ _ ⟨b3, rfl, rfl, rfl⟩
 refine SL.A rfl (SL.nil (ST.thenN (SC.seq ?_)))
 refine SC.to (g' := g) (s' := pt b3 (.cells #[vi c.id, vi c.dim, .slice rp c.sides.length rcap] 51 (0, 0)) :: s) (fun w hw => hw) ?_
 refine SC.cutB 16 (dimBad c) ?_ ?_
 ·refine SC.region (SL.U (SU.fieldAddr underlying51 rfl sizeOf3 rfl) (SL.K (SQ.load (v := vi c.dim) isAgg3 rfl (CellAt.own 0 rfl rfl)) (SL.U (SU.lss rfl rfl) (SL.M rfl ?_))))
  refine SL.split ?_ ?_
  ·intro h12
   refine SL.Z rfl rfl rfl (SL.Z rfl rfl rfl (SL.Z rfl rfl rfl (SL.U (SU.pickT rfl rfl) (SL.nil ?_))))
   exact ST.mid1 (by simp_all [get?, dimBad] <;> omega) mI
  ·intro h12
   refine SL.Y rfl rfl rfl (SU.fieldAddr underlying51 rfl sizeOf3 rfl) (SL.gq (Gd.onT rfl rfl rfl dC) (SQ.load (v := vi c.dim) isAgg3 rfl (CellAt.own 0 rfl rfl)) dC (SL.Y rfl rfl rfl (SU.gtr rfl rfl) (SL.U (SU.pickF rfl rfl) (SL.nil ?_))))
   exact ST.mid1 (by simp_all [get?, dimBad] <;> omega) mI
 refine SC.ifB rfl (fun hdb => ?_) (fun hdb => ?_)
 ·refine SC.seq (SC.region (SL.A rfl (SL.nil (ST.thenN (SC.ret (ST.thenR (ST.drop (s' := s) (.cons _ (.refl _)) ?_)))))))
  exact ST.ret1 (.inl rfl) results131 rfl ⟨by unfold formC; rw [if_pos hdb], rfl, rfl⟩
 ·have hd8 : 0 ≤ c.dim ∧ c.dim ≤ 8 := by simp [dimBad] at hdb; omega
  refine SC.skip (ST.thenN (SC.seq (SC.region (SL.U (SU.fieldAddr underlying51 rfl sizeOf49 rfl) (SL.K (SQ.load (v := .slice rp c.sides.length rcap) isAgg49 rfl (CellAt.own 0 rfl rfl)) (SL.U (SU.lenN underlying49 rfl) (SL.A rfl (SL.nil (ST.thenN (SC.seq ?_))))))))))
  refine SC.cutB 48 (cntBad c) ?_ ?_
  ·refine SC.region (SL.U (SU.fieldAddr underlying51 rfl sizeOf3 rfl) (SL.K (SQ.load (v := vi c.dim) isAgg3 rfl (CellAt.own 0 rfl rfl)) (SL.U (SU.eql rfl rfl) (SL.M rfl ?_))))
   refine SL.split ?_ ?_
   ·intro h23
    refine SL.Y rfl rfl rfl (SU.move rfl) (SL.Y rfl rfl rfl (SU.gtr rfl rfl) (SL.U (SU.pickT rfl rfl) (SL.M rfl ?_)))
    refine SL.split ?_ ?_
    ·intro h27
     refine SL.Z rfl rfl rfl (SL.Z rfl rfl rfl (SL.Z rfl rfl rfl (SL.Z rfl rfl rfl (SL.off (Gd.off rfl rfl rfl dC) dC (SL.off (Gd.off rfl rfl rfl dC) dC (SL.Z rfl rfl rfl (SL.U (SU.pickT rfl rfl) (SL.M rfl (SL.Z rfl rfl rfl (SL.Z rfl rfl rfl (SL.Z rfl rfl rfl (SL.Z rfl rfl rfl (SL.off (Gd.off rfl rfl rfl dC) dC (SL.off (Gd.off rfl rfl rfl dC) dC (SL.off (Gd.off rfl rfl rfl dC) dC (SL.off (Gd.off rfl rfl rfl dC) dC (SL.off (Gd.off rfl rfl rfl dC) dC (SL.off (Gd.off rfl rfl rfl dC) dC (SL.Z rfl rfl rfl (SL.U (SU.pickT rfl rfl) (SL.nil ?_)))))))))))))))))))))
     exact ST.mid1 (by simp_all [get?, cntBad] <;> omega) mI
    ·intro h27
     refine SL.Y rfl rfl rfl (SU.fieldAddr underlying51 rfl sizeOf3 rfl) (SL.gq (Gd.onT rfl rfl rfl dC) (SQ.load (v := vi c.dim) isAgg3 rfl (CellAt.own 0 rfl rfl)) dC (SL.Y rfl rfl rfl (SU.eql rfl rfl) (SL.Y rfl rfl rfl (SU.move rfl) ?_)))
     refine SL.split ?_ ?_
     ·intro h31
      refine SL.Y rfl rfl rfl (SU.move rfl) (SL.Y rfl rfl rfl (SU.neq rfl rfl) (SL.Y rfl rfl rfl (SU.pickT rfl rfl) (SL.U (SU.pickF rfl rfl) (SL.M rfl ?_))))
      refine SL.split ?_ ?_
      ·intro h36
       refine SL.Z rfl rfl rfl (SL.Z rfl rfl rfl (SL.Z rfl rfl rfl (SL.Z rfl rfl rfl (SL.off (Gd.off rfl rfl rfl dC) dC (SL.off (Gd.off rfl rfl rfl dC) dC (SL.off (Gd.off rfl rfl rfl dC) dC (SL.off (Gd.off rfl rfl rfl dC) dC (SL.off (Gd.off rfl rfl rfl dC) dC (SL.off (Gd.off rfl rfl rfl dC) dC (SL.Z rfl rfl rfl (SL.U (SU.pickT rfl rfl) (SL.nil ?_))))))))))))
       exact ST.mid1 (by simp_all [get?, cntBad] <;> omega) mI
      ·intro h36
       refine SL.Y rfl rfl rfl (SU.fieldAddr underlying51 rfl sizeOf3 rfl) (SL.gq (Gd.onT rfl rfl rfl dC) (SQ.load (v := vi c.dim) isAgg3 rfl (CellAt.own 0 rfl rfl)) dC (SL.Y rfl rfl rfl (SU.gtr rfl rfl) (SL.Y rfl rfl rfl (SU.move rfl) ?_)))
       refine SL.split ?_ ?_
       ·intro h40
        refine SL.Y rfl rfl rfl (SU.move rfl) (SL.Y rfl rfl rfl (SU.lss rfl rfl) (SL.Y rfl rfl rfl (SU.move rfl) ?_))
        refine SL.split ?_ ?_
        ·intro h43
         refine SL.Z rfl rfl rfl (SL.Z rfl rfl rfl (SL.Y rfl rfl rfl (SU.pickT rfl rfl) (SL.Y rfl rfl rfl (SU.pickT rfl rfl) (SL.U (SU.pickF rfl rfl) (SL.nil ?_)))))
         exact ST.mid1 (by simp_all [get?, cntBad] <;> omega) mI
        ·intro h43
         refine SL.Y rfl rfl rfl (SU.move rfl) (SL.Y rfl rfl rfl (SU.gtr rfl rfl) (SL.Y rfl rfl rfl (SU.pickF rfl rfl) (SL.Y rfl rfl rfl (SU.pickT rfl rfl) (SL.U (SU.pickF rfl rfl) (SL.nil ?_)))))
         exact ST.mid1 (by simp_all [get?, cntBad] <;> omega) mI
       ·intro h40
        refine SL.Z rfl rfl rfl (SL.Z rfl rfl rfl (SL.Z rfl rfl rfl (SL.off (Gd.off rfl rfl rfl dC) dC (SL.off (Gd.off rfl rfl rfl dC) dC (SL.Z rfl rfl rfl (SL.Y rfl rfl rfl (SU.pickF rfl rfl) (SL.U (SU.pickF rfl rfl) (SL.nil ?_))))))))
        exact ST.mid1 (by simp_all [get?, cntBad] <;> omega) mI
     ·intro h31
      refine SL.Z rfl rfl rfl (SL.Z rfl rfl rfl (SL.Y rfl rfl rfl (SU.pickF rfl rfl) (SL.U (SU.pickF rfl rfl) (SL.M rfl (SL.Y rfl rfl rfl (SU.fieldAddr underlying51 rfl sizeOf3 rfl) (SL.gq (Gd.onT rfl rfl rfl dC) (SQ.load (v := vi c.dim) isAgg3 rfl (CellAt.own 0 rfl rfl)) dC (SL.Y rfl rfl rfl (SU.gtr rfl rfl) (SL.Y rfl rfl rfl (SU.move rfl) ?_))))))))
      refine SL.split ?_ ?_
      ·intro h40
       refine SL.Y rfl rfl rfl (SU.move rfl) (SL.Y rfl rfl rfl (SU.lss rfl rfl) (SL.Y rfl rfl rfl (SU.move rfl) ?_))
       refine SL.split ?_ ?_
       ·intro h43
        refine SL.Z rfl rfl rfl (SL.Z rfl rfl rfl (SL.Y rfl rfl rfl (SU.pickT rfl rfl) (SL.Y rfl rfl rfl (SU.pickT rfl rfl) (SL.U (SU.pickF rfl rfl) (SL.nil ?_)))))
        exact ST.mid1 (by simp_all [get?, cntBad] <;> omega) mI
       ·intro h43
        refine SL.Y rfl rfl rfl (SU.move rfl) (SL.Y rfl rfl rfl (SU.gtr rfl rfl) (SL.Y rfl rfl rfl (SU.pickF rfl rfl) (SL.Y rfl rfl rfl (SU.pickT rfl rfl) (SL.U (SU.pickF rfl rfl) (SL.nil ?_)))))
        exact ST.mid1 (by simp_all [get?, cntBad] <;> omega) mI
      ·intro h40
       refine SL.Z rfl rfl rfl (SL.Z rfl rfl rfl (SL.Z rfl rfl rfl (SL.off (Gd.off rfl rfl rfl dC) dC (SL.off (Gd.off rfl rfl rfl dC) dC (SL.Z rfl rfl rfl (SL.Y rfl rfl rfl (SU.pickF rfl rfl) (SL.U (SU.pickF rfl rfl) (SL.nil ?_))))))))
       exact ST.mid1 (by simp_all [get?, cntBad] <;> omega) mI
   ·intro h23
    refine SL.Z rfl rfl rfl (SL.Z rfl rfl rfl (SL.U (SU.pickF rfl rfl) (SL.M rfl (SL.Y rfl rfl rfl (SU.fieldAddr underlying51 rfl sizeOf3 rfl) (SL.gq (Gd.onT rfl rfl rfl dC) (SQ.load (v := vi c.dim) isAgg3 rfl (CellAt.own 0 rfl rfl)) dC (SL.Y rfl rfl rfl (SU.eql rfl rfl) (SL.Y rfl rfl rfl (SU.move rfl) ?_)))))))
    refine SL.split ?_ ?_
    ·intro h31
     refine SL.Y rfl rfl rfl (SU.move rfl) (SL.Y rfl rfl rfl (SU.neq rfl rfl) (SL.Y rfl rfl rfl (SU.pickT rfl rfl) (SL.U (SU.pickF rfl rfl) (SL.M rfl ?_))))
     refine SL.split ?_ ?_
     ·intro h36
      refine SL.Z rfl rfl rfl (SL.Z rfl rfl rfl (SL.Z rfl rfl rfl (SL.Z rfl rfl rfl (SL.off (Gd.off rfl rfl rfl dC) dC (SL.off (Gd.off rfl rfl rfl dC) dC (SL.off (Gd.off rfl rfl rfl dC) dC (SL.off (Gd.off rfl rfl rfl dC) dC (SL.off (Gd.off rfl rfl rfl dC) dC (SL.off (Gd.off rfl rfl rfl dC) dC (SL.Z rfl rfl rfl (SL.U (SU.pickT rfl rfl) (SL.nil ?_))))))))))))
      exact ST.mid1 (by simp_all [get?, cntBad] <;> omega) mI
     ·intro h36
      refine SL.Y rfl rfl rfl (SU.fieldAddr underlying51 rfl sizeOf3 rfl) (SL.gq (Gd.onT rfl rfl rfl dC) (SQ.load (v := vi c.dim) isAgg3 rfl (CellAt.own 0 rfl rfl)) dC (SL.Y rfl rfl rfl (SU.gtr rfl rfl) (SL.Y rfl rfl rfl (SU.move rfl) ?_)))
      refine SL.split ?_ ?_
      ·intro h40
       refine SL.Y rfl rfl rfl (SU.move rfl) (SL.Y rfl rfl rfl (SU.lss rfl rfl) (SL.Y rfl rfl rfl (SU.move rfl) ?_))
       refine SL.split ?_ ?_
       ·intro h43
        refine SL.Z rfl rfl rfl (SL.Z rfl rfl rfl (SL.Y rfl rfl rfl (SU.pickT rfl rfl) (SL.Y rfl rfl rfl (SU.pickT rfl rfl) (SL.U (SU.pickF rfl rfl) (SL.nil ?_)))))
        exact ST.mid1 (by simp_all [get?, cntBad] <;> omega) mI
       ·intro h43
        refine SL.Y rfl rfl rfl (SU.move rfl) (SL.Y rfl rfl rfl (SU.gtr rfl rfl) (SL.Y rfl rfl rfl (SU.pickF rfl rfl) (SL.Y rfl rfl rfl (SU.pickT rfl rfl) (SL.U (SU.pickF rfl rfl) (SL.nil ?_)))))
        exact ST.mid1 (by simp_all [get?, cntBad] <;> omega) mI
      ·intro h40
       refine SL.Z rfl rfl rfl (SL.Z rfl rfl rfl (SL.Z rfl rfl rfl (SL.off (Gd.off rfl rfl rfl dC) dC (SL.off (Gd.off rfl rfl rfl dC) dC (SL.Z rfl rfl rfl (SL.Y rfl rfl rfl (SU.pickF rfl rfl) (SL.U (SU.pickF rfl rfl) (SL.nil ?_))))))))
       exact ST.mid1 (by simp_all [get?, cntBad] <;> omega) mI
    ·intro h31
     refine SL.Z rfl rfl rfl (SL.Z rfl rfl rfl (SL.Y rfl rfl rfl (SU.pickF rfl rfl) (SL.U (SU.pickF rfl rfl) (SL.M rfl (SL.Y rfl rfl rfl (SU.fieldAddr underlying51 rfl sizeOf3 rfl) (SL.gq (Gd.onT rfl rfl rfl dC) (SQ.load (v := vi c.dim) isAgg3 rfl (CellAt.own 0 rfl rfl)) dC (SL.Y rfl rfl rfl (SU.gtr rfl rfl) (SL.Y rfl rfl rfl (SU.move rfl) ?_))))))))
     refine SL.split ?_ ?_
     ·intro h40
      refine SL.Y rfl rfl rfl (SU.move rfl) (SL.Y rfl rfl rfl (SU.lss rfl rfl) (SL.Y rfl rfl rfl (SU.move rfl) ?_))
      refine SL.split ?_ ?_
      ·intro h43
       refine SL.Z rfl rfl rfl (SL.Z rfl rfl rfl (SL.Y rfl rfl rfl (SU.pickT rfl rfl) (SL.Y rfl rfl rfl (SU.pickT rfl rfl) (SL.U (SU.pickF rfl rfl) (SL.nil ?_)))))
       exact ST.mid1 (by simp_all [get?, cntBad] <;> omega) mI
      ·intro h43
       refine SL.Y rfl rfl rfl (SU.move rfl) (SL.Y rfl rfl rfl (SU.gtr rfl rfl) (SL.Y rfl rfl rfl (SU.pickF rfl rfl) (SL.Y rfl rfl rfl (SU.pickT rfl rfl) (SL.U (SU.pickF rfl rfl) (SL.nil ?_)))))
       exact ST.mid1 (by simp_all [get?, cntBad] <;> omega) mI
     ·intro h40
      refine SL.Z rfl rfl rfl (SL.Z rfl rfl rfl (SL.Z rfl rfl rfl (SL.off (Gd.off rfl rfl rfl dC) dC (SL.off (Gd.off rfl rfl rfl dC) dC (SL.Z rfl rfl rfl (SL.Y rfl rfl rfl (SU.pickF rfl rfl) (SL.U (SU.pickF rfl rfl) (SL.nil ?_))))))))
      exact ST.mid1 (by simp_all [get?, cntBad] <;> omega) mI
  refine SC.ifB rfl (fun hcb => ?_) (fun hcb => ?_)
  ·refine SC.seq (SC.region (SL.A rfl (SL.nil (ST.thenN (SC.ret (ST.thenR (ST.drop (s' := s) (.cons _ (.refl _)) ?_)))))))
   exact ST.ret1 (.inl rfl) results131 rfl ⟨by unfold formC; rw [if_neg (by simp [hdb]), if_pos hcb], rfl, rfl⟩
  ·refine SC.skip (ST.thenN (SC.seq (SC.seq (SC.region (SL.A rfl (SL.nil (ST.thenN (SC.block ?_))))))))
   refine SC.loop (ι := Nat) (fun k => [(0, .slice vp rs.length vc), (3, pp b3 0), (5, vi c.sides.length), (6, vi k)]) (fun _ => g)
    (fun _ => pt b3 (.cells #[vi c.id, vi c.dim, .slice rp c.sides.length rcap] 51 (0, 0)) :: s) (fun k => k ≤ c.sides.length ∧ (List.range k).any (badAt tl c) = false) (fun k => c.sides.length - k) 0
    ⟨rfl, rfl, rfl, rfl, trivial⟩ rfl rfl ⟨Nat.zero_le _, by simp⟩ ?_
   rintro k ⟨hk, hno⟩
   refine SC.seq (SC.seq (SC.region (SL.M rfl (SL.M rfl (SL.U (SU.lss rfl rfl) (SL.nil (ST.thenN ?_)))))))
   refine SC.ifP rfl (fun hlt => ?_) (fun hlt => ?_)
   ·have hkl : k < c.sides.length := oM
    have hb1 := hx0 oM
    have hjx : c.sides[((k : Nat) : Int).toNat]? = some c.sides[k] := List.getElem?_eq_getElem hkl
    have hjx' : c.sides[k]? = some c.sides[k] := List.getElem?_eq_getElem hkl
    have hprev : (k : Int) > 0 → ∃ q, c.sides[((k : Int) - 1).toNat]? = some q ∧ c.sides[k - 1]? = some q := fun h => by
     have h2 : k - 1 < c.sides.length := oM
     exact ⟨c.sides[k - 1], by rw [show ((k : Int) - 1).toNat = k - 1 by omega]; exact List.getElem?_eq_getElem h2, List.getElem?_eq_getElem h2⟩
    generalize c.sides[k] = y at *
    have hbat : badAt tl c k = badSide tl c k y := by unfold badAt; rw [hjx']
    have hT : badSide tl c k y = true → (List.range c.sides.length).any (badAt tl c) = true := fun h => List.any_eq_true.2 ⟨k, List.mem_range.2 hkl, by rw [hbat]; exact h⟩
    have hF : badSide tl c k y = false → (List.range (k + 1)).any (badAt tl c) = false := fun h => by rw [List.range_succ, List.any_append, hno]; simp [hbat, h]
    rcases at_find hs y.cell with ⟨hfn, hat⟩ | ⟨yc, kk, hfs, hat, hyc⟩
    ·have hbad : badSide tl c k y = true := badSide_a (by rw [hfn]; simp)
     refine SC.skip (ST.thenN (SC.seq (SC.block (SC.seq (SC.region (SL.M rfl (SL.U (SU.fieldAddr underlying51 rfl sizeOf49 rfl) (SL.K (SQ.load (v := .slice rp c.sides.length rcap) isAgg49 rfl (CellAt.own 0 rfl rfl)) (SL.M rfl (SL.U (SU.indexAddr underlying49 sizeOf55 rfl rfl hb1 oM sL) (SL.U (SU.fieldAddrC underlying55 rfl sizeOf3 rfl hb1) (SL.K (SQ.partA (e := encSide) (o := 0) (u := vi y.cell) isAgg3 rfl hcs.rd hjx rfl) (SL.W (SO.call call62 rfl (at_spec E g _ _ tl y.cell hv htl hs)) ?_)))))))))))))
     rintro _ _ _ ⟨rfl, rfl, rfl⟩
     rw [hat]
     refine SL.A rfl (SL.nil (ST.thenN (SC.seq ?_)))
     refine SC.draw [] [(0, 2), (1, 2), (2, 2), (3, 2), (4, 2), (5, 2), (6, 2), (7, 1), (8, 2), (9, 1), (10, 2), (11, 2), (12, 2), (13, 2), (14, 2), (15, 2), (16, 2), (17, 2), (18, 1), (19, 2), (20, 2), (21, 2), (22, 1), (23, 2), (24, 1), (25, 2), (26, 2), (27, 2), (28, 2), (29, 1), (30, 2), (31, 2), (32, 2)] Tryz.mixed (by kernel_rfl) ?_
     refine SP.U (i := 0) rfl (SU.move rfl) (SP.U (i := 1) rfl (SU.eq (v' := vb true) (SU.lss rfl rfl) rfl) (SP.U (i := 2) rfl (SU.move rfl) (SP.off (i := 3) rfl (Gd.onF rfl rfl rfl dC) dC (SP.off (i := 4) rfl (Gd.onF rfl rfl rfl dC) dC (SP.off (i := 5) rfl (Gd.onF rfl rfl rfl dC) dC (SP.off (i := 6) rfl (Gd.onF rfl rfl rfl dC) dC (SP.off1 (i := 7) rfl (Gd.onF rfl rfl rfl dC) dC (SP.off (i := 8) rfl (Gd.onF rfl rfl rfl dC) dC (SP.off1 (i := 9) rfl (Gd.onF rfl rfl rfl dC) dC (SP.off (i := 10) rfl (Gd.onF rfl rfl rfl dC) dC (SP.off (i := 11) rfl (Gd.onF rfl rfl rfl dC) dC (SP.U (i := 12) rfl (SU.pickT rfl rfl) (SP.U (i := 13) rfl (SU.move rfl) (SP.off (i := 14) rfl (Gd.onF rfl rfl rfl dC) dC (SP.off (i := 15) rfl (Gd.onF rfl rfl rfl dC) dC (SP.off (i := 16) rfl (Gd.onF rfl rfl rfl dC) dC (SP.off (i := 17) rfl (Gd.off rfl rfl rfl dC) dC (SP.off1 (i := 18) rfl (Gd.off rfl rfl rfl dC) dC (SP.off (i := 19) rfl (Gd.off rfl rfl rfl dC) dC (SP.off (i := 20) rfl (Gd.off rfl rfl rfl dC) dC (SP.off (i := 21) rfl (Gd.off rfl rfl rfl dC) dC (SP.off1 (i := 22) rfl (Gd.off rfl rfl rfl dC) dC (SP.off (i := 23) rfl (Gd.off rfl rfl rfl dC) dC (SP.off1 (i := 24) rfl (Gd.off rfl rfl rfl dC) dC (SP.off (i := 25) rfl (Gd.off rfl rfl rfl dC) dC (SP.off (i := 26) rfl (Gd.off rfl rfl rfl dC) dC (SP.off (i := 27) rfl (Gd.off rfl rfl rfl dC) dC (SP.off (i := 28) rfl (Gd.off rfl rfl rfl dC) dC (SP.off1 (i := 29) rfl (Gd.off rfl rfl rfl dC) dC ?_)))))))))))))))))))))))))))))
     refine SP.off (i := 30) rfl (Gd.off rfl rfl rfl dC) dC (SP.off (i := 31) rfl (Gd.onF rfl rfl rfl dC) dC (SP.U (i := 32) rfl (SU.pickT rfl rfl) (SP.nil (ST.thenN (SC.condT rfl (SC.seq (SC.region (SL.A rfl (SL.nil (ST.thenN (SC.ret (ST.blockR (ST.thenR (ST.thenR (ST.blockR (ST.thenR (ST.drop (s' := s) (.cons _ (.refl _)) ?_)))))))))))))))))
     exact ST.ret1 (.inl rfl) results131 rfl ⟨by unfold formC; rw [if_neg (by simp [hdb]), if_neg (by simp [hcb]), if_pos (hT hbad)], rfl, rfl⟩
    ·have hkk : kk < tl.length := (List.getElem?_eq_some_iff.1 hyc).1
     have hkr : kk < rs.length := oM
     have hbv := hrs.based oM
     have hyr := hall.get hyc (List.getElem?_eq_getElem hkr)
     have hgr : rs[((kk : Nat) : Int).toNat]? = some rs[kk] := List.getElem?_eq_getElem hkr
     have hsome : (findT tl y.cell).isSome = true := by rw [hfs]; rfl
     have hget : ((findT tl y.cell).getD zeroC) = yc := by rw [hfs]; rfl
     by_cases hdm : yc.dim ≠ c.dim - 1
     ·have hbad : badSide tl c k y = true := badSide_b hsome (by rw [hget]; exact hdm)
      refine SC.skip (ST.thenN (SC.seq (SC.block (SC.seq (SC.region (SL.M rfl (SL.U (SU.fieldAddr underlying51 rfl sizeOf49 rfl) (SL.K (SQ.load (v := .slice rp c.sides.length rcap) isAgg49 rfl (CellAt.own 0 rfl rfl)) (SL.M rfl (SL.U (SU.indexAddr underlying49 sizeOf55 rfl rfl hb1 oM sL) (SL.U (SU.fieldAddrC underlying55 rfl sizeOf3 rfl hb1) (SL.K (SQ.partA (e := encSide) (o := 0) (u := vi y.cell) isAgg3 rfl hcs.rd hjx rfl) (SL.W (SO.call call62 rfl (at_spec E g _ _ tl y.cell hv htl hs)) ?_)))))))))))))
      rintro _ _ _ ⟨rfl, rfl, rfl⟩
      rw [hat]
      refine SL.A rfl (SL.nil (ST.thenN (SC.seq ?_)))
      refine SC.draw [] [(0, 2), (1, 2), (2, 2), (3, 2), (4, 2), (5, 2), (6, 2), (7, 1), (8, 2), (9, 1), (10, 2), (11, 2), (12, 2), (13, 2), (14, 2), (15, 2), (16, 2), (17, 2), (18, 1), (19, 2), (20, 2), (21, 2), (22, 1), (23, 2), (24, 1), (25, 2), (26, 2), (27, 2), (28, 2), (29, 1), (30, 2), (31, 2), (32, 2)] Tryz.mixed (by kernel_rfl) ?_
      refine SP.U (i := 0) rfl (SU.move rfl) (SP.U (i := 1) rfl (SU.eq (v' := vb false) (SU.lss rfl rfl) (congrArg vb (decide_eq_false oM))) (SP.U (i := 2) rfl (SU.move rfl) (SP.gu (i := 3) rfl (Gd.onT rfl rfl rfl dC) (SU.move rfl) dC (SP.gu (i := 4) rfl (Gd.onT rfl rfl rfl dC) (SU.move rfl) dC (SP.gu (i := 5) rfl (Gd.onT rfl rfl rfl dC) (SU.indexAddr underlying25 sizeOf51 rfl rfl hbv oM sL) dC (SP.gu (i := 6) rfl (Gd.onT rfl rfl rfl dC) (SU.fieldAddrC underlying51 rfl sizeOf3 rfl hbv) dC (SP.gq (i := 7) rfl (Gd.onT rfl rfl rfl dC) (SQ.partA (e := encCell) (o := 1) (u := vi rs[kk].dim) isAgg3 rfl hrs.rd hgr rfl) dC (SP.gu (i := 8) rfl (Gd.onT rfl rfl rfl dC) (SU.fieldAddr underlying51 rfl sizeOf3 rfl) dC (SP.gq (i := 9) rfl (Gd.onT rfl rfl rfl dC) (SQ.load (v := vi c.dim) isAgg3 rfl (CellAt.own 0 rfl rfl)) dC (SP.gu (i := 10) rfl (Gd.onT rfl rfl rfl dC) (SU.sub rfl rfl oM) dC (SP.gu (i := 11) rfl (Gd.onT rfl rfl rfl dC) (SU.eq (v' := vb true) (SU.neq rfl rfl) (congrArg vb (decide_eq_true (by rw [hyr.2.1]; exact hdm)))) dC ?_)))))))))))
      refine SP.U (i := 12) rfl (SU.pickF rfl rfl) (SP.U (i := 13) rfl (SU.move rfl) (SP.off (i := 14) rfl (Gd.onF rfl rfl rfl dC) dC (SP.off (i := 15) rfl (Gd.onF rfl rfl rfl dC) dC (SP.off (i := 16) rfl (Gd.onF rfl rfl rfl dC) dC (SP.off (i := 17) rfl (Gd.off rfl rfl rfl dC) dC (SP.off1 (i := 18) rfl (Gd.off rfl rfl rfl dC) dC (SP.off (i := 19) rfl (Gd.off rfl rfl rfl dC) dC (SP.off (i := 20) rfl (Gd.off rfl rfl rfl dC) dC (SP.off (i := 21) rfl (Gd.off rfl rfl rfl dC) dC (SP.off1 (i := 22) rfl (Gd.off rfl rfl rfl dC) dC (SP.off (i := 23) rfl (Gd.off rfl rfl rfl dC) dC (SP.off1 (i := 24) rfl (Gd.off rfl rfl rfl dC) dC (SP.off (i := 25) rfl (Gd.off rfl rfl rfl dC) dC (SP.off (i := 26) rfl (Gd.off rfl rfl rfl dC) dC (SP.off (i := 27) rfl (Gd.off rfl rfl rfl dC) dC (SP.off (i := 28) rfl (Gd.off rfl rfl rfl dC) dC (SP.off1 (i := 29) rfl (Gd.off rfl rfl rfl dC) dC (SP.off (i := 30) rfl (Gd.off rfl rfl rfl dC) dC (SP.off (i := 31) rfl (Gd.onF rfl rfl rfl dC) dC (SP.U (i := 32) rfl (SU.pickT rfl rfl) (SP.nil (ST.thenN (SC.condT rfl (SC.seq (SC.region (SL.A rfl (SL.nil (ST.thenN (SC.ret ?_)))))))))))))))))))))))))))))
      refine ST.blockR (ST.thenR (ST.thenR (ST.blockR (ST.thenR (ST.drop (s' := s) (.cons _ (.refl _)) ?_)))))
      exact ST.ret1 (.inl rfl) results131 rfl ⟨by unfold formC; rw [if_neg (by simp [hdb]), if_neg (by simp [hcb]), if_pos (hT hbad)], rfl, rfl⟩
     ·by_cases hk0 : (k : Int) > 0
      ·obtain ⟨q, hq1, hq2⟩ := hprev hk0
       have hbd := badSide_d (i := k) hsome (by rw [hget]; exact hdm) hk0 hq2
       refine SC.skip (ST.thenN (SC.seq (SC.block (SC.seq (SC.region (SL.M rfl (SL.U (SU.fieldAddr underlying51 rfl sizeOf49 rfl) (SL.K (SQ.load (v := .slice rp c.sides.length rcap) isAgg49 rfl (CellAt.own 0 rfl rfl)) (SL.M rfl (SL.U (SU.indexAddr underlying49 sizeOf55 rfl rfl hb1 oM sL) (SL.U (SU.fieldAddrC underlying55 rfl sizeOf3 rfl hb1) (SL.K (SQ.partA (e := encSide) (o := 0) (u := vi y.cell) isAgg3 rfl hcs.rd hjx rfl) (SL.W (SO.call call62 rfl (at_spec E g _ _ tl y.cell hv htl hs)) ?_)))))))))))))
       rintro _ _ _ ⟨rfl, rfl, rfl⟩
       rw [hat]
       refine SL.A rfl (SL.nil (ST.thenN (SC.seq ?_)))
       refine SC.draw [] [(0, 2), (1, 2), (2, 2), (3, 2), (4, 2), (5, 2), (6, 2), (7, 1), (8, 2), (9, 1), (10, 2), (11, 2), (12, 2), (13, 2), (14, 2), (15, 2), (16, 2), (17, 2), (18, 1), (19, 2), (20, 2), (21, 2), (22, 1), (23, 2), (24, 1), (25, 2), (26, 2), (27, 2), (28, 2), (29, 1), (30, 2), (31, 2), (32, 2)] Tryz.mixed (by kernel_rfl) ?_
       refine SP.U (i := 0) rfl (SU.move rfl) (SP.U (i := 1) rfl (SU.eq (v' := vb false) (SU.lss rfl rfl) (congrArg vb (decide_eq_false oM))) (SP.U (i := 2) rfl (SU.move rfl) (SP.gu (i := 3) rfl (Gd.onT rfl rfl rfl dC) (SU.move rfl) dC (SP.gu (i := 4) rfl (Gd.onT rfl rfl rfl dC) (SU.move rfl) dC (SP.gu (i := 5) rfl (Gd.onT rfl rfl rfl dC) (SU.indexAddr underlying25 sizeOf51 rfl rfl hbv oM sL) dC (SP.gu (i := 6) rfl (Gd.onT rfl rfl rfl dC) (SU.fieldAddrC underlying51 rfl sizeOf3 rfl hbv) dC (SP.gq (i := 7) rfl (Gd.onT rfl rfl rfl dC) (SQ.partA (e := encCell) (o := 1) (u := vi rs[kk].dim) isAgg3 rfl hrs.rd hgr rfl) dC (SP.gu (i := 8) rfl (Gd.onT rfl rfl rfl dC) (SU.fieldAddr underlying51 rfl sizeOf3 rfl) dC (SP.gq (i := 9) rfl (Gd.onT rfl rfl rfl dC) (SQ.load (v := vi c.dim) isAgg3 rfl (CellAt.own 0 rfl rfl)) dC (SP.gu (i := 10) rfl (Gd.onT rfl rfl rfl dC) (SU.sub rfl rfl oM) dC (SP.gu (i := 11) rfl (Gd.onT rfl rfl rfl dC) (SU.eq (v' := vb false) (SU.neq rfl rfl) (congrArg vb (decide_eq_false (by rw [hyr.2.1]; exact hdm)))) dC ?_)))))))))))
       refine SP.U (i := 12) rfl (SU.pickF rfl rfl) (SP.U (i := 13) rfl (SU.move rfl) (SP.gu (i := 14) rfl (Gd.onT rfl rfl rfl dC) (SU.move rfl) dC (SP.gu (i := 15) rfl (Gd.onT rfl rfl rfl dC) (SU.eq (v' := vb true) (SU.gtr rfl rfl) (congrArg vb (decide_eq_true hk0))) dC (SP.gu (i := 16) rfl (Gd.onT rfl rfl rfl dC) (SU.move rfl) dC (SP.gu (i := 17) rfl (Gd.onT rfl rfl rfl dC) (SU.fieldAddr underlying51 rfl sizeOf49 rfl) dC (SP.gq (i := 18) rfl (Gd.onT rfl rfl rfl dC) (SQ.load (v := .slice rp c.sides.length rcap) isAgg49 rfl (CellAt.own 0 rfl rfl)) dC (SP.gu (i := 19) rfl (Gd.onT rfl rfl rfl dC) (SU.move rfl) dC (SP.gu (i := 20) rfl (Gd.onT rfl rfl rfl dC) (SU.indexAddr underlying49 sizeOf55 rfl rfl hb1 oM sL) dC (SP.gu (i := 21) rfl (Gd.onT rfl rfl rfl dC) (SU.fieldAddrC underlying55 rfl sizeOf3 rfl hb1) dC (SP.gq (i := 22) rfl (Gd.onT rfl rfl rfl dC) (SQ.partA (e := encSide) (o := 0) (u := vi y.cell) isAgg3 rfl hcs.rd hjx rfl) dC (SP.gu (i := 23) rfl (Gd.onT rfl rfl rfl dC) (SU.fieldAddr underlying51 rfl sizeOf49 rfl) dC (SP.gq (i := 24) rfl (Gd.onT rfl rfl rfl dC) (SQ.load (v := .slice rp c.sides.length rcap) isAgg49 rfl (CellAt.own 0 rfl rfl)) dC (SP.gu (i := 25) rfl (Gd.onT rfl rfl rfl dC) (SU.move rfl) dC (SP.gu (i := 26) rfl (Gd.onT rfl rfl rfl dC) (SU.sub rfl rfl oM) dC (SP.gu (i := 27) rfl (Gd.onT rfl rfl rfl dC) (SU.indexAddr underlying49 sizeOf55 rfl rfl hb1 oM sL) dC (SP.gu (i := 28) rfl (Gd.onT rfl rfl rfl dC) (SU.fieldAddrC underlying55 rfl sizeOf3 rfl hb1) dC (SP.gq (i := 29) rfl (Gd.onT rfl rfl rfl dC) (SQ.partA (e := encSide) (o := 0) (u := vi q.cell) isAgg3 rfl hcs.rd hq1 rfl) dC (SP.gu (i := 30) rfl (Gd.onT rfl rfl rfl dC) (SU.eql rfl rfl) dC (SP.gu (i := 31) rfl (Gd.onT rfl rfl rfl dC) (SU.pickT rfl rfl) dC (SP.U (i := 32) rfl (SU.pickF rfl rfl) (SP.nil (ST.thenN ?_))))))))))))))))))))))
       refine SC.ifP rfl (fun heq => ?_) (fun heq => ?_)
       ·refine SC.seq (SC.region (SL.A rfl (SL.nil (ST.thenN (SC.ret (ST.blockR (ST.thenR (ST.thenR (ST.blockR (ST.thenR (ST.drop (s' := s) (.cons _ (.refl _)) ?_)))))))))))
        exact ST.ret1 (.inl rfl) results131 rfl ⟨by unfold formC; rw [if_neg (by simp [hdb]), if_neg (by simp [hcb]), if_pos (hT (by rw [hbd]; exact decide_eq_true heq.symm))], rfl, rfl⟩
       ·refine SC.skip (ST.blockN (ST.thenN (SC.region (SL.M rfl (SL.U (SU.add rfl rfl oM) (SL.A rfl (SL.nil ?_)))))))
        exact ST.again (k + 1) ⟨rfl, rfl, rfl, rfl, trivial⟩ rfl rfl ⟨oM, hF (by rw [hbd]; exact decide_eq_false fun e => heq e.symm)⟩ oM
      ·have hbd := badSide_c (i := k) (x := y) hsome (by rw [hget]; exact hdm) hk0
       refine SC.skip (ST.thenN (SC.seq (SC.block (SC.seq (SC.region (SL.M rfl (SL.U (SU.fieldAddr underlying51 rfl sizeOf49 rfl) (SL.K (SQ.load (v := .slice rp c.sides.length rcap) isAgg49 rfl (CellAt.own 0 rfl rfl)) (SL.M rfl (SL.U (SU.indexAddr underlying49 sizeOf55 rfl rfl hb1 oM sL) (SL.U (SU.fieldAddrC underlying55 rfl sizeOf3 rfl hb1) (SL.K (SQ.partA (e := encSide) (o := 0) (u := vi y.cell) isAgg3 rfl hcs.rd hjx rfl) (SL.W (SO.call call62 rfl (at_spec E g _ _ tl y.cell hv htl hs)) ?_)))))))))))))
       rintro _ _ _ ⟨rfl, rfl, rfl⟩
       rw [hat]
       refine SL.A rfl (SL.nil (ST.thenN (SC.seq ?_)))
       refine SC.draw [] [(0, 2), (1, 2), (2, 2), (3, 2), (4, 2), (5, 2), (6, 2), (7, 1), (8, 2), (9, 1), (10, 2), (11, 2), (12, 2), (13, 2), (14, 2), (15, 2), (16, 2), (17, 2), (18, 1), (19, 2), (20, 2), (21, 2), (22, 1), (23, 2), (24, 1), (25, 2), (26, 2), (27, 2), (28, 2), (29, 1), (30, 2), (31, 2), (32, 2)] Tryz.mixed (by kernel_rfl) ?_
       refine SP.U (i := 0) rfl (SU.move rfl) (SP.U (i := 1) rfl (SU.eq (v' := vb false) (SU.lss rfl rfl) (congrArg vb (decide_eq_false oM))) (SP.U (i := 2) rfl (SU.move rfl) (SP.gu (i := 3) rfl (Gd.onT rfl rfl rfl dC) (SU.move rfl) dC (SP.gu (i := 4) rfl (Gd.onT rfl rfl rfl dC) (SU.move rfl) dC (SP.gu (i := 5) rfl (Gd.onT rfl rfl rfl dC) (SU.indexAddr underlying25 sizeOf51 rfl rfl hbv oM sL) dC (SP.gu (i := 6) rfl (Gd.onT rfl rfl rfl dC) (SU.fieldAddrC underlying51 rfl sizeOf3 rfl hbv) dC (SP.gq (i := 7) rfl (Gd.onT rfl rfl rfl dC) (SQ.partA (e := encCell) (o := 1) (u := vi rs[kk].dim) isAgg3 rfl hrs.rd hgr rfl) dC (SP.gu (i := 8) rfl (Gd.onT rfl rfl rfl dC) (SU.fieldAddr underlying51 rfl sizeOf3 rfl) dC (SP.gq (i := 9) rfl (Gd.onT rfl rfl rfl dC) (SQ.load (v := vi c.dim) isAgg3 rfl (CellAt.own 0 rfl rfl)) dC (SP.gu (i := 10) rfl (Gd.onT rfl rfl rfl dC) (SU.sub rfl rfl oM) dC (SP.gu (i := 11) rfl (Gd.onT rfl rfl rfl dC) (SU.eq (v' := vb false) (SU.neq rfl rfl) (congrArg vb (decide_eq_false (by rw [hyr.2.1]; exact hdm)))) dC ?_)))))))))))
       refine SP.U (i := 12) rfl (SU.pickF rfl rfl) (SP.U (i := 13) rfl (SU.move rfl) (SP.gu (i := 14) rfl (Gd.onT rfl rfl rfl dC) (SU.move rfl) dC (SP.gu (i := 15) rfl (Gd.onT rfl rfl rfl dC) (SU.eq (v' := vb false) (SU.gtr rfl rfl) (congrArg vb (decide_eq_false hk0))) dC (SP.gu (i := 16) rfl (Gd.onT rfl rfl rfl dC) (SU.move rfl) dC (SP.off (i := 17) rfl (Gd.onF rfl rfl rfl dC) dC (SP.off1 (i := 18) rfl (Gd.onF rfl rfl rfl dC) dC (SP.off (i := 19) rfl (Gd.onF rfl rfl rfl dC) dC (SP.off (i := 20) rfl (Gd.onF rfl rfl rfl dC) dC (SP.off (i := 21) rfl (Gd.onF rfl rfl rfl dC) dC (SP.off1 (i := 22) rfl (Gd.onF rfl rfl rfl dC) dC (SP.off (i := 23) rfl (Gd.onF rfl rfl rfl dC) dC (SP.off1 (i := 24) rfl (Gd.onF rfl rfl rfl dC) dC (SP.off (i := 25) rfl (Gd.onF rfl rfl rfl dC) dC (SP.off (i := 26) rfl (Gd.onF rfl rfl rfl dC) dC (SP.off (i := 27) rfl (Gd.onF rfl rfl rfl dC) dC (SP.off (i := 28) rfl (Gd.onF rfl rfl rfl dC) dC (SP.off1 (i := 29) rfl (Gd.onF rfl rfl rfl dC) dC (SP.off (i := 30) rfl (Gd.onF rfl rfl rfl dC) dC (SP.gu (i := 31) rfl (Gd.onT rfl rfl rfl dC) (SU.pickF rfl rfl) dC (SP.U (i := 32) rfl (SU.pickF rfl rfl) (SP.nil (ST.thenN (SC.condF rfl (SC.skip (ST.blockN (ST.thenN (SC.region (SL.M rfl (SL.U (SU.add rfl rfl oM) ?_)))))))))))))))))))))))))))))
       refine SL.A rfl (SL.nil ?_)
       exact ST.again (k + 1) ⟨rfl, rfl, rfl, rfl, trivial⟩ rfl rfl ⟨oM, hF hbd⟩ oM
   ·refine SC.exit (ST.thenX (ST.thenX (ST.blockX (ST.thenN (SC.seq (SC.seq (SC.region (SL.A rfl (SL.nil (ST.thenN (SC.block ?_)))))))))))
    have hkk : k = c.sides.length := oM
    subst hkk
    refine SC.loop (ι := Nat) (fun k => [(3, pp b3 0), (5, vi c.sides.length), (8, vi k)]) (fun _ => g)
     (fun _ => pt b3 (.cells #[vi c.id, vi c.dim, .slice rp c.sides.length rcap] 51 (0, 0)) :: s) (fun k => k ≤ c.sides.length ∧ (c.sides.take k).any signBad = false) (fun k => c.sides.length - k) 0
     ⟨rfl, rfl, rfl, trivial⟩ rfl rfl ⟨Nat.zero_le _, by simp⟩ ?_
    rintro k ⟨hk2, hns⟩
    refine SC.seq (SC.seq (SC.region (SL.M rfl (SL.M rfl (SL.U (SU.lss rfl rfl) (SL.nil (ST.thenN ?_)))))))
    refine SC.ifP rfl (fun hlt2 => ?_) (fun hlt2 => ?_)
    ·have hkl : k < c.sides.length := oM
     have hb1 := hx0 oM
     have hjx : c.sides[((k : Nat) : Int).toNat]? = some c.sides[k] := List.getElem?_eq_getElem hkl
     have htk : c.sides.take (k + 1) = c.sides.take k ++ [c.sides[k]] := List.take_succ_eq_append_getElem hkl
     have hmemy : c.sides[k] ∈ c.sides := List.getElem_mem hkl
     generalize c.sides[k] = y at *
     refine SC.skip (ST.thenN (SC.seq (SC.block ?_)))
     refine SC.cutB 115 (signBad y) ?_ ?_
     ·refine SC.region (SL.U (SU.fieldAddr underlying51 rfl sizeOf49 rfl) (SL.K (SQ.load (v := .slice rp c.sides.length rcap) isAgg49 rfl (CellAt.own 0 rfl rfl)) (SL.M rfl (SL.U (SU.indexAddr underlying49 sizeOf55 rfl rfl hb1 oM sL) (SL.U (SU.fieldAddrC underlying55 rfl sizeOf3 rfl hb1) (SL.K (SQ.partA (e := encSide) (o := 1) (u := vi y.sign) isAgg3 rfl hcs.rd hjx rfl) (SL.U (SU.neq rfl rfl) (SL.M rfl ?_))))))))
      refine SL.split ?_ ?_
      ·intro h107
       refine SL.Y rfl rfl rfl (SU.fieldAddr underlying51 rfl sizeOf49 rfl) (SL.gq (Gd.onT rfl rfl rfl dC) (SQ.load (v := .slice rp c.sides.length rcap) isAgg49 rfl (CellAt.own 0 rfl rfl)) dC (SL.Y rfl rfl rfl (SU.move rfl) (SL.Y rfl rfl rfl (SU.indexAddr underlying49 sizeOf55 rfl rfl hb1 oM sL) (SL.Y rfl rfl rfl (SU.fieldAddrC underlying55 rfl sizeOf3 rfl hb1) (SL.gq (Gd.onT rfl rfl rfl dC) (SQ.partA (e := encSide) (o := 1) (u := vi y.sign) isAgg3 rfl hcs.rd hjx rfl) dC (SL.Y rfl rfl rfl (SU.neq rfl rfl) (SL.U (SU.pickT rfl rfl) (SL.nil ?_))))))))
       exact ST.mid1 (by exact congrArg (fun b => some (Value.bool b)) (signBad_a h107).symm) mI
      ·intro h107
       refine SL.Z rfl rfl rfl (SL.Z rfl rfl rfl (SL.Z rfl rfl rfl (SL.Z rfl rfl rfl (SL.Z rfl rfl rfl (SL.Z rfl rfl rfl (SL.Z rfl rfl rfl (SL.U (SU.pickF rfl rfl) (SL.nil ?_))))))))
       exact ST.mid1 (by exact congrArg (fun b => some (Value.bool b)) (signBad_b h107).symm) mI
     refine SC.ifB rfl (fun hsg => ?_) (fun hsg => ?_)
     ·refine SC.seq (SC.region (SL.A rfl (SL.nil (ST.thenN (SC.ret (ST.blockR (ST.thenR (ST.thenR (ST.blockR (ST.thenR (ST.drop (s' := s) (.cons _ (.refl _)) ?_)))))))))))
      have hany : c.sides.any signBad = true := List.any_eq_true.2 ⟨y, hmemy, hsg⟩
      exact ST.ret1 (.inl rfl) results131 rfl ⟨by unfold formC; rw [if_neg (by simp [hdb]), if_neg (by simp [hcb]), if_neg (by simp [hno]), if_pos hany], rfl, rfl⟩
     ·refine SC.skip (ST.blockN (ST.thenN (SC.region (SL.M rfl (SL.U (SU.add rfl rfl oM) (SL.A rfl (SL.nil ?_)))))))
      exact ST.again (k + 1) ⟨rfl, rfl, rfl, trivial⟩ rfl rfl ⟨oM, by rw [htk, List.any_append, hns]; simp [hsg]⟩ oM
    ·have hkk : c.sides.take k = c.sides := List.take_of_length_le oM
     rw [hkk] at hns
     by_cases hd1 : c.dim = 1
     ·have h2 : c.sides.length = 2 := by
       simp [cntBad] at hcb
       have := hcb.1.2 hd1
       omega
      obtain ⟨a, b, hab, hsum⟩ := two_signs h2 hns
      have hb1 := hx0 oM
      refine SC.exit (ST.thenX (ST.thenX (ST.blockX (ST.thenN (SC.seq (SC.seq ?_))))))
      refine SC.draw [] [(0, 2), (1, 1), (2, 2), (3, 2), (4, 2), (5, 1), (6, 2), (7, 2), (8, 1), (9, 2), (10, 1), (11, 2), (12, 2), (13, 1), (14, 2), (15, 2)] Tryz.mixed (by kernel_rfl) ?_
      refine SP.U (i := 0) rfl (SU.fieldAddr underlying51 rfl sizeOf3 rfl) (SP.K (i := 1) rfl (SQ.load (v := vi c.dim) isAgg3 rfl (CellAt.own 0 rfl rfl)) (SP.U (i := 2) rfl (SU.eq (v' := vb true) (SU.eql rfl rfl) (congrArg vb (decide_eq_true hd1))) (SP.U (i := 3) rfl (SU.move rfl) (SP.gu (i := 4) rfl (Gd.onT rfl rfl rfl dC) (SU.fieldAddr underlying51 rfl sizeOf49 rfl) dC (SP.gq (i := 5) rfl (Gd.onT rfl rfl rfl dC) (SQ.load (v := .slice rp c.sides.length rcap) isAgg49 rfl (CellAt.own 0 rfl rfl)) dC (SP.gu (i := 6) rfl (Gd.onT rfl rfl rfl dC) (SU.indexAddr underlying49 sizeOf55 rfl rfl hb1 dC sL) dC (SP.gu (i := 7) rfl (Gd.onT rfl rfl rfl dC) (SU.fieldAddrC underlying55 rfl sizeOf3 rfl hb1) dC (SP.gq (i := 8) rfl (Gd.onT rfl rfl rfl dC) (SQ.partA (e := encSide) (j := 0) (o := 1) (u := vi a.sign) (a := a) isAgg3 rfl hcs.rd (by rw [hab]; rfl) rfl) dC ?_))))))))
      refine SP.gu (i := 9) rfl (Gd.onT rfl rfl rfl dC) (SU.fieldAddr underlying51 rfl sizeOf49 rfl) dC (SP.gq (i := 10) rfl (Gd.onT rfl rfl rfl dC) (SQ.load (v := .slice rp c.sides.length rcap) isAgg49 rfl (CellAt.own 0 rfl rfl)) dC (SP.gu (i := 11) rfl (Gd.onT rfl rfl rfl dC) (SU.indexAddr underlying49 sizeOf55 rfl rfl hb1 dC sL) dC (SP.gu (i := 12) rfl (Gd.onT rfl rfl rfl dC) (SU.fieldAddrC underlying55 rfl sizeOf3 rfl hb1) dC (SP.gq (i := 13) rfl (Gd.onT rfl rfl rfl dC) (SQ.partA (e := encSide) (j := 1) (o := 1) (u := vi b.sign) (a := b) isAgg3 rfl hcs.rd (by rw [hab]; rfl) rfl) dC ?_))))
      refine SP.gu (i := 14) rfl (Gd.onT rfl rfl rfl dC) (SU.eql rfl rfl) dC (SP.U (i := 15) rfl (SU.pickT rfl rfl) (SP.nil (ST.thenN ?_)))
      refine SC.ifP rfl (fun heq => ?_) (fun heq => ?_)
      ·refine SC.seq (SC.region (SL.A rfl (SL.nil (ST.thenN (SC.ret (ST.thenR (ST.drop (s' := s) (.cons _ (.refl _)) ?_)))))))
       exact ST.ret1 (.inl rfl) results131 rfl ⟨by unfold formC; rw [if_neg (by simp [hdb]), if_neg (by simp [hcb]), if_neg (by simp [hno]), if_neg (by simp [hns]), if_pos (by rw [hsum]; simp [hd1, heq])], rfl, rfl⟩
      ·refine SC.skip (ST.thenN (SC.seq (SC.region (SL.A rfl (SL.nil (ST.thenN (SC.ret (ST.drop (s' := s) (.cons _ (.refl _)) ?_))))))))
       exact ST.ret1 (.inl rfl) results131 rfl ⟨by unfold formC; rw [if_neg (by simp [hdb]), if_neg (by simp [hcb]), if_neg (by simp [hno]), if_neg (by simp [hns]), if_neg (by rw [hsum]; simp [heq])], rfl, rfl⟩
     ·refine SC.exit (ST.thenX (ST.thenX (ST.blockX (ST.thenN (SC.seq (SC.seq ?_))))))
      refine SC.draw [] [(0, 2), (1, 1), (2, 2), (3, 2), (4, 2), (5, 1), (6, 2), (7, 2), (8, 1), (9, 2), (10, 1), (11, 2), (12, 2), (13, 1), (14, 2), (15, 2)] Tryz.mixed (by kernel_rfl) ?_
      refine SP.U (i := 0) rfl (SU.fieldAddr underlying51 rfl sizeOf3 rfl) (SP.K (i := 1) rfl (SQ.load (v := vi c.dim) isAgg3 rfl (CellAt.own 0 rfl rfl)) (SP.U (i := 2) rfl (SU.eq (v' := vb false) (SU.eql rfl rfl) (congrArg vb (decide_eq_false hd1))) (SP.U (i := 3) rfl (SU.move rfl) (SP.off (i := 4) rfl (Gd.onF rfl rfl rfl dC) dC (SP.off1 (i := 5) rfl (Gd.onF rfl rfl rfl dC) dC (SP.off (i := 6) rfl (Gd.onF rfl rfl rfl dC) dC (SP.off (i := 7) rfl (Gd.onF rfl rfl rfl dC) dC (SP.off1 (i := 8) rfl (Gd.onF rfl rfl rfl dC) dC (SP.off (i := 9) rfl (Gd.onF rfl rfl rfl dC) dC (SP.off1 (i := 10) rfl (Gd.onF rfl rfl rfl dC) dC (SP.off (i := 11) rfl (Gd.onF rfl rfl rfl dC) dC (SP.off (i := 12) rfl (Gd.onF rfl rfl rfl dC) dC (SP.off1 (i := 13) rfl (Gd.onF rfl rfl rfl dC) dC (SP.off (i := 14) rfl (Gd.onF rfl rfl rfl dC) dC (SP.U (i := 15) rfl (SU.pickF rfl rfl) (SP.nil (ST.thenN (SC.condF rfl (SC.skip (ST.thenN (SC.seq (SC.region (SL.A rfl (SL.nil (ST.thenN (SC.ret (ST.drop (s' := s) (.cons _ (.refl _)) ?_)))))))))))))))))))))))))))
      exact ST.ret1 (.inl rfl) results131 rfl ⟨by unfold formC; rw [if_neg (by simp [hdb]), if_neg (by simp [hcb]), if_neg (by simp [hno]), if_neg (by simp [hns]), if_neg (by simp [hd1])], rfl, rfl⟩
abbrev wr (x : Int) : Int := IntKind.i64.wrap x
structure En where
 id : Int
 sum : Int
 many : Int
 fst : Nat
def En.fi (e : En) : Int := e.fst
def En.up (e : En) (p : Int) : En := ⟨e.id, wr (e.sum + p), wr (e.many + 1), e.fst⟩
def bump (i : Nat) (c p : Int) : List En → List En
 | [] => [En.up ⟨c, 0, 0, i⟩ p]
 | e :: r => if e.id = c then e.up p :: r else e :: bump i c p r
def fstOf (i : Nat) (c : Int) : List En → Nat
 | [] => i
 | e :: r => if e.id = c then e.fst else fstOf i c r
def relabT (m : Nat) (old now : Int) (p : List Int) : List Int := p.mapIdx fun q x => if q < m ∧ x = now then old else x
def stepR (i : Nat) (sx : Int) (st : List En × List Int) (r : Side) : List En × List Int :=
 (bump i r.cell (wr (sx * r.sign)) st.1, relabT (i + 1) (st.2.getD (fstOf i r.cell st.1) 0) (st.2.getD i 0) st.2)
def stepS (tl : List Cl) (st : List En × List Int) (p : Side × Nat) : List En × List Int := (sidesOf tl p.1).foldl (stepR p.2 p.1.sign) (st.1, st.2.set p.2 p.2)
def secSt (tl : List Cl) (l : List Side) (n : Nat) : List En × List Int := l.zipIdx.foldl (stepS tl) ([], List.replicate n 0)
def secondC (tl : List Cl) (c : Cl) : Int :=
 if (secSt tl c.sides c.sides.length).1.any (fun e => decide (e.sum ≠ 0)) then 24
 else if (secSt tl c.sides c.sides.length).1.any (fun e => decide (e.many ≠ 2)) then 25
 else if (secSt tl c.sides c.sides.length).2.any (fun x => decide (x ≠ (secSt tl c.sides c.sides.length).2.getD 0 0)) then 25
 else 0
theorem bump_mid {i : Nat} {c p : Int} {e : En} {B : List En} (he : e.id = c) : ∀ {A : List En}, (∀ x ∈ A, x.id ≠ c) → bump i c p (A ++ e :: B) = A ++ e.up p :: B ∧ fstOf i c (A ++ e :: B) = e.fst
 | [], _ => by simp [bump, fstOf, he]
 | x :: A, h => by
  have hx := h x (by simp)
  have := bump_mid (i := i) (p := p) (B := B) he (A := A) (fun y hy => h y (by simp [hy]))
  simp [bump, fstOf, hx, this.1, this.2]
theorem bump_new {i : Nat} {c p : Int} : ∀ {A : List En}, (∀ x ∈ A, x.id ≠ c) → bump i c p A = A ++ [En.up ⟨c, 0, 0, i⟩ p] ∧ fstOf i c A = i
 | [], _ => by simp [bump, fstOf]
 | x :: A, h => by
  have hx := h x (by simp)
  have := bump_new (i := i) (p := p) (A := A) (fun y hy => h y (by simp [hy]))
  simp [bump, fstOf, hx, this.1, this.2]
theorem relabT_length (m : Nat) (old now : Int) (p : List Int) : (relabT m old now p).length = p.length := by simp [relabT]
theorem relabT_zero (old now : Int) (p : List Int) : relabT 0 old now p = p := by
 unfold relabT
 apply List.ext_getElem?
 intro q
 simp
theorem relabT_get {m : Nat} {old now : Int} {p : List Int} (h : m < p.length) : (relabT m old now p)[m]? = some p[m] := by
 simp [relabT, h]
theorem relabT_succ {m : Nat} {old now : Int} {p : List Int} (h : m < p.length) : relabT (m + 1) old now p = if p[m] = now then (relabT m old now p).set m old else relabT m old now p := by
 unfold relabT
 split
 ·rename_i hm
  apply List.ext_getElem?
  intro q
  rw [List.getElem?_set]
  by_cases hq : m = q
  ·subst hq
   simp [h, hm]
  ·rw [if_neg hq]
   simp only [List.getElem?_mapIdx]
   cases p[q]? with
   | none => rfl
   | some x => simp; congr 1; simp; intro _; omega
 ·rename_i hm
  apply List.ext_getElem?
  intro q
  simp only [List.getElem?_mapIdx]
  by_cases hq : m = q
  ·subst hq
   simp [h, hm]
  ·cases p[q]? with
   | none => rfl
   | some x => simp; congr 1; simp; intro _; omega
theorem bump_fst {i n : Nat} {c p : Int} (hi : i < n) : ∀ {es : List En}, (∀ e ∈ es, e.fst < n) → ∀ e ∈ bump i c p es, e.fst < n
 | [], _, e, he => by simp [bump] at he; subst he; exact hi
 | x :: r, h, e, he => by
  unfold bump at he
  split at he
  ·rcases List.mem_cons.1 he with rfl | he
   ·exact h x (by simp)
   ·exact h e (by simp [he])
  ·rcases List.mem_cons.1 he with rfl | he
   ·exact h e (by simp)
   ·exact bump_fst hi (fun y hy => h y (by simp [hy])) e he
theorem second_spec (E : World) (g : PH) (s : Own) (v : Value) (tl : List Cl) (c : Cl) (r : Rc) (hv : Cells g v tl) (htl : tl.length < 1099511627776) (hs : (tl.map Cl.id).Pairwise (· ≤ ·)) (hc : CellR g c r) (hl : c.sides.length ≤ 64) (hin : ∀ x ∈ c.sides, (findT tl x.cell).isSome = true) (hsl : ∀ x ∈ c.sides, (sidesOf tl x).length ≤ 64) :
  Ctr Tryz.prog E 132 #[v, rcv r] g s (fun r g' s' => r = vi (secondC tl c) ∧ g = g' ∧ s = s') := by
 obtain ⟨rs, hrs, hall⟩ := hv
 have hv : Cells g v tl := ⟨rs, hrs, hall⟩
 have hrl := hall.length
 obtain ⟨vp, vc, rfl⟩ := hrs.form
 obtain ⟨rp, rcap, rfl, hcs⟩ := cellR_form hc
 refine Ctr.of (args := [.slice vp rs.length vc, .agg #[vi c.id, vi c.dim, .slice rp c.sides.length rcap]]) func132 rfl ntmps132 (Nat.le_of_ble_eq_true rfl) ?_
 refine SC.seq (SC.region (SL.W (SO.box rfl) ?_))
 rintro _ _ _ ⟨b3, rfl, rfl, rfl⟩
 refine SL.A rfl (SL.nil (ST.thenN (SC.seq ?_)))
 refine SC.to (g' := g) (s' := pt b3 (.cells #[vi c.id, vi c.dim, .slice rp c.sides.length rcap] 51 (0, 0)) :: s) (fun w hw => hw) ?_
 refine SC.region (SL.A rfl (SL.nil (ST.thenN (SC.seq (SC.region (SL.A rfl (SL.nil (ST.thenN (SC.seq (SC.region (SL.A rfl (SL.nil (ST.thenN (SC.seq (SC.region (SL.U (SU.fieldAddr underlying51 rfl sizeOf49 rfl) (SL.K (SQ.load (v := .slice rp c.sides.length rcap) isAgg49 rfl (CellAt.own 0 rfl rfl)) (SL.U (SU.lenN underlying49 rfl) (SL.W (SO.makeA encInt 0 sty45 rfl rfl rfl oM oM) ?_)))))))))))))))))))
 rintro _ _ _ ⟨b8, rfl, rfl, rfl⟩
 refine SL.A rfl (SL.nil (ST.thenN (SC.seq (SC.region (SL.W (SO.buildSlice sty45 rfl rfl rfl (szs_mk trivial) dC) ?_)))))
 rintro _ _ _ ⟨b24, rfl, rfl, rfl⟩
 refine SL.drop (.cons _ (.refl _)) (SL.emptyRow 3 1 (some ⟨b24, 0, none⟩) (SL.A rfl (SL.nil (ST.thenN (SC.seq (SC.seq (SC.region (SL.A rfl (SL.nil (ST.thenN (SC.block (SC.nilRow 3 1 (SC.nilRow 3 1 (SC.nilRow 3 1 ?_))))))))))))))
 refine SC.loop (ι := (Value × Value × Value × Value) × (List En × List Int) × Nat) (fun i => [(0, .slice vp rs.length vc), (3, pp b3 0), (5, i.1.1), (6, i.1.2.1), (7, i.1.2.2.1), (8, .slice (some ⟨b8, 0, none⟩) c.sides.length c.sides.length), (9, i.1.2.2.2), (10, vi (i.2.2 : Nat))]) (fun _ => g)
  (fun i => rowA encInt 3 i.1.1 (i.2.1.1.map En.id) :: rowA encInt 3 i.1.2.1 (i.2.1.1.map En.sum) :: rowA encInt 3 i.1.2.2.1 (i.2.1.1.map En.many) :: rowA encInt 3 i.1.2.2.2 (i.2.1.1.map En.fi) :: rowA encInt 3 (.slice (some ⟨b8, 0, none⟩) c.sides.length c.sides.length) (i.2.1.2) :: pt b3 (.cells #[vi c.id, vi c.dim, .slice rp c.sides.length rcap] 51 (0, 0)) :: s)
  (fun i => i.2.2 ≤ c.sides.length ∧ i.2.1 = (c.sides.take i.2.2).zipIdx.foldl (stepS tl) ([], List.replicate c.sides.length 0) ∧ i.2.1.2.length = c.sides.length ∧ i.2.1.1.length ≤ 64 * i.2.2 ∧ ∀ e ∈ i.2.1.1, e.fst < c.sides.length) (fun i => c.sides.length - i.2.2)
  ((.slice none 0 0, .slice none 0 0, .slice none 0 0, .slice (some ⟨b24, 0, none⟩) 0 0), ([], List.replicate c.sides.length 0), 0) ⟨rfl, rfl, rfl, rfl, rfl, rfl, rfl, rfl, trivial⟩ rfl rfl ⟨Nat.zero_le _, by simp, by simp, by simp, by simp⟩ ?_
 rintro ⟨⟨v5, v6, v7, v9⟩, ⟨es, part⟩, i⟩ ⟨hi, hst, hpl, hel, hef⟩
 dsimp only at hi hst hpl hel hef ⊢
 refine SC.seq (SC.seq (SC.region (SL.M rfl (SL.U (SU.fieldAddr underlying51 rfl sizeOf49 rfl) (SL.K (SQ.load (v := .slice rp c.sides.length rcap) isAgg49 rfl (CellAt.own 5 rfl rfl)) (SL.U (SU.lenN underlying49 rfl) (SL.U (SU.lss rfl rfl) (SL.nil (ST.thenN ?_)))))))))
 refine SC.ifP rfl (fun hlt => ?_) (fun hlt => ?_)
 ·have hil : i < c.sides.length := oM
  have hb1 := hcs.based oM
  have hix : c.sides[((i : Nat) : Int).toNat]? = some c.sides[i] := List.getElem?_eq_getElem hil
  have htk : (c.sides.take (i + 1)).zipIdx.foldl (stepS tl) ([], List.replicate c.sides.length 0) = stepS tl ((c.sides.take i).zipIdx.foldl (stepS tl) ([], List.replicate c.sides.length 0)) (c.sides[i], i) := by
   rw [List.take_succ_eq_append_getElem hil, List.zipIdx_append, List.foldl_append]
   have : (List.take i c.sides).length = i := by rw [List.length_take]; omega
   rw [this]
   simp
  have hxm := List.getElem_mem hil
  have hxin := hin _ hxm
  have hxs := hsl _ hxm
  generalize c.sides[i] = x at *
  obtain ⟨yc, hyc⟩ := Option.isSome_iff_exists.1 hxin
  have hsx : sidesOf tl x = yc.sides := by unfold sidesOf; rw [hyc]; rfl
  rw [hsx] at hxs
  rcases at_find hs x.cell with ⟨hfn, _⟩ | ⟨yc', kk, hfs, hat, hyk⟩
  ·rw [hfn] at hyc; cases hyc
  have : yc = yc' := by rw [hfs] at hyc; injection hyc with h; exact h.symm
  subst this
  have hkk : kk < tl.length := (List.getElem?_eq_some_iff.1 hyk).1
  have hkr : kk < rs.length := oM
  have hbv := hrs.based oM
  have hyr := hall.get hyk (List.getElem?_eq_getElem hkr)
  have hgr : rs[((kk : Nat) : Int).toNat]? = some rs[kk] := List.getElem?_eq_getElem hkr
  obtain ⟨yp, ycap, hrk, hys⟩ := cellR_form hyr
  rw [hrk] at hgr
  have hp1 : (part.set i (i : Int)).length = c.sides.length := by rw [List.length_set]; exact hpl
  refine SC.skip (ST.thenN (SC.seq (SC.block (SC.seq (SC.region (SL.M rfl (SL.M rfl (SL.M rfl (SL.U (SU.indexAddr underlying45 sizeOf3 rfl rfl rfl oM sL) (SL.on (SO.setA (a := (i : Int)) 4 sizeOf3 rfl rfl rfl oM rfl) ?_))))))))))
  rintro _ _ _ ⟨rfl, rfl⟩
  refine SL.nil (ST.thenN (SC.seq (SC.region (SL.M rfl (SL.M rfl (SL.U (SU.fieldAddr underlying51 rfl sizeOf49 rfl) (SL.K (SQ.load (v := .slice rp c.sides.length rcap) isAgg49 rfl (CellAt.own 5 rfl rfl)) (SL.M rfl (SL.U (SU.indexAddr underlying49 sizeOf55 rfl rfl hb1 oM sL) (SL.U (SU.fieldAddrC underlying55 rfl sizeOf3 rfl hb1) (SL.K (SQ.partA (e := encSide) (o := 0) (u := vi x.cell) isAgg3 rfl hcs.rd hix rfl) (SL.W (SO.call call62 rfl (at_spec E g _ _ tl x.cell hv htl hs)) ?_))))))))))))
  rintro _ _ _ ⟨rfl, rfl, rfl⟩
  rw [hat]
  refine SL.U (SU.indexAddr underlying25 sizeOf51 rfl rfl hbv oM sL) (SL.K (SQ.elemA (e := encCell) isAgg51 sizeOf51 rfl hrs.rd hgr) (SL.W (SO.alloc zeroValue51) ?_))
  rintro _ _ _ ⟨b11, rfl, rfl, rfl⟩
  refine SL.on (SO.storeAllK 0 sizeOf51 rfl rfl rfl rfl rfl (by exact ⟨rfl, rfl, rfl, trivial⟩)) ?_
  rintro _ _ _ ⟨rfl, rfl⟩
  refine SL.nil (ST.thenN (SC.seq (SC.region (SL.A rfl (SL.nil (ST.thenN (SC.block ?_)))))))
  refine SC.to (g' := g) (s' := pt b11 (.cells #[vi yc.id, vi yc.dim, .slice yp yc.sides.length ycap] 51 (0, 0)) :: rowA encInt 3 v5 (es.map En.id) :: rowA encInt 3 v6 (es.map En.sum) :: rowA encInt 3 v7 (es.map En.many) :: rowA encInt 3 v9 (es.map En.fi) :: rowA encInt 3 (.slice (some ⟨b8, 0, none⟩) c.sides.length c.sides.length) (part.set i (i : Int)) :: pt b3 (.cells #[vi c.id, vi c.dim, .slice rp c.sides.length rcap] 51 (0, 0)) :: s) (fun w hw => hw) ?_
  refine SC.loop (ι := (Value × Value × Value × Value) × (List En × List Int) × Nat) (fun q => [(0, .slice vp rs.length vc), (3, pp b3 0), (5, q.1.1), (6, q.1.2.1), (7, q.1.2.2.1), (8, .slice (some ⟨b8, 0, none⟩) c.sides.length c.sides.length), (9, q.1.2.2.2), (10, vi (i : Nat)), (11, pp b11 0), (12, vi (q.2.2 : Nat))]) (fun _ => g)
   (fun q => pt b11 (.cells #[vi yc.id, vi yc.dim, .slice yp yc.sides.length ycap] 51 (0, 0)) :: rowA encInt 3 q.1.1 (q.2.1.1.map En.id) :: rowA encInt 3 q.1.2.1 (q.2.1.1.map En.sum) :: rowA encInt 3 q.1.2.2.1 (q.2.1.1.map En.many) :: rowA encInt 3 q.1.2.2.2 (q.2.1.1.map En.fi) :: rowA encInt 3 (.slice (some ⟨b8, 0, none⟩) c.sides.length c.sides.length) (q.2.1.2) :: pt b3 (.cells #[vi c.id, vi c.dim, .slice rp c.sides.length rcap] 51 (0, 0)) :: s)
   (fun q => q.2.2 ≤ yc.sides.length ∧ q.2.1 = (yc.sides.take q.2.2).foldl (stepR i x.sign) (es, part.set i (i : Int)) ∧ q.2.1.2.length = c.sides.length ∧ q.2.1.1.length ≤ 64 * i + q.2.2 ∧ ∀ e ∈ q.2.1.1, e.fst < c.sides.length) (fun q => yc.sides.length - q.2.2)
   ((v5, v6, v7, v9), (es, part.set i (i : Int)), 0) ⟨rfl, rfl, rfl, rfl, rfl, rfl, rfl, rfl, rfl, rfl, trivial⟩ rfl rfl ⟨Nat.zero_le _, by simp, hp1, lN, hef⟩ ?_
  rintro ⟨⟨w5, w6, w7, w9⟩, ⟨fs, pa⟩, j⟩ ⟨hj, hst2, hpl2, hel2, hef2⟩
  dsimp only at hj hst2 hpl2 hel2 hef2 ⊢
  refine SC.facts fun ⟨w0, hw0⟩ => ?_
  obtain ⟨p5, c5, rfl⟩ := rowA_form (i := 1) hw0 rfl
  obtain ⟨p6, c6, rfl⟩ := rowA_form (i := 2) hw0 rfl
  obtain ⟨p7, c7, rfl⟩ := rowA_form (i := 3) hw0 rfl
  obtain ⟨p9, c9, rfl⟩ := rowA_form (i := 4) hw0 rfl
  have hb5 : 0 < fs.length → based (.slice p5 (fs.map En.id).length c5) = true := fun h => by obtain ⟨b0, c0, he⟩ := rowA_based (i := 1) hw0 rfl (by simpa using h); rw [he]; rfl
  clear hw0 w0
  refine SC.seq (SC.seq (SC.region (SL.M rfl (SL.U (SU.fieldAddr underlying51 rfl sizeOf49 rfl) (SL.K (SQ.load (v := .slice yp yc.sides.length ycap) isAgg49 rfl (CellAt.own 0 rfl rfl)) (SL.U (SU.lenN underlying49 rfl) (SL.U (SU.lss rfl rfl) (SL.nil (ST.thenN ?_)))))))))
  refine SC.ifP rfl (fun hlt2 => ?_) (fun hlt2 => ?_)
  ·have hjl : j < yc.sides.length := oM
   have hb2 := hys.based oM
   have hjx : yc.sides[((j : Nat) : Int).toNat]? = some yc.sides[j] := List.getElem?_eq_getElem hjl
   have htk2 : (yc.sides.take (j + 1)).foldl (stepR i x.sign) (es, part.set i (i : Int)) = stepR i x.sign ((yc.sides.take j).foldl (stepR i x.sign) (es, part.set i (i : Int))) yc.sides[j] := by
    rw [List.take_succ_eq_append_getElem hjl, List.foldl_append]; rfl
   rw [← hst2] at htk2
   generalize yc.sides[j] = z at *
   have hml5 : (fs.map En.id).length = fs.length := by simp
   refine SC.skip (ST.thenN (SC.seq (SC.block (SC.seq (SC.region (SL.A rfl (SL.nil (ST.thenN ?_))))))))
   refine SC.cut (ι := Nat) (fun k => [(0, .slice vp rs.length vc), (3, pp b3 0), (5, .slice p5 (fs.map En.id).length c5), (6, .slice p6 (fs.map En.sum).length c6), (7, .slice p7 (fs.map En.many).length c7), (8, .slice (some ⟨b8, 0, none⟩) c.sides.length c.sides.length), (9, .slice p9 (fs.map En.fi).length c9), (10, vi (i : Nat)), (11, pp b11 0), (12, vi (j : Nat)), (13, vi (k : Nat))]) (fun _ => g)
    (fun _ => pt b11 (.cells #[vi yc.id, vi yc.dim, .slice yp yc.sides.length ycap] 51 (0, 0)) :: rowA encInt 3 (.slice p5 (fs.map En.id).length c5) (fs.map En.id) :: rowA encInt 3 (.slice p6 (fs.map En.sum).length c6) (fs.map En.sum) :: rowA encInt 3 (.slice p7 (fs.map En.many).length c7) (fs.map En.many) :: rowA encInt 3 (.slice p9 (fs.map En.fi).length c9) (fs.map En.fi) :: rowA encInt 3 (.slice (some ⟨b8, 0, none⟩) c.sides.length c.sides.length) (pa) :: pt b3 (.cells #[vi c.id, vi c.dim, .slice rp c.sides.length rcap] 51 (0, 0)) :: s)
    (fun k => k ≤ fs.length ∧ (∀ e ∈ fs.take k, e.id ≠ z.cell) ∧ ∀ h : k < fs.length, fs[k].id = z.cell) ?_ ?_
   ·refine SC.block ?_
    refine SC.loop (ι := Nat) (fun k => [(0, .slice vp rs.length vc), (3, pp b3 0), (5, .slice p5 (fs.map En.id).length c5), (6, .slice p6 (fs.map En.sum).length c6), (7, .slice p7 (fs.map En.many).length c7), (8, .slice (some ⟨b8, 0, none⟩) c.sides.length c.sides.length), (9, .slice p9 (fs.map En.fi).length c9), (10, vi (i : Nat)), (11, pp b11 0), (12, vi (j : Nat)), (13, vi (k : Nat))]) (fun _ => g)
     (fun _ => pt b11 (.cells #[vi yc.id, vi yc.dim, .slice yp yc.sides.length ycap] 51 (0, 0)) :: rowA encInt 3 (.slice p5 (fs.map En.id).length c5) (fs.map En.id) :: rowA encInt 3 (.slice p6 (fs.map En.sum).length c6) (fs.map En.sum) :: rowA encInt 3 (.slice p7 (fs.map En.many).length c7) (fs.map En.many) :: rowA encInt 3 (.slice p9 (fs.map En.fi).length c9) (fs.map En.fi) :: rowA encInt 3 (.slice (some ⟨b8, 0, none⟩) c.sides.length c.sides.length) (pa) :: pt b3 (.cells #[vi c.id, vi c.dim, .slice rp c.sides.length rcap] 51 (0, 0)) :: s)
     (fun k => k ≤ fs.length ∧ ∀ e ∈ fs.take k, e.id ≠ z.cell) (fun k => fs.length - k) 0 ⟨rfl, rfl, rfl, rfl, rfl, rfl, rfl, rfl, rfl, rfl, rfl, trivial⟩ rfl rfl ⟨Nat.zero_le _, by simp⟩ ?_
    rintro k ⟨hk, hne⟩
    by_cases hkl : k < fs.length
    ·have hin2 : ((k : Nat) : Int) < (((fs.map En.id).length : Nat) : Int) := oM
     have hg5 : (fs.map En.id)[((k : Nat) : Int).toNat]? = some fs[k].id := by simp [hkl]
     have hb5' := hb5 oM
     refine SC.seq (SC.seq ?_)
     refine SC.draw [] [(0, 2), (1, 2), (2, 2), (3, 2), (4, 2), (5, 2), (6, 2), (7, 2), (8, 1), (9, 2), (10, 1), (11, 2), (12, 2), (13, 2), (14, 1), (15, 2), (16, 2)] Tryz.mixed (by kernel_rfl) ?_
     refine SP.U (i := 0) rfl (SU.move rfl) (SP.U (i := 1) rfl (SU.move rfl) (SP.U (i := 2) rfl (SU.lenN underlying45 rfl) (SP.U (i := 3) rfl (SU.eq (v' := vb true) (SU.lss rfl rfl) (congrArg vb (decide_eq_true hin2))) (SP.U (i := 4) rfl (SU.move rfl) (SP.gu (i := 5) rfl (Gd.onT rfl rfl rfl dC) (SU.move rfl) dC (SP.gu (i := 6) rfl (Gd.onT rfl rfl rfl dC) (SU.move rfl) dC (SP.gu (i := 7) rfl (Gd.onT rfl rfl rfl dC) (SU.indexAddr underlying45 sizeOf3 rfl rfl hb5' oM sL) dC (SP.gq (i := 8) rfl (Gd.onT rfl rfl rfl dC) (SQ.elem1 isAgg3 rfl (Rd.rowA 1 rfl) hg5 rfl) dC (SP.gu (i := 9) rfl (Gd.onT rfl rfl rfl dC) (SU.fieldAddr underlying51 rfl sizeOf49 rfl) dC (SP.gq (i := 10) rfl (Gd.onT rfl rfl rfl dC) (SQ.load (v := .slice yp yc.sides.length ycap) isAgg49 rfl (CellAt.own 0 rfl rfl)) dC (SP.gu (i := 11) rfl (Gd.onT rfl rfl rfl dC) (SU.move rfl) dC (SP.gu (i := 12) rfl (Gd.onT rfl rfl rfl dC) (SU.indexAddr underlying49 sizeOf55 rfl rfl hb2 oM sL) dC (SP.gu (i := 13) rfl (Gd.onT rfl rfl rfl dC) (SU.fieldAddrC underlying55 rfl sizeOf3 rfl hb2) dC (SP.gq (i := 14) rfl (Gd.onT rfl rfl rfl dC) (SQ.partA (e := encSide) (o := 0) (u := vi z.cell) isAgg3 rfl hys.rd hjx rfl) dC (SP.gu (i := 15) rfl (Gd.onT rfl rfl rfl dC) (SU.neq rfl rfl) dC (SP.U (i := 16) rfl (SU.pickT rfl rfl) (SP.nil (ST.thenN ?_))))))))))))))))))
     refine SC.ifP rfl (fun hc2 => ?_) (fun hc2 => ?_)
     ·refine SC.skip (ST.thenN (SC.block (SC.region (SL.M rfl (SL.U (SU.add rfl rfl oM) (SL.A rfl (SL.nil (ST.blockN ?_))))))))
      exact ST.again (k + 1) ⟨rfl, rfl, rfl, rfl, rfl, rfl, rfl, rfl, rfl, rfl, rfl, trivial⟩ rfl rfl ⟨oM, by
       rw [List.take_succ_eq_append_getElem hkl]
       intro e he
       rcases List.mem_append.1 he with h | h
       ·exact hne e h
       ·simp at h; subst h; exact hc2⟩ oM
     ·refine SC.exit (ST.thenX (ST.thenX (ST.blockX ?_)))
      exact ST.mid k ⟨rfl, rfl, rfl, rfl, rfl, rfl, rfl, rfl, rfl, rfl, rfl, trivial⟩ rfl rfl ⟨hk, hne, fun _ => Decidable.of_not_not hc2⟩
    ·have hin2 : ¬ ((k : Nat) : Int) < (((fs.map En.id).length : Nat) : Int) := oM
     refine SC.seq (SC.seq ?_)
     refine SC.draw [] [(0, 2), (1, 2), (2, 2), (3, 2), (4, 2), (5, 2), (6, 2), (7, 2), (8, 1), (9, 2), (10, 1), (11, 2), (12, 2), (13, 2), (14, 1), (15, 2), (16, 2)] Tryz.mixed (by kernel_rfl) ?_
     refine SP.U (i := 0) rfl (SU.move rfl) (SP.U (i := 1) rfl (SU.move rfl) (SP.U (i := 2) rfl (SU.lenN underlying45 rfl) (SP.U (i := 3) rfl (SU.eq (v' := vb false) (SU.lss rfl rfl) (congrArg vb (decide_eq_false hin2))) (SP.U (i := 4) rfl (SU.move rfl) (SP.off (i := 5) rfl (Gd.onF rfl rfl rfl dC) dC (SP.off (i := 6) rfl (Gd.onF rfl rfl rfl dC) dC (SP.off (i := 7) rfl (Gd.onF rfl rfl rfl dC) dC (SP.off1 (i := 8) rfl (Gd.onF rfl rfl rfl dC) dC (SP.off (i := 9) rfl (Gd.onF rfl rfl rfl dC) dC (SP.off1 (i := 10) rfl (Gd.onF rfl rfl rfl dC) dC (SP.off (i := 11) rfl (Gd.onF rfl rfl rfl dC) dC (SP.off (i := 12) rfl (Gd.onF rfl rfl rfl dC) dC (SP.off (i := 13) rfl (Gd.onF rfl rfl rfl dC) dC (SP.off1 (i := 14) rfl (Gd.onF rfl rfl rfl dC) dC (SP.off (i := 15) rfl (Gd.onF rfl rfl rfl dC) dC (SP.U (i := 16) rfl (SU.pickF rfl rfl) (SP.nil (ST.thenN (SC.condF rfl (SC.exit (ST.thenX (ST.thenX (ST.blockX ?_)))))))))))))))))))))))
     exact ST.mid k ⟨rfl, rfl, rfl, rfl, rfl, rfl, rfl, rfl, rfl, rfl, rfl, trivial⟩ rfl rfl ⟨hk, hne, fun h => absurd h hkl⟩
   ·rintro k ⟨hk, hne, heq⟩
    refine SC.cut (ι := (Value × Value × Value × Value) × List En × En × List En) (fun q => [(0, .slice vp rs.length vc), (3, pp b3 0), (5, q.1.1), (6, q.1.2.1), (7, q.1.2.2.1), (8, .slice (some ⟨b8, 0, none⟩) c.sides.length c.sides.length), (9, q.1.2.2.2), (10, vi (i : Nat)), (11, pp b11 0), (12, vi (j : Nat)), (13, vi (q.2.1.length : Nat))]) (fun _ => g)
     (fun q => pt b11 (.cells #[vi yc.id, vi yc.dim, .slice yp yc.sides.length ycap] 51 (0, 0)) :: rowA encInt 3 q.1.1 ((q.2.1 ++ q.2.2.1 :: q.2.2.2).map En.id) :: rowA encInt 3 q.1.2.1 ((q.2.1 ++ q.2.2.1 :: q.2.2.2).map En.sum) :: rowA encInt 3 q.1.2.2.1 ((q.2.1 ++ q.2.2.1 :: q.2.2.2).map En.many) :: rowA encInt 3 q.1.2.2.2 ((q.2.1 ++ q.2.2.1 :: q.2.2.2).map En.fi) :: rowA encInt 3 (.slice (some ⟨b8, 0, none⟩) c.sides.length c.sides.length) (pa) :: pt b3 (.cells #[vi c.id, vi c.dim, .slice rp c.sides.length rcap] 51 (0, 0)) :: s)
     (fun q => (∀ p, bump i z.cell p fs = q.2.1 ++ q.2.2.1.up p :: q.2.2.2) ∧ fstOf i z.cell fs = q.2.2.1.fst ∧ q.2.2.1.fst < c.sides.length ∧ q.2.1.length + 1 + q.2.2.2.length ≤ fs.length + 1) ?_ ?_
    ·refine SC.seq (SC.region (SL.M rfl (SL.M rfl (SL.U (SU.lenN underlying45 rfl) (SL.U (SU.eql rfl rfl) (SL.nil (ST.thenN ?_)))))))
     refine SC.ifP rfl (fun hnew => ?_) (fun hnew => ?_)
     ·have hkf : k = fs.length := oM
      subst hkf
      rw [List.take_length] at hne
      refine SC.seq (SC.region (SL.M rfl (SL.U (SU.fieldAddr underlying51 rfl sizeOf49 rfl) (SL.K (SQ.load (v := .slice yp yc.sides.length ycap) isAgg49 rfl (CellAt.own 0 rfl rfl)) (SL.M rfl (SL.U (SU.indexAddr underlying49 sizeOf55 rfl rfl hb2 oM sL) (SL.U (SU.fieldAddrC underlying55 rfl sizeOf3 rfl hb2) (SL.K (SQ.partA (e := encSide) (o := 0) (u := vi z.cell) isAgg3 rfl hys.rd hjx rfl) (SL.W (SO.buildSlice sty45 rfl rfl rfl (szs_mk (by exact ⟨rfl, trivial⟩)) dC) ?_)))))))))
      rintro _ _ _ ⟨b84, rfl, rfl, rfl⟩
      refine SL.W (SO.app1A (e := encInt) 1 z.cell sty45 rfl rfl rfl rfl rfl oM oM) ?_
      rintro u5 _ _ ⟨rfl, rfl⟩
      refine SL.A rfl (SL.nil (ST.thenN (SC.seq (SC.region (SL.M rfl (SL.W (SO.buildSlice sty45 rfl rfl rfl (szs_mk (by exact ⟨rfl, trivial⟩)) dC) ?_))))))
      rintro _ _ _ ⟨b87, rfl, rfl, rfl⟩
      refine SL.W (SO.app1A (e := encInt) 2 0 sty45 rfl rfl rfl rfl rfl (by simp; omega) (by simp; omega)) ?_
      rintro u6 _ _ ⟨rfl, rfl⟩
      refine SL.A rfl (SL.nil (ST.thenN (SC.seq (SC.region (SL.M rfl (SL.W (SO.buildSlice sty45 rfl rfl rfl (szs_mk (by exact ⟨rfl, trivial⟩)) dC) ?_))))))
      rintro _ _ _ ⟨b90, rfl, rfl, rfl⟩
      refine SL.W (SO.app1A (e := encInt) 3 0 sty45 rfl rfl rfl rfl rfl (by simp; omega) (by simp; omega)) ?_
      rintro u7 _ _ ⟨rfl, rfl⟩
      refine SL.A rfl (SL.nil (ST.thenN (SC.region (SL.M rfl (SL.M rfl (SL.W (SO.buildSlice sty45 rfl rfl rfl (szs_mk (by exact ⟨rfl, trivial⟩)) dC) ?_))))))
      rintro _ _ _ ⟨b94, rfl, rfl, rfl⟩
      refine SL.W (SO.app1A (e := encInt) 4 ((i : Nat) : Int) sty45 rfl rfl rfl rfl rfl (by simp; omega) (by simp; omega)) ?_
      rintro u9 _ _ ⟨rfl, rfl⟩
      refine SL.A rfl (SL.nil ?_)
      refine ST.to (fun w hw => ?_) (g' := g) (s' := pt b11 (.cells #[vi yc.id, vi yc.dim, .slice yp yc.sides.length ycap] 51 (0, 0)) :: rowA encInt 3 u5 ((fs ++ (⟨z.cell, 0, 0, i⟩ : En) :: []).map En.id) :: rowA encInt 3 u6 ((fs ++ (⟨z.cell, 0, 0, i⟩ : En) :: []).map En.sum) :: rowA encInt 3 u7 ((fs ++ (⟨z.cell, 0, 0, i⟩ : En) :: []).map En.many) :: rowA encInt 3 u9 ((fs ++ (⟨z.cell, 0, 0, i⟩ : En) :: []).map En.fi) :: rowA encInt 3 (.slice (some ⟨b8, 0, none⟩) c.sides.length c.sides.length) (pa) :: pt b3 (.cells #[vi c.id, vi c.dim, .slice rp c.sides.length rcap] 51 (0, 0)) :: s) ?_
      ·simp only [List.map_append, List.map_cons, List.map_nil]; exact hw
      exact ST.mid ((u5, u6, u7, u9), fs, ⟨z.cell, 0, 0, i⟩, []) ⟨rfl, rfl, rfl, rfl, rfl, rfl, rfl, rfl, rfl, rfl, rfl, trivial⟩ rfl rfl ⟨fun p => (bump_new hne).1, (bump_new (p := 0) hne).2, hil, by simp⟩
     ·have hkl : k < fs.length := oM
      have hsp : fs = fs.take k ++ fs[k] :: fs.drop (k + 1) := by rw [← List.drop_eq_getElem_cons hkl, List.take_append_drop]
      have hkt : (fs.take k).length = k := by rw [List.length_take]; omega
      refine SC.skip ?_
      refine ST.mid ((_, _, _, _), fs.take k, fs[k], fs.drop (k + 1)) ⟨rfl, rfl, rfl, rfl, rfl, rfl, rfl, rfl, rfl, rfl, vi_eq (by dsimp only; omega), trivial⟩ rfl (by dsimp only; rw [← hsp]) ⟨fun p => ?_, ?_, hef2 _ (List.getElem_mem hkl), by rw [hkt, List.length_drop]; omega⟩
      ·conv => lhs; rw [hsp]
       exact (bump_mid (heq hkl) hne).1
      ·conv => lhs; rw [hsp]
       exact (bump_mid (p := 0) (heq hkl) hne).2
    ·rintro ⟨⟨u5, u6, u7, u9⟩, A, e, B⟩ ⟨hbump, hfst, hfl, hlen⟩
     dsimp only at hbump hfst hfl hlen ⊢
     refine SC.facts fun ⟨w0, hw0⟩ => ?_
     obtain ⟨q6, d6, rfl⟩ := rowA_form (i := 2) hw0 rfl
     obtain ⟨q7, d7, rfl⟩ := rowA_form (i := 3) hw0 rfl
     obtain ⟨q9, d9, rfl⟩ := rowA_form (i := 4) hw0 rfl
     have hb6 : based (.slice q6 ((A ++ e :: B).map En.sum).length d6) = true := by obtain ⟨b0, c0, he⟩ := rowA_based (i := 2) hw0 rfl (by simp; omega); rw [he]; rfl
     have hb7 : based (.slice q7 ((A ++ e :: B).map En.many).length d7) = true := by obtain ⟨b0, c0, he⟩ := rowA_based (i := 3) hw0 rfl (by simp; omega); rw [he]; rfl
     have hb9 : based (.slice q9 ((A ++ e :: B).map En.fi).length d9) = true := by obtain ⟨b0, c0, he⟩ := rowA_based (i := 4) hw0 rfl (by simp; omega); rw [he]; rfl
     clear hw0 w0
     have hl6 : ((A ++ e :: B).map En.sum).length = A.length + 1 + B.length := by simp; omega
     have hl7 : ((A ++ e :: B).map En.many).length = A.length + 1 + B.length := by simp; omega
     have hl9 : ((A ++ e :: B).map En.fi).length = A.length + 1 + B.length := by simp; omega
     have g6 : ((A ++ e :: B).map En.sum)[((A.length : Nat) : Int).toNat]? = some e.sum := by rw [List.map_append, List.map_cons]; exact get_mid (by simp)
     have g7 : ((A ++ e :: B).map En.many)[((A.length : Nat) : Int).toNat]? = some e.many := by rw [List.map_append, List.map_cons]; exact get_mid (by simp)
     have g9 : ((A ++ e :: B).map En.fi)[((A.length : Nat) : Int).toNat]? = some ((e.fst : Nat) : Int) := by rw [List.map_append, List.map_cons]; exact get_mid (by simp)
     have gp1 : pa[((e.fst : Nat) : Int).toNat]? = some (pa.getD e.fst 0) := by
      have h : e.fst < pa.length := oM
      rw [show ((e.fst : Nat) : Int).toNat = e.fst by omega, List.getElem?_eq_getElem h, List.getD_eq_getElem?_getD, List.getElem?_eq_getElem h]; rfl
     have gp2 : pa[((i : Nat) : Int).toNat]? = some (pa.getD i 0) := by
      have h : i < pa.length := oM
      rw [show ((i : Nat) : Int).toNat = i by omega, List.getElem?_eq_getElem h, List.getD_eq_getElem?_getD, List.getElem?_eq_getElem h]; rfl
     obtain ⟨wp, hwp⟩ : ∃ wp, wp = wr (x.sign * z.sign) := ⟨_, rfl⟩
     refine SC.seq ?_
     refine SC.draw [20, 21] [(0, 2), (1, 2), (2, 2), (3, 2), (4, 2), (5, 1), (6, 2), (7, 1), (8, 2), (9, 2), (10, 2), (11, 1), (12, 2), (13, 1), (14, 2), (15, 2), (16, 2), (17, 1), (18, 2), (19, 2), (20, 0), (21, 0)] Tryz.mixed (by kernel_rfl) ?_
     refine SP.U (i := 0) rfl (SU.move rfl) (SP.U (i := 1) rfl (SU.move rfl) (SP.U (i := 2) rfl (SU.move rfl) (SP.U (i := 3) rfl (SU.move rfl) (SP.U (i := 4) rfl (SU.indexAddr underlying45 sizeOf3 rfl rfl hb6 oM sL) (SP.K (i := 5) rfl (SQ.elem1 isAgg3 rfl (Rd.rowA 2 rfl) g6 rfl) (SP.U (i := 6) rfl (SU.fieldAddr underlying51 rfl sizeOf49 rfl) (SP.K (i := 7) rfl (SQ.load (v := .slice rp c.sides.length rcap) isAgg49 rfl (CellAt.own 6 rfl rfl)) (SP.U (i := 8) rfl (SU.move rfl) (SP.U (i := 9) rfl (SU.indexAddr underlying49 sizeOf55 rfl rfl hb1 oM sL) (SP.U (i := 10) rfl (SU.fieldAddrC underlying55 rfl sizeOf3 rfl hb1) (SP.K (i := 11) rfl (SQ.partA (e := encSide) (o := 1) (u := vi x.sign) isAgg3 rfl hcs.rd hix rfl) (SP.U (i := 12) rfl (SU.fieldAddr underlying51 rfl sizeOf49 rfl) (SP.K (i := 13) rfl (SQ.load (v := .slice yp yc.sides.length ycap) isAgg49 rfl (CellAt.own 0 rfl rfl)) (SP.U (i := 14) rfl (SU.move rfl) (SP.U (i := 15) rfl (SU.indexAddr underlying49 sizeOf55 rfl rfl hb2 oM sL) (SP.U (i := 16) rfl (SU.fieldAddrC underlying55 rfl sizeOf3 rfl hb2) (SP.K (i := 17) rfl (SQ.partA (e := encSide) (o := 1) (u := vi z.sign) isAgg3 rfl hys.rd hjx rfl) (SP.U (i := 18) rfl (SU.eq (v' := vi wp) (SU.mulW rfl rfl) (by rw [hwp])) ?_))))))))))))))))))
     refine SP.U (i := 19) rfl (SU.addW rfl rfl) (SP.ou (i := 20) rfl (SU.indexAddr underlying45 sizeOf3 rfl rfl hb6 oM sL) dC (.inl dC) (SP.on (i := 21) rfl (SO.setA (a := wr (e.sum + wp)) 2 sizeOf3 rfl rfl rfl oM rfl) (.inl dC) ?_))
     rintro _ _ _ ⟨rfl, rfl⟩
     refine SP.nil (ST.thenN (SC.seq (SC.region (SL.M rfl (SL.M rfl (SL.U (SU.indexAddr underlying45 sizeOf3 rfl rfl hb7 oM sL) (SL.K (SQ.elem1 isAgg3 rfl (Rd.rowA 3 rfl) g7 rfl) (SL.U (SU.addW rfl rfl) (SL.U (SU.indexAddr underlying45 sizeOf3 rfl rfl hb7 oM sL) (SL.on (SO.setA (a := wr (e.many + 1)) 3 sizeOf3 rfl rfl rfl oM rfl) ?_))))))))))
     rintro _ _ _ ⟨rfl, rfl⟩
     refine SL.nil (ST.thenN (SC.seq (SC.region (SL.M rfl (SL.M rfl (SL.M rfl (SL.U (SU.indexAddr underlying45 sizeOf3 rfl rfl hb9 oM sL) (SL.K (SQ.elem1 isAgg3 rfl (Rd.rowA 4 rfl) g9 rfl) (SL.U (SU.indexAddr underlying45 sizeOf3 rfl rfl rfl oM sL) (SL.K (SQ.elem1 isAgg3 rfl (Rd.rowA 5 rfl) gp1 rfl) (SL.A rfl (SL.nil (ST.thenN (SC.seq (SC.region (SL.M rfl (SL.M rfl (SL.U (SU.indexAddr underlying45 sizeOf3 rfl rfl rfl oM sL) (SL.K (SQ.elem1 isAgg3 rfl (Rd.rowA 5 rfl) gp2 rfl) (SL.A rfl (SL.nil (ST.thenN (SC.seq (SC.region (SL.A rfl (SL.nil (ST.thenN (SC.block ?_))))))))))))))))))))))))))))
     have hm6 : ((A ++ e :: B).map En.sum).set ((A.length : Nat) : Int).toNat (wr (e.sum + wp)) = (A ++ e.up wp :: B).map En.sum := by rw [List.map_append, List.map_cons, set_mid (by simp)]; simp [En.up]
     have hm7 : ((A ++ e :: B).map En.many).set ((A.length : Nat) : Int).toNat (wr (e.many + 1)) = (A ++ e.up wp :: B).map En.many := by rw [List.map_append, List.map_cons, set_mid (by simp)]; simp [En.up]
     have hm5 : (A ++ e :: B).map En.id = (A ++ e.up wp :: B).map En.id := by simp [En.up]
     have hm9 : ((A ++ e :: B).map En.fi) = (A ++ e.up wp :: B).map En.fi := by simp [En.up, En.fi]
     generalize hold : pa.getD e.fst 0 = old at *
     generalize hnow : pa.getD i 0 = now at *
     refine SC.to (fun w hw => ?_) (g' := g) (s' := pt b11 (.cells #[vi yc.id, vi yc.dim, .slice yp yc.sides.length ycap] 51 (0, 0)) :: rowA encInt 3 u5 ((A ++ e.up wp :: B).map En.id) :: rowA encInt 3 (.slice q6 ((A ++ e :: B).map En.sum).length d6) ((A ++ e.up wp :: B).map En.sum) :: rowA encInt 3 (.slice q7 ((A ++ e :: B).map En.many).length d7) ((A ++ e.up wp :: B).map En.many) :: rowA encInt 3 (.slice q9 ((A ++ e :: B).map En.fi).length d9) ((A ++ e.up wp :: B).map En.fi) :: rowA encInt 3 (.slice (some ⟨b8, 0, none⟩) c.sides.length c.sides.length) (relabT 0 old now pa) :: pt b3 (.cells #[vi c.id, vi c.dim, .slice rp c.sides.length rcap] 51 (0, 0)) :: s) ?_
     ·rw [← hm6, ← hm7, ← hm5, ← hm9, relabT_zero]; exact hw
     refine SC.loop (ι := Nat) (fun m => [(0, .slice vp rs.length vc), (3, pp b3 0), (5, u5), (6, .slice q6 ((A ++ e :: B).map En.sum).length d6), (7, .slice q7 ((A ++ e :: B).map En.many).length d7), (8, .slice (some ⟨b8, 0, none⟩) c.sides.length c.sides.length), (9, .slice q9 ((A ++ e :: B).map En.fi).length d9), (10, vi (i : Nat)), (11, pp b11 0), (12, vi (j : Nat)), (14, vi old), (15, vi now), (16, vi (m : Nat))]) (fun _ => g)
      (fun m => pt b11 (.cells #[vi yc.id, vi yc.dim, .slice yp yc.sides.length ycap] 51 (0, 0)) :: rowA encInt 3 u5 ((A ++ e.up wp :: B).map En.id) :: rowA encInt 3 (.slice q6 ((A ++ e :: B).map En.sum).length d6) ((A ++ e.up wp :: B).map En.sum) :: rowA encInt 3 (.slice q7 ((A ++ e :: B).map En.many).length d7) ((A ++ e.up wp :: B).map En.many) :: rowA encInt 3 (.slice q9 ((A ++ e :: B).map En.fi).length d9) ((A ++ e.up wp :: B).map En.fi) :: rowA encInt 3 (.slice (some ⟨b8, 0, none⟩) c.sides.length c.sides.length) (relabT m old now pa) :: pt b3 (.cells #[vi c.id, vi c.dim, .slice rp c.sides.length rcap] 51 (0, 0)) :: s)
      (fun m => m ≤ i + 1) (fun m => i + 1 - m) 0 ⟨rfl, rfl, rfl, rfl, rfl, rfl, rfl, rfl, rfl, rfl, rfl, rfl, rfl, trivial⟩ rfl rfl (Nat.zero_le _) ?_
     rintro m hm
     have hrel := relabT_length m old now pa
     refine SC.seq (SC.seq (SC.region (SL.M rfl (SL.M rfl (SL.U (SU.leq rfl rfl) (SL.nil (ST.thenN ?_)))))))
     refine SC.ifP rfl (fun hlt3 => ?_) (fun hlt3 => ?_)
     ·have hmp : m < pa.length := oM
      have gm : (relabT m old now pa)[((m : Nat) : Int).toNat]? = some pa[m] := relabT_get hmp
      have hsuc := relabT_succ (old := old) (now := now) hmp
      refine SC.skip (ST.thenN (SC.seq (SC.block (SC.seq (SC.region (SL.M rfl (SL.M rfl (SL.U (SU.indexAddr underlying45 sizeOf3 rfl rfl rfl oM sL) (SL.K (SQ.elem1 isAgg3 rfl (Rd.rowA 5 rfl) gm rfl) (SL.M rfl (SL.U (SU.eql rfl rfl) (SL.nil (ST.thenN ?_)))))))))))))
      refine SC.ifP rfl (fun hcm => ?_) (fun hcm => ?_)
      ·refine SC.region (SL.M rfl (SL.M rfl (SL.M rfl (SL.U (SU.indexAddr underlying45 sizeOf3 rfl rfl rfl oM sL) (SL.on (SO.setA (a := old) 5 sizeOf3 rfl rfl rfl (by rw [hrel]; omega) rfl) ?_)))))
       rintro _ _ _ ⟨rfl, rfl⟩
       refine SL.nil (ST.blockN (ST.thenN (SC.region (SL.M rfl (SL.U (SU.add rfl rfl oM) (SL.A rfl (SL.nil ?_)))))))
       refine ST.to (fun w hw => ?_) (g' := g) (s' := pt b11 (.cells #[vi yc.id, vi yc.dim, .slice yp yc.sides.length ycap] 51 (0, 0)) :: rowA encInt 3 u5 ((A ++ e.up wp :: B).map En.id) :: rowA encInt 3 (.slice q6 ((A ++ e :: B).map En.sum).length d6) ((A ++ e.up wp :: B).map En.sum) :: rowA encInt 3 (.slice q7 ((A ++ e :: B).map En.many).length d7) ((A ++ e.up wp :: B).map En.many) :: rowA encInt 3 (.slice q9 ((A ++ e :: B).map En.fi).length d9) ((A ++ e.up wp :: B).map En.fi) :: rowA encInt 3 (.slice (some ⟨b8, 0, none⟩) c.sides.length c.sides.length) (relabT (m + 1) old now pa) :: pt b3 (.cells #[vi c.id, vi c.dim, .slice rp c.sides.length rcap] 51 (0, 0)) :: s) ?_
       ·rw [hsuc, if_pos hcm]; exact hw
       exact ST.again (m + 1) ⟨rfl, rfl, rfl, rfl, rfl, rfl, rfl, rfl, rfl, rfl, rfl, rfl, rfl, trivial⟩ rfl rfl oM oM
      ·refine SC.skip (ST.blockN (ST.thenN (SC.region (SL.M rfl (SL.U (SU.add rfl rfl oM) (SL.A rfl (SL.nil ?_)))))))
       refine ST.to (fun w hw => ?_) (g' := g) (s' := pt b11 (.cells #[vi yc.id, vi yc.dim, .slice yp yc.sides.length ycap] 51 (0, 0)) :: rowA encInt 3 u5 ((A ++ e.up wp :: B).map En.id) :: rowA encInt 3 (.slice q6 ((A ++ e :: B).map En.sum).length d6) ((A ++ e.up wp :: B).map En.sum) :: rowA encInt 3 (.slice q7 ((A ++ e :: B).map En.many).length d7) ((A ++ e.up wp :: B).map En.many) :: rowA encInt 3 (.slice q9 ((A ++ e :: B).map En.fi).length d9) ((A ++ e.up wp :: B).map En.fi) :: rowA encInt 3 (.slice (some ⟨b8, 0, none⟩) c.sides.length c.sides.length) (relabT (m + 1) old now pa) :: pt b3 (.cells #[vi c.id, vi c.dim, .slice rp c.sides.length rcap] 51 (0, 0)) :: s) ?_
       ·rw [hsuc, if_neg hcm]; exact hw
       exact ST.again (m + 1) ⟨rfl, rfl, rfl, rfl, rfl, rfl, rfl, rfl, rfl, rfl, rfl, rfl, rfl, trivial⟩ rfl rfl oM oM
     ·have hmm : m = i + 1 := oM
      subst hmm
      refine SC.exit (ST.thenX (ST.thenX (ST.blockX (ST.blockN (ST.thenN (SC.region (SL.M rfl (SL.U (SU.add rfl rfl oM) (SL.A rfl (SL.nil ?_))))))))))
      have hnext : stepR i x.sign (fs, pa) z = (A ++ e.up wp :: B, relabT (i + 1) old now pa) := by
       unfold stepR
       dsimp only
       rw [hfst, hold, hnow, hwp, hbump]
      refine ST.again ((u5, _, _, _), (A ++ e.up wp :: B, relabT (i + 1) old now pa), j + 1) ⟨rfl, rfl, rfl, rfl, rfl, rfl, rfl, rfl, rfl, rfl, trivial⟩ rfl rfl ⟨lN, by dsimp only; rw [htk2, hnext], by dsimp only; rw [hrel]; exact hpl2, lN, fun q hq => ?_⟩ lN
      have h9 := bump_fst (c := z.cell) (p := wp) hil hef2 q (by rw [hbump]; exact hq)
      exact h9
  ·have hjj : yc.sides.take j = yc.sides := List.take_of_length_le oM
   rw [hjj] at hst2
   have hnext : stepS tl (es, part) (x, i) = (fs, pa) := by unfold stepS; rw [hsx]; exact hst2.symm
   refine SC.exit (ST.thenX (ST.thenX (ST.blockX (ST.blockN (ST.thenN (SC.region (SL.M rfl (SL.U (SU.add rfl rfl oM) (SL.A rfl (SL.nil (ST.drop (s' := rowA encInt 3 (.slice p5 (fs.map En.id).length c5) (fs.map En.id) :: rowA encInt 3 (.slice p6 (fs.map En.sum).length c6) (fs.map En.sum) :: rowA encInt 3 (.slice p7 (fs.map En.many).length c7) (fs.map En.many) :: rowA encInt 3 (.slice p9 (fs.map En.fi).length c9) (fs.map En.fi) :: rowA encInt 3 (.slice (some ⟨b8, 0, none⟩) c.sides.length c.sides.length) (pa) :: pt b3 (.cells #[vi c.id, vi c.dim, .slice rp c.sides.length rcap] 51 (0, 0)) :: s) (.cons _ (.refl _)) ?_)))))))))))
   exact ST.again ((_, _, _, _), (fs, pa), i + 1) ⟨rfl, rfl, rfl, rfl, rfl, rfl, rfl, rfl, trivial⟩ rfl rfl ⟨lN, by dsimp only; rw [htk, ← hst, hnext], hpl2, lN, hef2⟩ lN
 ·have hii : c.sides.take i = c.sides := List.take_of_length_le oM
  rw [hii] at hst
  have hfin : secSt tl c.sides c.sides.length = (es, part) := hst.symm
  refine SC.facts fun ⟨w0, hw0⟩ => ?_
  obtain ⟨p6, c6, rfl⟩ := rowA_form (i := 1) hw0 rfl
  obtain ⟨p7, c7, rfl⟩ := rowA_form (i := 2) hw0 rfl
  have hb6 : 0 < es.length → based (.slice p6 (es.map En.sum).length c6) = true := fun h => by obtain ⟨b0, c0, he⟩ := rowA_based (i := 1) hw0 rfl (by simpa using h); rw [he]; rfl
  have hb7 : 0 < es.length → based (.slice p7 (es.map En.many).length c7) = true := fun h => by obtain ⟨b0, c0, he⟩ := rowA_based (i := 2) hw0 rfl (by simpa using h); rw [he]; rfl
  clear hw0 w0
  have hl6 : (es.map En.sum).length = es.length := by simp
  have hl7 : (es.map En.many).length = es.length := by simp
  refine SC.exit (ST.thenX (ST.thenX (ST.blockX (ST.thenN (SC.seq (SC.seq (SC.region (SL.A rfl (SL.nil (ST.thenN (SC.block ?_)))))))))))
  refine SC.loop (ι := Nat) (fun k => [(6, .slice p6 (es.map En.sum).length c6), (7, .slice p7 (es.map En.many).length c7), (8, .slice (some ⟨b8, 0, none⟩) c.sides.length c.sides.length), (17, vi (k : Nat))]) (fun _ => g)
   (fun _ => rowA encInt 3 v5 (es.map En.id) :: rowA encInt 3 (.slice p6 (es.map En.sum).length c6) (es.map En.sum) :: rowA encInt 3 (.slice p7 (es.map En.many).length c7) (es.map En.many) :: rowA encInt 3 v9 (es.map En.fi) :: rowA encInt 3 (.slice (some ⟨b8, 0, none⟩) c.sides.length c.sides.length) (part) :: pt b3 (.cells #[vi c.id, vi c.dim, .slice rp c.sides.length rcap] 51 (0, 0)) :: s)
   (fun k => k ≤ es.length ∧ (es.take k).any (fun e => decide (e.sum ≠ 0)) = false) (fun k => es.length - k) 0 ⟨rfl, rfl, rfl, rfl, trivial⟩ rfl rfl ⟨Nat.zero_le _, by simp⟩ ?_
  rintro k ⟨hk, hno⟩
  refine SC.seq (SC.seq (SC.region (SL.M rfl (SL.M rfl (SL.U (SU.lenN underlying45 rfl) (SL.U (SU.lss rfl rfl) (SL.nil (ST.thenN ?_))))))))
  refine SC.ifP rfl (fun hltA => ?_) (fun hltA => ?_)
  ·have hkl : k < es.length := oM
   have gk : (es.map En.sum)[((k : Nat) : Int).toNat]? = some es[k].sum := by simp [hkl]
   refine SC.skip (ST.thenN (SC.seq (SC.block (SC.seq (SC.region (SL.M rfl (SL.M rfl (SL.U (SU.indexAddr underlying45 sizeOf3 rfl rfl (hb6 oM) oM sL) (SL.K (SQ.elem1 isAgg3 rfl (Rd.rowA 1 rfl) gk rfl) (SL.U (SU.neq rfl rfl) (SL.nil (ST.thenN ?_))))))))))))
   refine SC.ifP rfl (fun hz => ?_) (fun hz => ?_)
   ·refine SC.seq (SC.region (SL.A rfl (SL.nil (ST.thenN (SC.ret (ST.blockR (ST.thenR (ST.thenR (ST.blockR (ST.thenR ?_))))))))))
    refine ST.drop (s' := s) (by repeat (first | exact List.Sublist.refl _ | refine List.Sublist.cons _ ?_)) ?_
    exact ST.ret1 (.inl rfl) results132 rfl ⟨by unfold secondC; rw [hfin, if_pos (List.any_eq_true.2 ⟨es[k], List.getElem_mem hkl, by simpa using hz⟩)], rfl, rfl⟩
   ·refine SC.skip (ST.blockN (ST.thenN (SC.region (SL.M rfl (SL.U (SU.add rfl rfl oM) (SL.A rfl (SL.nil ?_)))))))
    exact ST.again (k + 1) ⟨rfl, rfl, rfl, rfl, trivial⟩ rfl rfl ⟨oM, by rw [List.take_succ_eq_append_getElem hkl, List.any_append, hno]; simpa using hz⟩ oM
  ·have hkk : es.take k = es := List.take_of_length_le oM
   rw [hkk] at hno
   refine SC.exit (ST.thenX (ST.thenX (ST.blockX (ST.thenN (SC.seq (SC.seq (SC.region (SL.A rfl (SL.nil (ST.thenN (SC.block ?_)))))))))))
   refine SC.loop (ι := Nat) (fun k => [(7, .slice p7 (es.map En.many).length c7), (8, .slice (some ⟨b8, 0, none⟩) c.sides.length c.sides.length), (18, vi (k : Nat))]) (fun _ => g)
    (fun _ => rowA encInt 3 v5 (es.map En.id) :: rowA encInt 3 (.slice p6 (es.map En.sum).length c6) (es.map En.sum) :: rowA encInt 3 (.slice p7 (es.map En.many).length c7) (es.map En.many) :: rowA encInt 3 v9 (es.map En.fi) :: rowA encInt 3 (.slice (some ⟨b8, 0, none⟩) c.sides.length c.sides.length) (part) :: pt b3 (.cells #[vi c.id, vi c.dim, .slice rp c.sides.length rcap] 51 (0, 0)) :: s)
    (fun k => k ≤ es.length ∧ (es.take k).any (fun e => decide (e.many ≠ 2)) = false) (fun k => es.length - k) 0 ⟨rfl, rfl, rfl, trivial⟩ rfl rfl ⟨Nat.zero_le _, by simp⟩ ?_
   rintro k2 ⟨hk2, hno2⟩
   refine SC.seq (SC.seq (SC.region (SL.M rfl (SL.M rfl (SL.U (SU.lenN underlying45 rfl) (SL.U (SU.lss rfl rfl) (SL.nil (ST.thenN ?_))))))))
   refine SC.ifP rfl (fun hltB => ?_) (fun hltB => ?_)
   ·have hkl : k2 < es.length := oM
    have gk : (es.map En.many)[((k2 : Nat) : Int).toNat]? = some es[k2].many := by simp [hkl]
    refine SC.skip (ST.thenN (SC.seq (SC.block (SC.seq (SC.region (SL.M rfl (SL.M rfl (SL.U (SU.indexAddr underlying45 sizeOf3 rfl rfl (hb7 oM) oM sL) (SL.K (SQ.elem1 isAgg3 rfl (Rd.rowA 2 rfl) gk rfl) (SL.U (SU.neq rfl rfl) (SL.nil (ST.thenN ?_))))))))))))
    refine SC.ifP rfl (fun hz => ?_) (fun hz => ?_)
    ·refine SC.seq (SC.region (SL.A rfl (SL.nil (ST.thenN (SC.ret (ST.blockR (ST.thenR (ST.thenR (ST.blockR (ST.thenR ?_))))))))))
     refine ST.drop (s' := s) (by repeat (first | exact List.Sublist.refl _ | refine List.Sublist.cons _ ?_)) ?_
     exact ST.ret1 (.inl rfl) results132 rfl ⟨by unfold secondC; rw [hfin, if_neg (by rw [hno]; simp), if_pos (List.any_eq_true.2 ⟨es[k2], List.getElem_mem hkl, by simpa using hz⟩)], rfl, rfl⟩
    ·refine SC.skip (ST.blockN (ST.thenN (SC.region (SL.M rfl (SL.U (SU.add rfl rfl oM) (SL.A rfl (SL.nil ?_)))))))
     exact ST.again (k2 + 1) ⟨rfl, rfl, rfl, trivial⟩ rfl rfl ⟨oM, by rw [List.take_succ_eq_append_getElem hkl, List.any_append, hno2]; simpa using hz⟩ oM
   ·have hkk2 : es.take k2 = es := List.take_of_length_le oM
    rw [hkk2] at hno2
    refine SC.exit (ST.thenX (ST.thenX (ST.blockX (ST.thenN (SC.seq (SC.seq (SC.region (SL.A rfl (SL.nil (ST.thenN (SC.block ?_)))))))))))
    refine SC.loop (ι := Nat) (fun k => [(8, .slice (some ⟨b8, 0, none⟩) c.sides.length c.sides.length), (19, vi (k : Nat))]) (fun _ => g)
     (fun _ => rowA encInt 3 v5 (es.map En.id) :: rowA encInt 3 (.slice p6 (es.map En.sum).length c6) (es.map En.sum) :: rowA encInt 3 (.slice p7 (es.map En.many).length c7) (es.map En.many) :: rowA encInt 3 v9 (es.map En.fi) :: rowA encInt 3 (.slice (some ⟨b8, 0, none⟩) c.sides.length c.sides.length) (part) :: pt b3 (.cells #[vi c.id, vi c.dim, .slice rp c.sides.length rcap] 51 (0, 0)) :: s)
     (fun k => k ≤ c.sides.length ∧ (part.take k).any (fun q => decide (q ≠ part.getD 0 0)) = false) (fun k => c.sides.length - k) 0 ⟨rfl, rfl, trivial⟩ rfl rfl ⟨Nat.zero_le _, by simp⟩ ?_
    rintro k3 ⟨hk3, hno3⟩
    refine SC.seq (SC.seq (SC.region (SL.M rfl (SL.M rfl (SL.U (SU.lenN underlying45 rfl) (SL.U (SU.lss rfl rfl) (SL.nil (ST.thenN ?_))))))))
    refine SC.ifP rfl (fun hltC => ?_) (fun hltC => ?_)
    ·have hkl : k3 < part.length := oM
     have gk : part[((k3 : Nat) : Int).toNat]? = some part[k3] := List.getElem?_eq_getElem hkl
     have g0 : part[((0 : Nat) : Int).toNat]? = some (part.getD 0 0) := by
      have h : 0 < part.length := oM
      rw [show ((0 : Nat) : Int).toNat = 0 from rfl, List.getElem?_eq_getElem h, List.getD_eq_getElem?_getD, List.getElem?_eq_getElem h]; rfl
     generalize hp0 : part.getD 0 0 = p0 at *
     refine SC.skip (ST.thenN (SC.seq (SC.block (SC.seq ?_))))
     refine SC.draw [] [(0, 2), (1, 2), (2, 2), (3, 1), (4, 2), (5, 2), (6, 1), (7, 2)] Tryz.mixed (by kernel_rfl) ?_
     refine SP.U (i := 0) rfl (SU.move rfl) (SP.U (i := 1) rfl (SU.move rfl) (SP.U (i := 2) rfl (SU.indexAddr underlying45 sizeOf3 rfl rfl rfl oM sL) (SP.K (i := 3) rfl (SQ.elem1 isAgg3 rfl (Rd.rowA 4 rfl) gk rfl) (SP.U (i := 4) rfl (SU.move rfl) (SP.U (i := 5) rfl (SU.indexAddr underlying45 sizeOf3 rfl rfl rfl dC sL) (SP.K (i := 6) rfl (SQ.elem1 isAgg3 rfl (Rd.rowA 4 rfl) g0 rfl) (SP.U (i := 7) rfl (SU.neq rfl rfl) (SP.nil (ST.thenN ?_)))))))))
     refine SC.ifP rfl (fun hz => ?_) (fun hz => ?_)
     ·refine SC.seq (SC.region (SL.A rfl (SL.nil (ST.thenN (SC.ret (ST.blockR (ST.thenR (ST.thenR (ST.blockR (ST.thenR ?_))))))))))
      refine ST.drop (s' := s) (by repeat (first | exact List.Sublist.refl _ | refine List.Sublist.cons _ ?_)) ?_
      exact ST.ret1 (.inl rfl) results132 rfl ⟨by unfold secondC; rw [hfin, if_neg (by rw [hno]; simp), if_neg (by rw [hno2]; simp), if_pos (List.any_eq_true.2 ⟨part[k3], List.getElem_mem hkl, by rw [hp0]; simpa using hz⟩)], rfl, rfl⟩
     ·refine SC.skip (ST.blockN (ST.thenN (SC.region (SL.M rfl (SL.U (SU.add rfl rfl oM) (SL.A rfl (SL.nil ?_)))))))
      exact ST.again (k3 + 1) ⟨rfl, rfl, trivial⟩ rfl rfl ⟨oM, by rw [List.take_succ_eq_append_getElem hkl, List.any_append, hno3]; simpa using hz⟩ oM
    ·have hkk3 : part.take k3 = part := List.take_of_length_le oM
     rw [hkk3] at hno3
     refine SC.exit (ST.thenX (ST.thenX (ST.blockX (ST.thenN (SC.seq (SC.region (SL.A rfl (SL.nil (ST.thenN (SC.ret ?_))))))))))
     refine ST.drop (s' := s) (by repeat (first | exact List.Sublist.refl _ | refine List.Sublist.cons _ ?_)) ?_
     exact ST.ret1 (.inl rfl) results132 rfl ⟨by unfold secondC; rw [hfin, if_neg (by rw [hno]; simp), if_neg (by rw [hno2]; simp), if_neg (by rw [hno3]; simp)], rfl, rfl⟩
theorem form_found {tl : List Cl} {c : Cl} (h : formC tl c = 0) : ∀ x ∈ c.sides, (findT tl x.cell).isSome = true := by
 intro x hx
 unfold formC at h
 split at h
 ·cases h
 split at h
 ·cases h
 split at h
 ·cases h
 rename_i hno
 have hno' : (List.range c.sides.length).any (badAt tl c) = false := by simpa using hno
 obtain ⟨k, hk, rfl⟩ := List.getElem_of_mem hx
 have h1 := List.any_eq_false.1 hno' k (List.mem_range.2 hk)
 cases hf : (findT tl c.sides[k].cell).isSome with
 | true => rfl
 | false =>
  exfalso
  apply h1
  unfold badAt
  rw [List.getElem?_eq_getElem hk]
  exact badSide_a (by rw [hf]; simp)
theorem chk1_strict {tl : List Cl} : ∀ {L : List Cl} {last : Int}, chk1 tl L last = none → (∀ x ∈ L, last < x.id) ∧ L.Pairwise fun a b => a.id < b.id
 | [], _, _ => ⟨by simp, List.Pairwise.nil⟩
 | x :: r, last, h => by
  unfold chk1 at h
  split at h
  ·cases h
  ·rename_i h1
   split at h
   ·cases h
   ·obtain ⟨h2, h3⟩ := chk1_strict h
    refine ⟨fun y hy => ?_, List.pairwise_cons.2 ⟨h2, h3⟩⟩
    rcases List.mem_cons.1 hy with rfl | hy
    ·omega
    ·have := h2 y hy; omega
theorem foldl_strict : ∀ {L acc : List Cl}, (acc ++ L).Pairwise (fun a b => a.id < b.id) → L.foldl addC acc = acc ++ L
 | [], acc, _ => by simp
 | x :: r, acc, h => by
  have h1 : acc.any (fun y => y.id == x.id) = false := by
   rw [List.any_eq_false]
   intro y hy
   have := (List.pairwise_append.1 h).2.2 y hy x (by simp)
   simp
   omega
  rw [List.foldl_cons, addC_new h1, foldl_strict (by simpa using h)]
  simp
theorem tabC_strict {l : List Cl} (h : (canonC l).Pairwise fun a b => a.id < b.id) : tabC l = canonC l := by
 unfold tabC
 rw [foldl_strict (by simpa using h)]
 rfl
def chkR2 (tl : List Cl) : List Cl → Option (Int × Int)
 | [] => none
 | x :: r => if x.dim > 1 ∧ secondC tl x ≠ 0 then some (x.id, secondC tl x) else chkR2 tl r
def refCheckC (l : List Cl) : Int × Int := if (l.length : Int) > 4000 then (0, 2) else (chk1 (tabC l) (canonC l) 0).getD ((chkR2 (canonC l) (canonC l)).getD (0, 0))
def lastOf (L : List Cl) (i : Nat) : Int := if i = 0 then 0 else (L.getD (i - 1) zeroC).id
theorem lastOf_succ {L : List Cl} {i : Nat} (h : i < L.length) : lastOf L (i + 1) = L[i].id := by
 unfold lastOf
 rw [if_neg oM]
 simp [h]
theorem refCheck_spec (E : World) (g : PH) (s : Own) (v : Value) (l : List Cl) (hv : Cells g v l) (hf : Fits l) :
  Ctr Tryz.prog E 96 #[.agg #[v]] g s (fun r g' s' => r = .tuple #[vi (refCheckC l).1, vi (refCheckC l).2] ∧ s = s' ∧ Le g g') := by
 obtain ⟨p, c, rfl⟩ := hv.form
 have hsrt := canonC_srt l
 have hcl := canonC_length l
 have hfc := canonC_fits hf
 have hft := tabC_fits hf
 have hts := tabC_sorted l
 have hcs := canonC_sorted l
 refine Ctr.of (args := [.agg #[.slice p l.length c]]) func96 rfl ntmps96 (Nat.le_of_ble_eq_true rfl) ?_
 refine SC.seq (SC.region (SL.W (SO.box rfl) ?_))
 rintro _ _ _ ⟨b1, rfl, rfl, rfl⟩
 refine SL.A rfl (SL.A rfl (SL.nil (ST.thenN (SC.seq (SC.seq (SC.region (SL.U (SU.fieldAddr underlying27 rfl sizeOf25 rfl) (SL.K (SQ.load isAgg25 rfl (CellAt.own 0 rfl rfl)) (SL.U (SU.lenN underlying25 rfl) (SL.U (SU.gtr rfl rfl) (SL.nil (ST.thenN ?_))))))))))))
 refine SC.ifP rfl (fun hmany => ?_) (fun hmany => ?_)
 ·refine SC.seq (SC.region (SL.A rfl (SL.A rfl (SL.nil (ST.thenN (SC.ret (ST.thenR (ST.drop (s' := s) (.cons _ (.refl _)) ?_))))))))
  exact ST.ret2 (.inl rfl) results96 rfl rfl ⟨by unfold refCheckC; rw [if_pos oM], rfl, Le.refl g⟩
 ·refine SC.skip (ST.thenN (SC.seq (SC.region (SL.U (SU.fieldAddr underlying27 rfl sizeOf25 rfl) (SL.K (SQ.load isAgg25 rfl (CellAt.own 0 rfl rfl)) (SL.W (SO.call call97 rfl (ordered_spec E l.length g _ _ l (Nat.le_refl _) hv hf)) ?_))))))
  rintro v16 g1 _ ⟨rfl, hle1, hL⟩
  obtain ⟨rs, hrs, hall⟩ := hL
  have hrl := hall.length
  obtain ⟨q, d, rfl⟩ := hrs.form
  refine SL.A rfl (SL.nil (ST.thenN (SC.seq (SC.region (SL.K (SQ.loadVarK 0 isAgg27 sizeOf27 rfl rfl rfl) (SL.W (SO.call call61 rfl (refCells_spec E g1 _ _ l (hv.mono hle1) hf)) ?_))))))
  rintro v18 g2 _ ⟨rfl, hle2, hO⟩
  have hrs2 := hrs.mono hle2
  have hall2 := hall.mono fun _ _ => CellR.mono hle2
  obtain ⟨q2, d2, rfl⟩ := hO.form
  refine SL.A rfl (SL.nil (ST.thenN (SC.seq (SC.seq (SC.region (SL.A rfl (SL.nil (ST.thenN (SC.block ?_)))))))))
  have hLc : Cells g2 (.slice q rs.length d) (canonC l) := ⟨rs, hrs2, hall2⟩
  have hchk : refCheckC l = (chk1 (tabC l) (canonC l) 0).getD ((chkR2 (canonC l) (canonC l)).getD (0, 0)) := by unfold refCheckC; rw [if_neg oM]
  refine SC.loop (ι := Nat) (fun i => [(1, pp b1 0), (4, .slice q rs.length d), (5, .slice q2 (tabC l).length d2), (6, vi i)]) (fun _ => g2) (fun _ => pt b1 (.cells #[.slice p l.length c] 27 (0, 0)) :: s)
   (fun i => i ≤ rs.length ∧ chk1 (tabC l) (canonC l) 0 = chk1 (tabC l) ((canonC l).drop i) (lastOf (canonC l) i) ∧ (0 < i → 1 ≤ lastOf (canonC l) i)) (fun i => rs.length - i) 0
   ⟨rfl, rfl, rfl, rfl, trivial⟩ rfl rfl ⟨Nat.zero_le _, rfl, fun h => absurd h oM⟩ ?_
  rintro i ⟨hi, hc1, hl1⟩
  refine SC.seq (SC.seq (SC.region (SL.M rfl (SL.M rfl (SL.U (SU.lenN underlying25 rfl) (SL.U (SU.lss rfl rfl) (SL.nil (ST.thenN ?_))))))))
  refine SC.ifP rfl (fun hlt => ?_) (fun hlt => ?_)
  ·have hil : i < (canonC l).length := oM
   have hir : i < rs.length := oM
   have hb1 := hrs2.based oM
   have hcr := hall2.get (List.getElem?_eq_getElem hil) (List.getElem?_eq_getElem hir)
   have hgx : rs[((i : Nat) : Int).toNat]? = some rs[i] := List.getElem?_eq_getElem hir
   have hdrop : (canonC l).drop i = (canonC l)[i] :: (canonC l).drop (i + 1) := List.drop_eq_getElem_cons hil
   have hxl := hfc.2 _ (List.getElem_mem hil)
   have hls := lastOf_succ hil
   rw [hdrop] at hc1
   have hprev : 0 < i → ∃ (r : Rc), rs[((i : Int) - 1).toNat]? = some r ∧ r.id = lastOf (canonC l) i ∧ lastOf (canonC l) i ≤ (canonC l)[i].id := fun h => by
    have h2 : i - 1 < rs.length := oM
    have h3 : i - 1 < (canonC l).length := oM
    refine ⟨rs[i - 1], by rw [show ((i : Int) - 1).toNat = i - 1 by omega]; exact List.getElem?_eq_getElem h2, ?_, ?_⟩
    ·have := (hall2.get (List.getElem?_eq_getElem h3) (List.getElem?_eq_getElem h2)).1
     rw [this]
     unfold lastOf
     rw [if_neg oM]
     simp [h3]
    ·have := List.pairwise_iff_getElem.1 hsrt (i - 1) i h3 hil oM
     unfold lastOf
     rw [if_neg oM]
     simpa [h3] using this
   generalize (canonC l)[i] = x at *
   generalize rs[i] = rx at *
   obtain ⟨hx1, hx2, hx3⟩ := hcr
   have hcr : CellR g2 x rx := ⟨hx1, hx2, hx3⟩
   have hbad : x.id ≤ lastOf (canonC l) i → refCheckC l = (x.id, 20) := fun h => by rw [hchk, hc1, chk1, if_pos h]; rfl
   by_cases hx0 : x.id < 1
   ·have hle0 : x.id ≤ lastOf (canonC l) i := by
     by_cases h0 : 0 < i
     ·have := hl1 h0; omega
     ·have : i = 0 := oM
      subst this
      show x.id ≤ 0
      omega
    refine SC.skip (ST.thenN (SC.seq (SC.block (SC.seq (SC.seq ?_)))))
    refine SC.draw [] [(0, 2), (1, 2), (2, 2), (3, 2), (4, 1), (5, 2), (6, 2), (7, 2), (8, 2), (9, 2), (10, 2), (11, 2), (12, 2), (13, 2), (14, 1), (15, 2), (16, 2), (17, 2), (18, 2), (19, 2), (20, 1), (21, 2), (22, 2), (23, 2)] Tryz.mixed (by kernel_rfl) ?_
    refine SP.U (i := 0) rfl (SU.move rfl) (SP.U (i := 1) rfl (SU.move rfl) (SP.U (i := 2) rfl (SU.indexAddr underlying25 sizeOf51 rfl rfl hb1 oM sL) (SP.U (i := 3) rfl (SU.fieldAddrC underlying51 rfl sizeOf3 rfl hb1) (SP.K (i := 4) rfl (SQ.partA (e := encCell) (o := 0) (u := vi x.id) isAgg3 rfl hrs2.rd hgx (by rw [← hx1]; rfl)) ?_))))
    refine SP.U (i := 5) rfl (SU.eq (v' := vb true) (SU.lss rfl rfl) (congrArg vb (decide_eq_true hx0))) (SP.U (i := 6) rfl (SU.move rfl) (SP.off (i := 7) rfl (Gd.onF rfl rfl rfl dC) dC (SP.off (i := 8) rfl (Gd.onF rfl rfl rfl dC) dC (SP.off (i := 9) rfl (Gd.onF rfl rfl rfl dC) dC (SP.off (i := 10) rfl (Gd.off rfl rfl rfl dC) dC (SP.off (i := 11) rfl (Gd.off rfl rfl rfl dC) dC (SP.off (i := 12) rfl (Gd.off rfl rfl rfl dC) dC (SP.off (i := 13) rfl (Gd.off rfl rfl rfl dC) dC (SP.off1 (i := 14) rfl (Gd.off rfl rfl rfl dC) dC (SP.off (i := 15) rfl (Gd.off rfl rfl rfl dC) dC (SP.off (i := 16) rfl (Gd.off rfl rfl rfl dC) dC (SP.off (i := 17) rfl (Gd.off rfl rfl rfl dC) dC (SP.off (i := 18) rfl (Gd.off rfl rfl rfl dC) dC (SP.off (i := 19) rfl (Gd.off rfl rfl rfl dC) dC (SP.off1 (i := 20) rfl (Gd.off rfl rfl rfl dC) dC (SP.off (i := 21) rfl (Gd.off rfl rfl rfl dC) dC (SP.off (i := 22) rfl (Gd.onF rfl rfl rfl dC) dC (SP.U (i := 23) rfl (SU.pickT rfl rfl) (SP.nil (ST.thenN (SC.condT rfl (SC.seq (SC.region (SL.M rfl (SL.M rfl (SL.U (SU.indexAddr underlying25 sizeOf51 rfl rfl hb1 oM sL) (SL.U (SU.fieldAddrC underlying51 rfl sizeOf3 rfl hb1) (SL.K (SQ.partA (e := encCell) (o := 0) (u := vi x.id) isAgg3 rfl hrs2.rd hgx (by rw [← hx1]; rfl)) ?_))))))))))))))))))))))))))))
    refine SL.A rfl (SL.A rfl (SL.nil (ST.thenN (SC.ret (ST.thenR (ST.blockR (ST.thenR (ST.thenR (ST.blockR (ST.thenR (ST.drop (s' := s) (.cons _ (.refl _)) ?_)))))))))))
    exact ST.ret2 (.inl rfl) results96 rfl rfl ⟨by rw [hbad hle0], rfl, hle1.trans hle2⟩
   ·have hgo : lastOf (canonC l) i < x.id → chk1 (tabC l) (canonC l) 0 = if formC (tabC l) x ≠ 0 then some (x.id, formC (tabC l) x) else chk1 (tabC l) ((canonC l).drop (i + 1)) (lastOf (canonC l) (i + 1)) := fun h => by
     rw [hc1, chk1, if_neg oM, hls]
    by_cases hi0 : (i : Int) > 0
    ·obtain ⟨rp, hrp, hrpi, hrple⟩ := hprev oM
     refine SC.skip (ST.thenN (SC.seq (SC.block (SC.seq (SC.seq ?_)))))
     refine SC.draw [] [(0, 2), (1, 2), (2, 2), (3, 2), (4, 1), (5, 2), (6, 2), (7, 2), (8, 2), (9, 2), (10, 2), (11, 2), (12, 2), (13, 2), (14, 1), (15, 2), (16, 2), (17, 2), (18, 2), (19, 2), (20, 1), (21, 2), (22, 2), (23, 2)] Tryz.mixed (by kernel_rfl) ?_
     refine SP.U (i := 0) rfl (SU.move rfl) (SP.U (i := 1) rfl (SU.move rfl) (SP.U (i := 2) rfl (SU.indexAddr underlying25 sizeOf51 rfl rfl hb1 oM sL) (SP.U (i := 3) rfl (SU.fieldAddrC underlying51 rfl sizeOf3 rfl hb1) (SP.K (i := 4) rfl (SQ.partA (e := encCell) (o := 0) (u := vi x.id) isAgg3 rfl hrs2.rd hgx (by rw [← hx1]; rfl)) ?_))))
     refine SP.U (i := 5) rfl (SU.eq (v' := vb false) (SU.lss rfl rfl) (congrArg vb (decide_eq_false hx0))) (SP.U (i := 6) rfl (SU.move rfl) (SP.gu (i := 7) rfl (Gd.onT rfl rfl rfl dC) (SU.move rfl) dC (SP.gu (i := 8) rfl (Gd.onT rfl rfl rfl dC) (SU.eq (v' := vb true) (SU.gtr rfl rfl) (congrArg vb (decide_eq_true hi0))) dC (SP.gu (i := 9) rfl (Gd.onT rfl rfl rfl dC) (SU.move rfl) dC (SP.gu (i := 10) rfl (Gd.onT rfl rfl rfl dC) (SU.move rfl) dC (SP.gu (i := 11) rfl (Gd.onT rfl rfl rfl dC) (SU.move rfl) dC (SP.gu (i := 12) rfl (Gd.onT rfl rfl rfl dC) (SU.indexAddr underlying25 sizeOf51 rfl rfl hb1 oM sL) dC (SP.gu (i := 13) rfl (Gd.onT rfl rfl rfl dC) (SU.fieldAddrC underlying51 rfl sizeOf3 rfl hb1) dC (SP.gq (i := 14) rfl (Gd.onT rfl rfl rfl dC) (SQ.partA (e := encCell) (o := 0) (u := vi x.id) isAgg3 rfl hrs2.rd hgx (by rw [← hx1]; rfl)) dC ?_)))))))))
     refine SP.gu (i := 15) rfl (Gd.onT rfl rfl rfl dC) (SU.move rfl) dC (SP.gu (i := 16) rfl (Gd.onT rfl rfl rfl dC) (SU.move rfl) dC (SP.gu (i := 17) rfl (Gd.onT rfl rfl rfl dC) (SU.sub rfl rfl oM) dC (SP.gu (i := 18) rfl (Gd.onT rfl rfl rfl dC) (SU.indexAddr underlying25 sizeOf51 rfl rfl hb1 oM sL) dC (SP.gu (i := 19) rfl (Gd.onT rfl rfl rfl dC) (SU.fieldAddrC underlying51 rfl sizeOf3 rfl hb1) dC (SP.gq (i := 20) rfl (Gd.onT rfl rfl rfl dC) (SQ.partA (e := encCell) (o := 0) (u := vi (lastOf (canonC l) i)) isAgg3 rfl hrs2.rd hrp (by rw [← hrpi]; rfl)) dC ?_)))))
     refine SP.gu (i := 21) rfl (Gd.onT rfl rfl rfl dC) (SU.eql rfl rfl) dC (SP.gu (i := 22) rfl (Gd.onT rfl rfl rfl dC) (SU.pickT rfl rfl) dC (SP.U (i := 23) rfl (SU.pickF rfl rfl) (SP.nil (ST.thenN ?_))))
     refine SC.ifP rfl (fun heq => ?_) (fun heq => ?_)
     ·refine SC.seq (SC.region (SL.M rfl (SL.M rfl (SL.U (SU.indexAddr underlying25 sizeOf51 rfl rfl hb1 oM sL) (SL.U (SU.fieldAddrC underlying51 rfl sizeOf3 rfl hb1) (SL.K (SQ.partA (e := encCell) (o := 0) (u := vi x.id) isAgg3 rfl hrs2.rd hgx (by rw [← hx1]; rfl)) ?_))))))
      refine SL.A rfl (SL.A rfl (SL.nil (ST.thenN (SC.ret (ST.thenR (ST.blockR (ST.thenR (ST.thenR (ST.blockR (ST.thenR (ST.drop (s' := s) (.cons _ (.refl _)) ?_)))))))))))
      exact ST.ret2 (.inl rfl) results96 rfl rfl ⟨by rw [hbad oM], rfl, hle1.trans hle2⟩
     ·refine SC.skip (ST.thenN (SC.seq (SC.region (SL.M rfl (SL.M rfl (SL.M rfl (SL.U (SU.indexAddr underlying25 sizeOf51 rfl rfl hb1 oM sL) (SL.K (SQ.elemA (e := encCell) isAgg51 sizeOf51 rfl hrs2.rd hgx) (SL.W (SO.call call131 rfl (first_spec E g2 _ _ (tabC l) x rx hO hft.1 hts hcr hxl)) ?_)))))))))
      rintro _ _ _ ⟨rfl, rfl, rfl⟩
      refine SL.A rfl (SL.nil (ST.thenN (SC.seq (SC.region (SL.M rfl (SL.U (SU.neq rfl rfl) (SL.nil (ST.thenN ?_))))))))
      have hg := hgo oM
      refine SC.ifP rfl (fun he => ?_) (fun he => ?_)
      ·rw [if_pos he] at hg
       refine SC.seq (SC.region (SL.M rfl (SL.M rfl (SL.U (SU.indexAddr underlying25 sizeOf51 rfl rfl hb1 oM sL) (SL.U (SU.fieldAddrC underlying51 rfl sizeOf3 rfl hb1) (SL.K (SQ.partA (e := encCell) (o := 0) (u := vi x.id) isAgg3 rfl hrs2.rd hgx (by rw [← hx1]; rfl)) ?_))))))
       refine SL.M rfl (SL.A rfl (SL.A rfl (SL.nil (ST.thenN (SC.ret (ST.blockR (ST.thenR (ST.thenR (ST.blockR (ST.thenR (ST.drop (s' := s) (.cons _ (.refl _)) ?_)))))))))))
       exact ST.ret2 (.inl rfl) results96 rfl rfl ⟨by rw [hchk, hg]; rfl, rfl, hle1.trans hle2⟩
      ·rw [if_neg he] at hg
       refine SC.skip (ST.blockN (ST.thenN (SC.region (SL.M rfl (SL.U (SU.add rfl rfl oM) (SL.A rfl (SL.nil ?_)))))))
       exact ST.again (i + 1) ⟨rfl, rfl, rfl, rfl, trivial⟩ rfl rfl ⟨oM, hg, fun _ => by rw [hls]; omega⟩ oM
    ·have hi00 : i = 0 := oM
     have hg := hgo (by rw [hi00]; show (0 : Int) < x.id; omega)
     refine SC.skip (ST.thenN (SC.seq (SC.block (SC.seq (SC.seq ?_)))))
     refine SC.draw [] [(0, 2), (1, 2), (2, 2), (3, 2), (4, 1), (5, 2), (6, 2), (7, 2), (8, 2), (9, 2), (10, 2), (11, 2), (12, 2), (13, 2), (14, 1), (15, 2), (16, 2), (17, 2), (18, 2), (19, 2), (20, 1), (21, 2), (22, 2), (23, 2)] Tryz.mixed (by kernel_rfl) ?_
     refine SP.U (i := 0) rfl (SU.move rfl) (SP.U (i := 1) rfl (SU.move rfl) (SP.U (i := 2) rfl (SU.indexAddr underlying25 sizeOf51 rfl rfl hb1 oM sL) (SP.U (i := 3) rfl (SU.fieldAddrC underlying51 rfl sizeOf3 rfl hb1) (SP.K (i := 4) rfl (SQ.partA (e := encCell) (o := 0) (u := vi x.id) isAgg3 rfl hrs2.rd hgx (by rw [← hx1]; rfl)) ?_))))
     refine SP.U (i := 5) rfl (SU.eq (v' := vb false) (SU.lss rfl rfl) (congrArg vb (decide_eq_false hx0))) (SP.U (i := 6) rfl (SU.move rfl) (SP.gu (i := 7) rfl (Gd.onT rfl rfl rfl dC) (SU.move rfl) dC (SP.gu (i := 8) rfl (Gd.onT rfl rfl rfl dC) (SU.eq (v' := vb false) (SU.gtr rfl rfl) (congrArg vb (decide_eq_false hi0))) dC (SP.gu (i := 9) rfl (Gd.onT rfl rfl rfl dC) (SU.move rfl) dC (SP.off (i := 10) rfl (Gd.onF rfl rfl rfl dC) dC (SP.off (i := 11) rfl (Gd.onF rfl rfl rfl dC) dC (SP.off (i := 12) rfl (Gd.onF rfl rfl rfl dC) dC (SP.off (i := 13) rfl (Gd.onF rfl rfl rfl dC) dC (SP.off1 (i := 14) rfl (Gd.onF rfl rfl rfl dC) dC (SP.off (i := 15) rfl (Gd.onF rfl rfl rfl dC) dC (SP.off (i := 16) rfl (Gd.onF rfl rfl rfl dC) dC (SP.off (i := 17) rfl (Gd.onF rfl rfl rfl dC) dC (SP.off (i := 18) rfl (Gd.onF rfl rfl rfl dC) dC (SP.off (i := 19) rfl (Gd.onF rfl rfl rfl dC) dC (SP.off1 (i := 20) rfl (Gd.onF rfl rfl rfl dC) dC (SP.off (i := 21) rfl (Gd.onF rfl rfl rfl dC) dC (SP.gu (i := 22) rfl (Gd.onT rfl rfl rfl dC) (SU.pickF rfl rfl) dC (SP.U (i := 23) rfl (SU.pickF rfl rfl) (SP.nil (ST.thenN (SC.condF rfl (SC.skip (ST.thenN (SC.seq (SC.region (SL.M rfl (SL.M rfl (SL.M rfl (SL.U (SU.indexAddr underlying25 sizeOf51 rfl rfl hb1 oM sL) ?_)))))))))))))))))))))))))))))
     refine SL.K (SQ.elemA (e := encCell) isAgg51 sizeOf51 rfl hrs2.rd hgx) (SL.W (SO.call call131 rfl (first_spec E g2 _ _ (tabC l) x rx hO hft.1 hts hcr hxl)) ?_)
     rintro _ _ _ ⟨rfl, rfl, rfl⟩
     refine SL.A rfl (SL.nil (ST.thenN (SC.seq (SC.region (SL.M rfl (SL.U (SU.neq rfl rfl) (SL.nil (ST.thenN ?_))))))))
     refine SC.ifP rfl (fun he => ?_) (fun he => ?_)
     ·rw [if_pos he] at hg
      refine SC.seq (SC.region (SL.M rfl (SL.M rfl (SL.U (SU.indexAddr underlying25 sizeOf51 rfl rfl hb1 oM sL) (SL.U (SU.fieldAddrC underlying51 rfl sizeOf3 rfl hb1) (SL.K (SQ.partA (e := encCell) (o := 0) (u := vi x.id) isAgg3 rfl hrs2.rd hgx (by rw [← hx1]; rfl)) ?_))))))
      refine SL.M rfl (SL.A rfl (SL.A rfl (SL.nil (ST.thenN (SC.ret (ST.blockR (ST.thenR (ST.thenR (ST.blockR (ST.thenR (ST.drop (s' := s) (.cons _ (.refl _)) ?_)))))))))))
      exact ST.ret2 (.inl rfl) results96 rfl rfl ⟨by rw [hchk, hg]; rfl, rfl, hle1.trans hle2⟩
     ·rw [if_neg he] at hg
      refine SC.skip (ST.blockN (ST.thenN (SC.region (SL.M rfl (SL.U (SU.add rfl rfl oM) (SL.A rfl (SL.nil ?_)))))))
      exact ST.again (i + 1) ⟨rfl, rfl, rfl, rfl, trivial⟩ rfl rfl ⟨oM, hg, fun _ => by rw [hls]; omega⟩ oM
  ·have hid : (canonC l).drop i = [] := List.drop_eq_nil_of_le oM
   rw [hid] at hc1
   have hnone : chk1 (tabC l) (canonC l) 0 = none := hc1
   have hst := (chk1_strict hnone).2
   have htab := tabC_strict hst
   have hform := chk1_none hnone
   rw [hnone] at hchk
   have hchk2 : refCheckC l = (chkR2 (canonC l) (canonC l)).getD (0, 0) := hchk
   refine SC.exit (ST.thenX (ST.thenX (ST.blockX (ST.thenN (SC.seq (SC.seq (SC.region (SL.A rfl (SL.nil (ST.thenN (SC.block ?_)))))))))))
   refine SC.loop (ι := Nat) (fun i => [(1, pp b1 0), (4, .slice q rs.length d), (8, vi i)]) (fun _ => g2) (fun _ => pt b1 (.cells #[.slice p l.length c] 27 (0, 0)) :: s)
    (fun i => i ≤ rs.length ∧ chkR2 (canonC l) (canonC l) = chkR2 (canonC l) ((canonC l).drop i)) (fun i => rs.length - i) 0
    ⟨rfl, rfl, rfl, trivial⟩ rfl rfl ⟨Nat.zero_le _, rfl⟩ ?_
   rintro j ⟨hj, hc2⟩
   refine SC.seq (SC.seq (SC.region (SL.M rfl (SL.M rfl (SL.U (SU.lenN underlying25 rfl) (SL.U (SU.lss rfl rfl) (SL.nil (ST.thenN ?_))))))))
   refine SC.ifP rfl (fun hlt2 => ?_) (fun hlt2 => ?_)
   ·have hjl : j < (canonC l).length := oM
    have hjr : j < rs.length := oM
    have hb1 := hrs2.based oM
    have hcr := hall2.get (List.getElem?_eq_getElem hjl) (List.getElem?_eq_getElem hjr)
    have hgx : rs[((j : Nat) : Int).toNat]? = some rs[j] := List.getElem?_eq_getElem hjr
    have hdrop : (canonC l).drop j = (canonC l)[j] :: (canonC l).drop (j + 1) := List.drop_eq_getElem_cons hjl
    have hxm : (canonC l)[j] ∈ canonC l := List.getElem_mem hjl
    rw [hdrop] at hc2
    generalize (canonC l)[j] = x at *
    generalize rs[j] = rx at *
    obtain ⟨hx1, hx2, hx3⟩ := hcr
    have hcr : CellR g2 x rx := ⟨hx1, hx2, hx3⟩
    have haok := aok_of hform hxm
    have hfound := form_found (hform x hxm)
    rw [htab] at haok hfound
    refine SC.skip (ST.thenN (SC.seq (SC.block (SC.seq (SC.seq (SC.region (SL.M rfl (SL.M rfl (SL.U (SU.indexAddr underlying25 sizeOf51 rfl rfl hb1 oM sL) (SL.U (SU.fieldAddrC underlying51 rfl sizeOf3 rfl hb1) (SL.K (SQ.partA (e := encCell) (o := 1) (u := vi x.dim) isAgg3 rfl hrs2.rd hgx (by rw [← hx2]; rfl)) ?_)))))))))))
    refine SL.U (SU.lss rfl rfl) (SL.nil (ST.thenN ?_))
    refine SC.ifP rfl (fun hdm => ?_) (fun hdm => ?_)
    ·refine SC.exit (ST.thenX (ST.blockX (ST.thenN (SC.region (SL.M rfl (SL.U (SU.add rfl rfl oM) (SL.A rfl (SL.nil ?_))))))))
     exact ST.again (j + 1) ⟨rfl, rfl, rfl, trivial⟩ rfl rfl ⟨oM, by rw [hc2, chkR2, if_neg (fun h => by omega)]⟩ oM
    ·refine SC.skip (ST.thenN (SC.seq (SC.region (SL.M rfl (SL.M rfl (SL.M rfl (SL.U (SU.indexAddr underlying25 sizeOf51 rfl rfl hb1 oM sL) (SL.K (SQ.elemA (e := encCell) isAgg51 sizeOf51 rfl hrs2.rd hgx) (SL.W (SO.call call132 rfl (second_spec E g2 _ _ (canonC l) x rx hLc hfc.1 hcs hcr haok.1 hfound (fun y hy => (haok.2.2 y hy).1))) ?_)))))))))
     rintro _ _ _ ⟨rfl, rfl, rfl⟩
     refine SL.A rfl (SL.nil (ST.thenN (SC.seq (SC.region (SL.M rfl (SL.U (SU.neq rfl rfl) (SL.nil (ST.thenN ?_))))))))
     refine SC.ifP rfl (fun he => ?_) (fun he => ?_)
     ·refine SC.seq (SC.region (SL.M rfl (SL.M rfl (SL.U (SU.indexAddr underlying25 sizeOf51 rfl rfl hb1 oM sL) (SL.U (SU.fieldAddrC underlying51 rfl sizeOf3 rfl hb1) (SL.K (SQ.partA (e := encCell) (o := 0) (u := vi x.id) isAgg3 rfl hrs2.rd hgx (by rw [← hx1]; rfl)) ?_))))))
      refine SL.M rfl (SL.A rfl (SL.A rfl (SL.nil (ST.thenN (SC.ret (ST.blockR (ST.thenR (ST.thenR (ST.blockR (ST.thenR (ST.drop (s' := s) (.cons _ (.refl _)) ?_)))))))))))
      exact ST.ret2 (.inl rfl) results96 rfl rfl ⟨by rw [hchk2, hc2, chkR2, if_pos ⟨oM, he⟩]; rfl, rfl, hle1.trans hle2⟩
     ·refine SC.skip (ST.blockN (ST.thenN (SC.region (SL.M rfl (SL.U (SU.add rfl rfl oM) (SL.A rfl (SL.nil ?_)))))))
      exact ST.again (j + 1) ⟨rfl, rfl, rfl, trivial⟩ rfl rfl ⟨oM, by rw [hc2, chkR2, if_neg (fun h => he h.2)]⟩ oM
   ·have hjd : (canonC l).drop j = [] := List.drop_eq_nil_of_le oM
    rw [hjd] at hc2
    refine SC.exit (ST.thenX (ST.thenX (ST.blockX (ST.thenN (SC.seq (SC.region (SL.A rfl (SL.A rfl (SL.nil (ST.thenN (SC.ret (ST.drop (s' := s) (.cons _ (.refl _)) ?_))))))))))))
    exact ST.ret2 (.inl rfl) results96 rfl rfl ⟨by rw [hchk2, hc2]; rfl, rfl, hle1.trans hle2⟩
theorem refRight_spec (E : World) (g : PH) (s : Own) (v : Value) (l : List Cl) (hv : Cells g v l) (hf : Fits l) :
  Ctr Tryz.prog E 60 #[.agg #[v]] g s (fun r g' s' => r = vb (decide ((refCheckC l).2 = 0)) ∧ s = s' ∧ Le g g') := by
 refine Ctr.of (args := [.agg #[v]]) func60 rfl ntmps60 (Nat.le_of_ble_eq_true rfl) ?_
 refine SC.seq (SC.region (SL.W (SO.box rfl) ?_))
 rintro _ _ _ ⟨b1, rfl, rfl, rfl⟩
 refine SL.A rfl (SL.nil (ST.thenN (SC.seq (SC.region (SL.K (SQ.loadVarK 0 isAgg27 sizeOf27 rfl rfl rfl) (SL.W (SO.call call96 rfl (refCheck_spec E g _ _ l hv hf)) ?_))))))
 rintro _ g1 _ ⟨rfl, rfl, hle⟩
 refine SL.M rfl (SL.U (SU.extract rfl rfl) (SL.U (SU.extract rfl rfl) (SL.A rfl (SL.A rfl (SL.nil (ST.thenN (SC.seq (SC.region (SL.M rfl (SL.U (SU.eql rfl rfl) (SL.A rfl (SL.nil (ST.thenN (SC.ret (ST.drop (s' := s) (.cons _ (.refl _)) ?_)))))))))))))))
 exact ST.ret1 (.inl rfl) results60 rfl ⟨rfl, rfl, hle⟩
end Go.Proofs.YtkdibcicncjpdaaGreat
