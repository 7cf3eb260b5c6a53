/- Form Aro1 Vis Dfs Aro Chk -/
import Derived.Test.YtkdibcicncjpdaaGreatOw05
set_option linter.unusedSimpArgs false
set_option linter.unusedVariables false
namespace Go.Proofs.YtkdibcicncjpdaaGreat
open _root_.Go.Proofs.Tryz _root_.Go.Proofs.YtkdibcicncjpdaaGreat.Tryz
open Go Go.Sy Go.Pl Go.Proofs
set_option maxRecDepth 100000
def dimBad (c : Cl) : Bool := decide (c.dim < 0) || decide (c.dim > 8)
def cntBad (c : Cl) : Bool := (decide (c.dim = 0) && decide ((c.sides.length : Int) > 0)) || (decide (c.dim = 1) && decide ((c.sides.length : Int) ≠ 2)) || (decide (c.dim > 1) && (decide ((c.sides.length : Int) < 2) || decide ((c.sides.length : Int) > 64)))
def badSide (tl : List Cl) (c : Cl) (i : Nat) (x : Side) : Bool := !(findT tl x.cell).isSome || decide (((findT tl x.cell).getD zeroC).dim ≠ c.dim - 1) || (decide (i > 0) && decide ((c.sides[i - 1]?.map Side.cell) = some x.cell))
section
variable {tl : List Cl} {c p : Cl} {i : Nat} {x : Side}
theorem badSide_a (h : ¬ (findT tl x.cell).isSome = true) : badSide tl c i x = true := by
 have : (findT tl x.cell).isSome = false := by simpa using h
 simp [badSide, this]
theorem badSide_b (h : (findT tl x.cell).isSome = true) (h2 : ((findT tl x.cell).getD zeroC).dim ≠ c.dim - 1) : badSide tl c i x = true := by
 simp only [badSide, h, h2, Bool.not_true, Bool.false_or, ne_eq, not_false_eq_true, decide_true, Bool.true_or]
theorem badSide_c (h : (findT tl x.cell).isSome = true) (h2 : ¬ ((findT tl x.cell).getD zeroC).dim ≠ c.dim - 1) (h3 : ¬ (i : Int) > 0) : badSide tl c i x = false := by
 have h4 : ¬ i > 0 := oM
 simp only [badSide, h, h2, h4, Bool.not_true, Bool.false_or, decide_false, Bool.false_and]
theorem badSide_d {q : Side} (h : (findT tl x.cell).isSome = true) (h2 : ¬ ((findT tl x.cell).getD zeroC).dim ≠ c.dim - 1) (h3 : (i : Int) > 0) (hq : c.sides[i - 1]? = some q) : badSide tl c i x = decide (q.cell = x.cell) := by
 have h4 : i > 0 := oM
 simp only [badSide, h, h2, h4, hq, Bool.not_true, Bool.false_or, decide_false, decide_true, Bool.true_and, Option.map_some, Option.some.injEq]
end
def badAt (tl : List Cl) (c : Cl) (i : Nat) : Bool := match c.sides[i]? with
 | some x => badSide tl c i x
 | none => false
def signBad (x : Side) : Bool := decide (x.sign ≠ 1) && decide (x.sign ≠ -1)
theorem signBad_a {x : Side} (h : x.sign ≠ 1) : signBad x = decide (x.sign ≠ -1) := by simp [signBad, h]
theorem signBad_b {x : Side} (h : ¬ x.sign ≠ 1) : signBad x = false := by simp [signBad, h]
def sumS (l : List Side) : Int := (l.map Side.sign).sum
def formC (tl : List Cl) (c : Cl) : Int :=
 if dimBad c then 21 else if cntBad c then 22 else if (List.range c.sides.length).any (badAt tl c) then 22 else if c.sides.any signBad then 23 else if (decide (c.dim = 1) && decide (sumS c.sides ≠ 0)) then 23 else 0
theorem sumS_bound {l : List Side} (h : l.any signBad = false) : sumS l ≤ l.length ∧ -(l.length : Int) ≤ sumS l := by
 induction l with
 | nil => simp [sumS]
 | cons x t ih =>
  simp only [List.any_cons, Bool.or_eq_false_iff] at h
  have := ih h.2
  have hx : x.sign = 1 ∨ x.sign = -1 := by
   have h1 := h.1
   simp only [signBad, Bool.and_eq_false_iff, decide_eq_false_iff_not, ne_eq, Decidable.not_not] at h1
   exact h1
  simp only [sumS, List.map_cons, List.sum_cons, List.length_cons] at this ⊢
  omega
theorem form_spec (E : World) (g : PH) (s : Own) (v : Value) (tl : List Cl) (c : Cl) (r : Rc) (hv : Tab g v tl) (hc : CellR g c r) (hl : c.sides.length < 1099511627776) :
  Ctr Tryz.prog E 51 #[v, rcv r] g s (fun r g' s' => r = vi (formC tl c) ∧ g = g' ∧ s = s') := by
 obtain ⟨b, mt, iv, rs, rfl, hb, hm, hI, hall⟩ := hv
 obtain ⟨ri, rd, rp, rn, rcap⟩ := r
 have hcs : SlA encSide g (.slice rp rn rcap) c.sides := hc.2.2
 have hrn : rn = c.sides.length := Sl.slen hcs
 have hrd : rd = c.dim := hc.2.1
 subst hrn hrd
 have hx0 := fun h => hcs.based h
 refine Ctr.of (args := [pp b 0, rcv ⟨ri, c.dim, rp, c.sides.length, rcap⟩]) func51 rfl ntmps51 (Nat.le_of_ble_eq_true rfl) ?_
 refine SC.seq (SC.region (SL.W (SO.box rfl) ?_))
 rintro _ _ _ ⟨b3, rfl, rfl, rfl⟩
 refine SL.A rfl (SL.nil (ST.thenN (SC.seq (SC.region (SL.U (SU.fieldAddr underlying51 rfl sizeOf49 rfl) (SL.K (SQ.load isAgg49 rfl (CellAt.own 0 rfl rfl)) (SL.U (SU.lenN underlying49 rfl) (SL.A rfl (SL.nil (ST.thenN (SC.seq (SC.block ?_))))))))))))
 refine SC.cutB 16 (dimBad c) ?_ ?_
 ·refine SC.region (SL.U (SU.fieldAddr underlying51 rfl sizeOf3 rfl) (SL.K (SQ.load isAgg3 rfl (CellAt.own 0 rfl rfl)) (SL.U (SU.lss rfl rfl) (SL.M rfl ?_))))
  refine SL.split ?_ ?_
  ·intro h20
   refine SL.Z rfl rfl rfl (SL.Z rfl rfl rfl (SL.Z rfl rfl rfl (SL.U (SU.pickT rfl rfl) (SL.A rfl (SL.nil ?_)))))
   exact ST.mid1 (by simp_all [get?, dimBad] <;> omega) mI
  ·intro h20
   refine SL.Y rfl rfl rfl (SU.fieldAddr underlying51 rfl sizeOf3 rfl) (SL.gq (Gd.onT rfl rfl rfl dC) (SQ.load isAgg3 rfl (CellAt.own 0 rfl rfl)) dC (SL.Y rfl rfl rfl (SU.gtr rfl rfl) (SL.U (SU.pickF rfl rfl) (SL.A rfl (SL.nil ?_)))))
   exact ST.mid1 (by simp_all [get?, dimBad] <;> omega) mI
 refine SC.ifB rfl (fun hdb => ?_) (fun hdb => ?_)
 ·refine SC.seq (SC.region (SL.A rfl (SL.nil (ST.thenN (SC.ret (ST.blockR (ST.thenR (ST.drop (s' := s) (.cons _ (.refl _)) ?_))))))))
  exact ST.ret1 (.inl rfl) results51 rfl ⟨by unfold formC; rw [if_pos hdb], rfl, rfl⟩
 ·have hd8 : 0 ≤ c.dim ∧ c.dim ≤ 8 := by simp [dimBad] at hdb; omega
  refine SC.cutB 25 (cntBad c) ?_ ?_
  ·refine SC.region (SL.U (SU.fieldAddr underlying51 rfl sizeOf3 rfl) (SL.K (SQ.load isAgg3 rfl (CellAt.own 0 rfl rfl)) (SL.U (SU.eql rfl rfl) (SL.M rfl ?_))))
   refine SL.split ?_ ?_
   ·intro h29
    refine SL.Y rfl rfl rfl (SU.move rfl) (SL.Y rfl rfl rfl (SU.gtr rfl rfl) (SL.U (SU.pickT rfl rfl) (SL.M rfl ?_)))
    refine SL.split ?_ ?_
    ·intro h33
     refine SL.Z rfl rfl rfl (SL.Z rfl rfl rfl (SL.Z rfl rfl rfl (SL.Z rfl rfl rfl (SL.off (Gd.off rfl rfl rfl dC) dC (SL.off (Gd.off rfl rfl rfl dC) dC (SL.Z rfl rfl rfl (SL.U (SU.pickT rfl rfl) (SL.M rfl (SL.Z rfl rfl rfl (SL.Z rfl rfl rfl (SL.Z rfl rfl rfl (SL.Z rfl rfl rfl (SL.off (Gd.off rfl rfl rfl dC) dC (SL.off (Gd.off rfl rfl rfl dC) dC (SL.off (Gd.off rfl rfl rfl dC) dC (SL.off (Gd.off rfl rfl rfl dC) dC (SL.off (Gd.off rfl rfl rfl dC) dC (SL.off (Gd.off rfl rfl rfl dC) dC (SL.Z rfl rfl rfl (SL.U (SU.pickT rfl rfl) (SL.A rfl (SL.nil ?_))))))))))))))))))))))
     exact ST.mid1 (by simp_all [get?, cntBad] <;> omega) mI
    ·intro h33
     refine SL.Y rfl rfl rfl (SU.fieldAddr underlying51 rfl sizeOf3 rfl) (SL.gq (Gd.onT rfl rfl rfl dC) (SQ.load isAgg3 rfl (CellAt.own 0 rfl rfl)) dC (SL.Y rfl rfl rfl (SU.eql rfl rfl) (SL.Y rfl rfl rfl (SU.move rfl) ?_)))
     refine SL.split ?_ ?_
     ·intro h37
      refine SL.Y rfl rfl rfl (SU.move rfl) (SL.Y rfl rfl rfl (SU.neq rfl rfl) (SL.Y rfl rfl rfl (SU.pickT rfl rfl) (SL.U (SU.pickF rfl rfl) (SL.M rfl ?_))))
      refine SL.split ?_ ?_
      ·intro h42
       refine SL.Z rfl rfl rfl (SL.Z rfl rfl rfl (SL.Z rfl rfl rfl (SL.Z rfl rfl rfl (SL.off (Gd.off rfl rfl rfl dC) dC (SL.off (Gd.off rfl rfl rfl dC) dC (SL.off (Gd.off rfl rfl rfl dC) dC (SL.off (Gd.off rfl rfl rfl dC) dC (SL.off (Gd.off rfl rfl rfl dC) dC (SL.off (Gd.off rfl rfl rfl dC) dC (SL.Z rfl rfl rfl (SL.U (SU.pickT rfl rfl) (SL.A rfl (SL.nil ?_)))))))))))))
       exact ST.mid1 (by simp_all [get?, cntBad] <;> omega) mI
      ·intro h42
       refine SL.Y rfl rfl rfl (SU.fieldAddr underlying51 rfl sizeOf3 rfl) (SL.gq (Gd.onT rfl rfl rfl dC) (SQ.load isAgg3 rfl (CellAt.own 0 rfl rfl)) dC (SL.Y rfl rfl rfl (SU.gtr rfl rfl) (SL.Y rfl rfl rfl (SU.move rfl) ?_)))
       refine SL.split ?_ ?_
       ·intro h46
        refine SL.Y rfl rfl rfl (SU.move rfl) (SL.Y rfl rfl rfl (SU.lss rfl rfl) (SL.Y rfl rfl rfl (SU.move rfl) ?_))
        refine SL.split ?_ ?_
        ·intro h49
         refine SL.Z rfl rfl rfl (SL.Z rfl rfl rfl (SL.Y rfl rfl rfl (SU.pickT rfl rfl) (SL.Y rfl rfl rfl (SU.pickT rfl rfl) (SL.U (SU.pickF rfl rfl) (SL.A rfl (SL.nil ?_))))))
         exact ST.mid1 (by simp_all [get?, cntBad] <;> omega) mI
        ·intro h49
         refine SL.Y rfl rfl rfl (SU.move rfl) (SL.Y rfl rfl rfl (SU.gtr rfl rfl) (SL.Y rfl rfl rfl (SU.pickF rfl rfl) (SL.Y rfl rfl rfl (SU.pickT rfl rfl) (SL.U (SU.pickF rfl rfl) (SL.A rfl (SL.nil ?_))))))
         exact ST.mid1 (by simp_all [get?, cntBad] <;> omega) mI
       ·intro h46
        refine SL.Z rfl rfl rfl (SL.Z rfl rfl rfl (SL.Z rfl rfl rfl (SL.off (Gd.off rfl rfl rfl dC) dC (SL.off (Gd.off rfl rfl rfl dC) dC (SL.Z rfl rfl rfl (SL.Y rfl rfl rfl (SU.pickF rfl rfl) (SL.U (SU.pickF rfl rfl) (SL.A rfl (SL.nil ?_)))))))))
        exact ST.mid1 (by simp_all [get?, cntBad] <;> omega) mI
     ·intro h37
      refine SL.Z rfl rfl rfl (SL.Z rfl rfl rfl (SL.Y rfl rfl rfl (SU.pickF rfl rfl) (SL.U (SU.pickF rfl rfl) (SL.M rfl (SL.Y rfl rfl rfl (SU.fieldAddr underlying51 rfl sizeOf3 rfl) (SL.gq (Gd.onT rfl rfl rfl dC) (SQ.load isAgg3 rfl (CellAt.own 0 rfl rfl)) dC (SL.Y rfl rfl rfl (SU.gtr rfl rfl) (SL.Y rfl rfl rfl (SU.move rfl) ?_))))))))
      refine SL.split ?_ ?_
      ·intro h46
       refine SL.Y rfl rfl rfl (SU.move rfl) (SL.Y rfl rfl rfl (SU.lss rfl rfl) (SL.Y rfl rfl rfl (SU.move rfl) ?_))
       refine SL.split ?_ ?_
       ·intro h49
        refine SL.Z rfl rfl rfl (SL.Z rfl rfl rfl (SL.Y rfl rfl rfl (SU.pickT rfl rfl) (SL.Y rfl rfl rfl (SU.pickT rfl rfl) (SL.U (SU.pickF rfl rfl) (SL.A rfl (SL.nil ?_))))))
        exact ST.mid1 (by simp_all [get?, cntBad] <;> omega) mI
       ·intro h49
        refine SL.Y rfl rfl rfl (SU.move rfl) (SL.Y rfl rfl rfl (SU.gtr rfl rfl) (SL.Y rfl rfl rfl (SU.pickF rfl rfl) (SL.Y rfl rfl rfl (SU.pickT rfl rfl) (SL.U (SU.pickF rfl rfl) (SL.A rfl (SL.nil ?_))))))
        exact ST.mid1 (by simp_all [get?, cntBad] <;> omega) mI
      ·intro h46
       refine SL.Z rfl rfl rfl (SL.Z rfl rfl rfl (SL.Z rfl rfl rfl (SL.off (Gd.off rfl rfl rfl dC) dC (SL.off (Gd.off rfl rfl rfl dC) dC (SL.Z rfl rfl rfl (SL.Y rfl rfl rfl (SU.pickF rfl rfl) (SL.U (SU.pickF rfl rfl) (SL.A rfl (SL.nil ?_)))))))))
       exact ST.mid1 (by simp_all [get?, cntBad] <;> omega) mI
   ·intro h29
    refine SL.Z rfl rfl rfl (SL.Z rfl rfl rfl (SL.U (SU.pickF rfl rfl) (SL.M rfl (SL.Y rfl rfl rfl (SU.fieldAddr underlying51 rfl sizeOf3 rfl) (SL.gq (Gd.onT rfl rfl rfl dC) (SQ.load isAgg3 rfl (CellAt.own 0 rfl rfl)) dC (SL.Y rfl rfl rfl (SU.eql rfl rfl) (SL.Y rfl rfl rfl (SU.move rfl) ?_)))))))
    refine SL.split ?_ ?_
    ·intro h37
     refine SL.Y rfl rfl rfl (SU.move rfl) (SL.Y rfl rfl rfl (SU.neq rfl rfl) (SL.Y rfl rfl rfl (SU.pickT rfl rfl) (SL.U (SU.pickF rfl rfl) (SL.M rfl ?_))))
     refine SL.split ?_ ?_
     ·intro h42
      refine SL.Z rfl rfl rfl (SL.Z rfl rfl rfl (SL.Z rfl rfl rfl (SL.Z rfl rfl rfl (SL.off (Gd.off rfl rfl rfl dC) dC (SL.off (Gd.off rfl rfl rfl dC) dC (SL.off (Gd.off rfl rfl rfl dC) dC (SL.off (Gd.off rfl rfl rfl dC) dC (SL.off (Gd.off rfl rfl rfl dC) dC (SL.off (Gd.off rfl rfl rfl dC) dC (SL.Z rfl rfl rfl (SL.U (SU.pickT rfl rfl) (SL.A rfl (SL.nil ?_)))))))))))))
      exact ST.mid1 (by simp_all [get?, cntBad] <;> omega) mI
     ·intro h42
      refine SL.Y rfl rfl rfl (SU.fieldAddr underlying51 rfl sizeOf3 rfl) (SL.gq (Gd.onT rfl rfl rfl dC) (SQ.load isAgg3 rfl (CellAt.own 0 rfl rfl)) dC (SL.Y rfl rfl rfl (SU.gtr rfl rfl) (SL.Y rfl rfl rfl (SU.move rfl) ?_)))
      refine SL.split ?_ ?_
      ·intro h46
       refine SL.Y rfl rfl rfl (SU.move rfl) (SL.Y rfl rfl rfl (SU.lss rfl rfl) (SL.Y rfl rfl rfl (SU.move rfl) ?_))
       refine SL.split ?_ ?_
       ·intro h49
        refine SL.Z rfl rfl rfl (SL.Z rfl rfl rfl (SL.Y rfl rfl rfl (SU.pickT rfl rfl) (SL.Y rfl rfl rfl (SU.pickT rfl rfl) (SL.U (SU.pickF rfl rfl) (SL.A rfl (SL.nil ?_))))))
        exact ST.mid1 (by simp_all [get?, cntBad] <;> omega) mI
       ·intro h49
        refine SL.Y rfl rfl rfl (SU.move rfl) (SL.Y rfl rfl rfl (SU.gtr rfl rfl) (SL.Y rfl rfl rfl (SU.pickF rfl rfl) (SL.Y rfl rfl rfl (SU.pickT rfl rfl) (SL.U (SU.pickF rfl rfl) (SL.A rfl (SL.nil ?_))))))
        exact ST.mid1 (by simp_all [get?, cntBad] <;> omega) mI
      ·intro h46
       refine SL.Z rfl rfl rfl (SL.Z rfl rfl rfl (SL.Z rfl rfl rfl (SL.off (Gd.off rfl rfl rfl dC) dC (SL.off (Gd.off rfl rfl rfl dC) dC (SL.Z rfl rfl rfl (SL.Y rfl rfl rfl (SU.pickF rfl rfl) (SL.U (SU.pickF rfl rfl) (SL.A rfl (SL.nil ?_)))))))))
       exact ST.mid1 (by simp_all [get?, cntBad] <;> omega) mI
    ·intro h37
     refine SL.Z rfl rfl rfl (SL.Z rfl rfl rfl (SL.Y rfl rfl rfl (SU.pickF rfl rfl) (SL.U (SU.pickF rfl rfl) (SL.M rfl (SL.Y rfl rfl rfl (SU.fieldAddr underlying51 rfl sizeOf3 rfl) (SL.gq (Gd.onT rfl rfl rfl dC) (SQ.load isAgg3 rfl (CellAt.own 0 rfl rfl)) dC (SL.Y rfl rfl rfl (SU.gtr rfl rfl) (SL.Y rfl rfl rfl (SU.move rfl) ?_))))))))
     refine SL.split ?_ ?_
     ·intro h46
      refine SL.Y rfl rfl rfl (SU.move rfl) (SL.Y rfl rfl rfl (SU.lss rfl rfl) (SL.Y rfl rfl rfl (SU.move rfl) ?_))
      refine SL.split ?_ ?_
      ·intro h49
       refine SL.Z rfl rfl rfl (SL.Z rfl rfl rfl (SL.Y rfl rfl rfl (SU.pickT rfl rfl) (SL.Y rfl rfl rfl (SU.pickT rfl rfl) (SL.U (SU.pickF rfl rfl) (SL.A rfl (SL.nil ?_))))))
       exact ST.mid1 (by simp_all [get?, cntBad] <;> omega) mI
      ·intro h49
       refine SL.Y rfl rfl rfl (SU.move rfl) (SL.Y rfl rfl rfl (SU.gtr rfl rfl) (SL.Y rfl rfl rfl (SU.pickF rfl rfl) (SL.Y rfl rfl rfl (SU.pickT rfl rfl) (SL.U (SU.pickF rfl rfl) (SL.A rfl (SL.nil ?_))))))
       exact ST.mid1 (by simp_all [get?, cntBad] <;> omega) mI
     ·intro h46
      refine SL.Z rfl rfl rfl (SL.Z rfl rfl rfl (SL.Z rfl rfl rfl (SL.off (Gd.off rfl rfl rfl dC) dC (SL.off (Gd.off rfl rfl rfl dC) dC (SL.Z rfl rfl rfl (SL.Y rfl rfl rfl (SU.pickF rfl rfl) (SL.U (SU.pickF rfl rfl) (SL.A rfl (SL.nil ?_)))))))))
      exact ST.mid1 (by simp_all [get?, cntBad] <;> omega) mI
  refine SC.ifB rfl (fun hcb => ?_) (fun hcb => ?_)
  ·refine SC.seq (SC.region (SL.A rfl (SL.nil (ST.thenN (SC.ret (ST.blockR (ST.thenR (ST.drop (s' := s) (.cons _ (.refl _)) ?_))))))))
   exact ST.ret1 (.inl rfl) results51 rfl ⟨by unfold formC; rw [if_neg (by simp [hdb]), if_pos hcb], rfl, rfl⟩
  ·have hn64 : c.sides.length ≤ 64 := by
    simp [cntBad] at hcb
    rcases Int.lt_trichotomy c.dim 1 with h | h | h
    ·have : c.dim = 0 := oM
     have := hcb.1.1 this
     simp [this]
    ·have := hcb.1.2 h
     omega
    ·have := hcb.2 h
     omega
   refine SC.skip (ST.blockN (ST.thenN (SC.seq (SC.seq (SC.region (SL.U (SU.fieldAddr underlying51 rfl sizeOf49 rfl) (SL.K (SQ.load isAgg49 rfl (CellAt.own 0 rfl rfl)) (SL.U (SU.lenN underlying49 rfl) (SL.M rfl (SL.nil (ST.thenN (SC.block ?_))))))))))))
   refine SC.loop (ι := Nat) (fun k => [(0, pp b 0), (3, pp b3 0), (5, vi c.sides.length), (56, .slice rp c.sides.length rcap), (57, vi c.sides.length), (58, vi k)]) (fun _ => g)
    (fun _ => pt b3 (.cells #[vi ri, vi c.dim, .slice rp c.sides.length rcap] 51 (0, 0)) :: s) (fun k => k ≤ c.sides.length ∧ (List.range k).any (badAt tl c) = false) (fun k => c.sides.length - k) 0
    ⟨rfl, rfl, rfl, rfl, rfl, rfl, trivial⟩ rfl rfl ⟨Nat.zero_le _, by simp⟩ ?_
   rintro k ⟨hk, hno⟩
   try dsimp only
   refine SC.seq (SC.region (SL.U (SU.lss rfl rfl) (SL.nil (ST.thenN (SC.seq ?_)))))
   refine SC.ifP rfl (fun hlt => ?_) (fun hlt => ?_)
   ·have hkl : k < c.sides.length := oM
    have hb1 := hx0 oM
    have hjx : c.sides[((k : Nat) : Int).toNat]? = some c.sides[k] := List.getElem?_eq_getElem hkl
    have hjx' : c.sides[k]? = some c.sides[k] := List.getElem?_eq_getElem hkl
    generalize c.sides[k] = y at *
    obtain ⟨x, hx1, hx2, hx3⟩ := all2_look hall zeroCR y.cell
    obtain ⟨xi, xd, xp, xn, xc⟩ := x
    have hxd : xd = ((findT tl y.cell).getD zeroC).dim := hx3.2.1
    subst hxd
    have hprev : (k : Int) > 0 → c.sides[((k : Int) - 1).toNat]? = some (c.sides.getD (k - 1) y) := fun h => by
     have h1 : ((k : Int) - 1).toNat = k - 1 := oM
     have h2 : k - 1 < c.sides.length := oM
     rw [h1, List.getElem?_eq_getElem h2, List.getD_eq_getElem?_getD, List.getElem?_eq_getElem h2]
     rfl
    have hprev2 : (k : Int) > 0 → c.sides[k - 1]? = some (c.sides.getD (k - 1) y) := fun h => by
     have h2 : k - 1 < c.sides.length := oM
     rw [List.getElem?_eq_getElem h2, List.getD_eq_getElem?_getD, List.getElem?_eq_getElem h2]
     rfl
    refine SC.skip (ST.thenN (SC.seq (SC.block (SC.seq (SC.region (SL.M rfl (SL.U (SU.indexAddr underlying49 sizeOf55 rfl rfl hb1 oM sL) (SL.K (SQ.elemA isAgg55 sizeOf55 rfl hcs.rd hjx) (SL.W (SO.alloc zeroValue55) ?_)))))))))
    rintro _ _ _ ⟨b7, rfl, rfl, rfl⟩
    refine SL.A rfl (SL.on (SO.storeAllK 0 sizeOf55 rfl rfl rfl rfl rfl (by exact ⟨rfl, rfl, trivial⟩)) ?_)
    rintro _ _ _ ⟨rfl, rfl⟩
    refine SL.nil (ST.thenN (SC.seq ?_))
    refine SC.draw [11, 12] [(0, 2), (1, 2), (2, 2), (3, 1), (4, 2), (5, 1), (6, 1), (7, 2), (8, 2), (9, 2), (10, 0), (11, 0), (12, 0)] Tryz.mixed (by kernel_rfl) ?_
    refine SP.U (i := 0) rfl (SU.move rfl) (SP.U (i := 1) rfl (SU.nilCheck rfl) (SP.U (i := 2) rfl (SU.fieldAddr underlying88 rfl sizeOf86 rfl) (SP.K (i := 3) rfl (SQ.load isAgg86 rfl (CellAt.known hb rfl)) (SP.U (i := 4) rfl (SU.fieldAddr underlying55 rfl sizeOf3 rfl) (SP.K (i := 5) rfl (SQ.load isAgg3 rfl (CellAt.own 0 rfl rfl)) (SP.K (i := 6) rfl (SQ.eq (v' := .tuple #[rcv ⟨xi, ((findT tl y.cell).getD zeroC).dim, xp, xn, xc⟩, vb (decide ((findT tl y.cell).isSome = true))]) (SQ.lookupOk mty86 rfl rfl (MapAt.known hm)) (by rw [hx1, hx2, Bool.decide_eq_true]; rfl)) ?_))))))
    refine SP.U (i := 7) rfl (SU.move rfl) (SP.U (i := 8) rfl (SU.extract rfl rfl) (SP.U (i := 9) rfl (SU.extract rfl rfl) (SP.o (i := 10) rfl (SO.alloc zeroValue51) dC (.inr (by rintro _ _ _ ⟨b8, rfl, rfl, rfl⟩; exact ⟨by exact Le.refl _, (by exact .cons _ (.refl _))⟩)) ?_)))
    rintro _ _ _ ⟨b8, rfl, rfl, rfl⟩
    refine SP.on (i := 11) rfl (SO.storeAllK 0 sizeOf51 rfl rfl rfl rfl rfl (by exact ⟨rfl, rfl, rfl, trivial⟩)) (.inl dC) ?_
    rintro _ _ _ ⟨rfl, rfl⟩
    refine SP.ou (i := 12) rfl (SU.assign rfl) dC (.inl dC) (SP.nil (ST.thenN ?_))
    refine SC.cutB 98 (badSide tl c k y) ?_ ?_
    ·refine SC.draw [] [(0, 2), (1, 2), (2, 2), (3, 2), (4, 1), (5, 2), (6, 1), (7, 2), (8, 2), (9, 2), (10, 2), (11, 2), (12, 2), (13, 2), (14, 2), (15, 1), (16, 2), (17, 2), (18, 2), (19, 2), (20, 1), (21, 2), (22, 1), (23, 2), (24, 2), (25, 2)] Tryz.mixed (by kernel_rfl) ?_
     refine SP.U (i := 0) rfl (SU.move rfl) (SP.U (i := 1) rfl (SU.notP rfl) (SP.U (i := 2) rfl (SU.move rfl) ?_))
     refine SP.split ?_ ?_
     ·intro h75
      refine SP.off (i := 3) rfl (Gd.onF rfl rfl rfl dC) dC (SP.off1 (i := 4) rfl (Gd.onF rfl rfl rfl dC) dC (SP.off (i := 5) rfl (Gd.onF rfl rfl rfl dC) dC (SP.off1 (i := 6) rfl (Gd.onF rfl rfl rfl dC) dC (SP.off (i := 7) rfl (Gd.onF rfl rfl rfl dC) dC (SP.off (i := 8) rfl (Gd.onF rfl rfl rfl dC) dC (SP.U (i := 9) rfl (SU.pickT rfl rfl) (SP.U (i := 10) rfl (SU.move rfl) (SP.off (i := 11) rfl (Gd.onF rfl rfl rfl dC) dC (SP.off (i := 12) rfl (Gd.onF rfl rfl rfl dC) dC (SP.off (i := 13) rfl (Gd.onF rfl rfl rfl dC) dC (SP.off (i := 14) rfl (Gd.off rfl rfl rfl dC) dC (SP.off1 (i := 15) rfl (Gd.off rfl rfl rfl dC) dC (SP.off (i := 16) rfl (Gd.off rfl rfl rfl dC) dC (SP.off (i := 17) rfl (Gd.off rfl rfl rfl dC) dC (SP.off (i := 18) rfl (Gd.off rfl rfl rfl dC) dC (SP.off (i := 19) rfl (Gd.off rfl rfl rfl dC) dC (SP.off1 (i := 20) rfl (Gd.off rfl rfl rfl dC) dC (SP.off (i := 21) rfl (Gd.off rfl rfl rfl dC) dC (SP.off1 (i := 22) rfl (Gd.off rfl rfl rfl dC) dC (SP.off (i := 23) rfl (Gd.off rfl rfl rfl dC) dC (SP.off (i := 24) rfl (Gd.onF rfl rfl rfl dC) dC (SP.U (i := 25) rfl (SU.pickT rfl rfl) (SP.nil ?_)))))))))))))))))))))))
      exact ST.mid1 (by exact congrArg (fun b => some (Value.bool b)) (badSide_a h75).symm) mI
     ·intro h75
      refine SP.gu (i := 3) rfl (Gd.onT rfl rfl rfl dC) (SU.fieldAddr underlying51 rfl sizeOf3 rfl) dC (SP.gq (i := 4) rfl (Gd.onT rfl rfl rfl dC) (SQ.load isAgg3 rfl (CellAt.own 0 rfl rfl)) dC (SP.gu (i := 5) rfl (Gd.onT rfl rfl rfl dC) (SU.fieldAddr underlying51 rfl sizeOf3 rfl) dC (SP.gq (i := 6) rfl (Gd.onT rfl rfl rfl dC) (SQ.load isAgg3 rfl (CellAt.own 2 rfl rfl)) dC (SP.gu (i := 7) rfl (Gd.onT rfl rfl rfl dC) (SU.sub rfl rfl oM) dC (SP.gu (i := 8) rfl (Gd.onT rfl rfl rfl dC) (SU.neq rfl rfl) dC (SP.U (i := 9) rfl (SU.pickF rfl rfl) (SP.U (i := 10) rfl (SU.move rfl) ?_)))))))
      refine SP.split ?_ ?_
      ·intro h83
       refine SP.off (i := 11) rfl (Gd.onF rfl rfl rfl dC) dC (SP.off (i := 12) rfl (Gd.onF rfl rfl rfl dC) dC (SP.off (i := 13) rfl (Gd.onF rfl rfl rfl dC) dC (SP.off (i := 14) rfl (Gd.off rfl rfl rfl dC) dC (SP.off1 (i := 15) rfl (Gd.off rfl rfl rfl dC) dC (SP.off (i := 16) rfl (Gd.off rfl rfl rfl dC) dC (SP.off (i := 17) rfl (Gd.off rfl rfl rfl dC) dC (SP.off (i := 18) rfl (Gd.off rfl rfl rfl dC) dC (SP.off (i := 19) rfl (Gd.off rfl rfl rfl dC) dC (SP.off1 (i := 20) rfl (Gd.off rfl rfl rfl dC) dC (SP.off (i := 21) rfl (Gd.off rfl rfl rfl dC) dC (SP.off1 (i := 22) rfl (Gd.off rfl rfl rfl dC) dC (SP.off (i := 23) rfl (Gd.off rfl rfl rfl dC) dC (SP.off (i := 24) rfl (Gd.onF rfl rfl rfl dC) dC (SP.U (i := 25) rfl (SU.pickT rfl rfl) (SP.nil ?_)))))))))))))))
       exact ST.mid1 (by exact congrArg (fun b => some (Value.bool b)) (badSide_b (Decidable.of_not_not h75) h83).symm) mI
      ·intro h83
       refine SP.gu (i := 11) rfl (Gd.onT rfl rfl rfl dC) (SU.move rfl) dC (SP.gu (i := 12) rfl (Gd.onT rfl rfl rfl dC) (SU.gtr rfl rfl) dC (SP.gu (i := 13) rfl (Gd.onT rfl rfl rfl dC) (SU.move rfl) dC ?_))
       refine SP.split ?_ ?_
       ·intro h86
        refine SP.gu (i := 14) rfl (Gd.onT rfl rfl rfl dC) (SU.fieldAddr underlying51 rfl sizeOf49 rfl) dC (SP.gq (i := 15) rfl (Gd.onT rfl rfl rfl dC) (SQ.load isAgg49 rfl (CellAt.own 2 rfl rfl)) dC (SP.gu (i := 16) rfl (Gd.onT rfl rfl rfl dC) (SU.move rfl) dC (SP.gu (i := 17) rfl (Gd.onT rfl rfl rfl dC) (SU.sub rfl rfl oM) dC (SP.gu (i := 18) rfl (Gd.onT rfl rfl rfl dC) (SU.indexAddr underlying49 sizeOf55 rfl rfl (by assumption) oM (by (simp [slen]; omega))) dC ?_))))
        refine SP.gu (i := 19) rfl (Gd.onT rfl rfl rfl dC) (SU.fieldAddrC underlying55 rfl sizeOf3 rfl (by assumption)) dC ?_
        refine SP.gq (i := 20) rfl (Gd.onT rfl rfl rfl dC) (SQ.partA (o := 0) isAgg3 rfl hcs.rd (hprev h86) rfl) dC (SP.gu (i := 21) rfl (Gd.onT rfl rfl rfl dC) (SU.fieldAddr underlying55 rfl sizeOf3 rfl) dC (SP.gq (i := 22) rfl (Gd.onT rfl rfl rfl dC) (SQ.load isAgg3 rfl (CellAt.own 1 rfl rfl)) dC (SP.gu (i := 23) rfl (Gd.onT rfl rfl rfl dC) (SU.eql rfl rfl) dC (SP.gu (i := 24) rfl (Gd.onT rfl rfl rfl dC) (SU.pickT rfl rfl) dC (SP.U (i := 25) rfl (SU.pickF rfl rfl) (SP.nil ?_))))))
        exact ST.mid1 (by exact congrArg (fun b => some (Value.bool b)) (badSide_d (Decidable.of_not_not h75) h83 h86 (hprev2 h86)).symm) mI
       ·intro h86
        refine SP.off (i := 14) rfl (Gd.onF rfl rfl rfl dC) dC (SP.off1 (i := 15) rfl (Gd.onF rfl rfl rfl dC) dC (SP.off (i := 16) rfl (Gd.onF rfl rfl rfl dC) dC (SP.off (i := 17) rfl (Gd.onF rfl rfl rfl dC) dC (SP.off (i := 18) rfl (Gd.onF rfl rfl rfl dC) dC (SP.off (i := 19) rfl (Gd.onF rfl rfl rfl dC) dC (SP.off1 (i := 20) rfl (Gd.onF rfl rfl rfl dC) dC (SP.off (i := 21) rfl (Gd.onF rfl rfl rfl dC) dC (SP.off1 (i := 22) rfl (Gd.onF rfl rfl rfl dC) dC (SP.off (i := 23) rfl (Gd.onF rfl rfl rfl dC) dC (SP.gu (i := 24) rfl (Gd.onT rfl rfl rfl dC) (SU.pickF rfl rfl) dC (SP.U (i := 25) rfl (SU.pickF rfl rfl) (SP.nil ?_))))))))))))
        exact ST.mid1 (by exact congrArg (fun b => some (Value.bool b)) (badSide_c (Decidable.of_not_not h75) h83 h86).symm) mI
    have hbat : badAt tl c k = badSide tl c k y := by unfold badAt; rw [hjx']
    refine SC.ifB rfl (fun hbad => ?_) (fun hbad => ?_)
    ·refine SC.seq (SC.region (SL.A rfl (SL.nil (ST.thenN (SC.ret (ST.blockR (ST.thenR (ST.thenR (ST.blockR (ST.thenR (ST.drop (s' := s) (.cons _ (.cons _ (.cons _ (.refl _)))) ?_)))))))))))
     have hany : (List.range c.sides.length).any (badAt tl c) = true := List.any_eq_true.2 ⟨k, List.mem_range.2 hkl, by rw [hbat]; exact hbad⟩
     exact ST.ret1 (.inl rfl) results51 rfl ⟨by unfold formC; rw [if_neg (by simp [hdb]), if_neg (by simp [hcb]), if_pos hany], rfl, rfl⟩
    ·refine SC.skip (ST.blockN (ST.thenN (SC.region (SL.U (SU.add rfl rfl oM) (SL.M rfl (SL.nil (ST.drop (s' := pt b3 (.cells #[vi ri, vi c.dim, .slice rp c.sides.length rcap] 51 (0, 0)) :: s) (.cons _ (.cons _ (.refl _))) ?_)))))))
     exact ST.again (k + 1) ⟨rfl, rfl, rfl, rfl, rfl, rfl, trivial⟩ rfl rfl ⟨oM, by rw [List.range_succ, List.any_append, hno]; simp [hbat, hbad]⟩ oM
   ·refine SC.exit (ST.thenX (ST.thenX (ST.blockX (ST.thenN (SC.seq (SC.region (SL.A rfl (SL.nil (ST.thenN (SC.seq (SC.seq (SC.region (SL.U (SU.fieldAddr underlying51 rfl sizeOf49 rfl) (SL.K (SQ.load isAgg49 rfl (CellAt.own 0 rfl rfl)) (SL.U (SU.lenN underlying49 rfl) (SL.M rfl (SL.nil (ST.thenN (SC.block ?_)))))))))))))))))))
    have hkk : k = c.sides.length := oM
    subst hkk
    refine SC.loop (ι := Nat) (fun k => [(3, pp b3 0), (10, vi (sumS (c.sides.take k))), (101, .slice rp c.sides.length rcap), (102, vi c.sides.length), (103, vi k)]) (fun _ => g)
     (fun _ => pt b3 (.cells #[vi ri, vi c.dim, .slice rp c.sides.length rcap] 51 (0, 0)) :: s) (fun k => k ≤ c.sides.length ∧ (c.sides.take k).any signBad = false) (fun k => c.sides.length - k) 0
     ⟨rfl, rfl, rfl, rfl, rfl, trivial⟩ rfl rfl ⟨Nat.zero_le _, by simp⟩ ?_
    rintro k ⟨hk2, hns⟩
    try dsimp only
    have hsb := sumS_bound hns
    have htl : (c.sides.take k).length = k := by simp; omega
    refine SC.seq (SC.region (SL.U (SU.lss rfl rfl) (SL.nil (ST.thenN (SC.seq ?_)))))
    refine SC.ifP rfl (fun hlt2 => ?_) (fun hlt2 => ?_)
    ·have hkl : k < c.sides.length := oM
     have hb1 := hx0 oM
     have hjx : c.sides[((k : Nat) : Int).toNat]? = some c.sides[k] := List.getElem?_eq_getElem hkl
     have htk : c.sides.take (k + 1) = c.sides.take k ++ [c.sides[k]] := List.take_succ_eq_append_getElem hkl
     have hmemy : c.sides[k] ∈ c.sides := List.getElem_mem hkl
     generalize c.sides[k] = y at *
     refine SC.skip (ST.thenN (SC.seq (SC.block (SC.seq (SC.region (SL.U (SU.indexAddr underlying49 sizeOf55 rfl rfl hb1 oM sL) (SL.K (SQ.elemA isAgg55 sizeOf55 rfl hcs.rd hjx) (SL.W (SO.alloc zeroValue55) ?_))))))))
     rintro _ _ _ ⟨b12, rfl, rfl, rfl⟩
     refine SL.on (SO.storeAllK 0 sizeOf55 rfl rfl rfl rfl rfl (by exact ⟨rfl, rfl, trivial⟩)) ?_
     rintro _ _ _ ⟨rfl, rfl⟩
     refine SL.nil (ST.thenN (SC.seq ?_))
     refine SC.cutB 114 (signBad y) ?_ ?_
     ·refine SC.region (SL.U (SU.fieldAddr underlying55 rfl sizeOf3 rfl) (SL.K (SQ.load isAgg3 rfl (CellAt.own 0 rfl rfl)) (SL.U (SU.neq rfl rfl) (SL.M rfl ?_))))
      refine SL.split ?_ ?_
      ·intro h110
       refine SL.Y rfl rfl rfl (SU.fieldAddr underlying55 rfl sizeOf3 rfl) (SL.gq (Gd.onT rfl rfl rfl dC) (SQ.load isAgg3 rfl (CellAt.own 0 rfl rfl)) dC (SL.Y rfl rfl rfl (SU.neq rfl rfl) (SL.U (SU.pickT rfl rfl) (SL.nil ?_))))
       exact ST.mid1 (by exact congrArg (fun b => some (Value.bool b)) (signBad_a h110).symm) mI
      ·intro h110
       refine SL.Z rfl rfl rfl (SL.Z rfl rfl rfl (SL.Z rfl rfl rfl (SL.U (SU.pickF rfl rfl) (SL.nil ?_))))
       exact ST.mid1 (by exact congrArg (fun b => some (Value.bool b)) (signBad_b h110).symm) mI
     refine SC.ifB rfl (fun hsg => ?_) (fun hsg => ?_)
     ·refine SC.seq (SC.region (SL.A rfl (SL.nil (ST.thenN (SC.ret (ST.thenR (ST.blockR (ST.thenR (ST.thenR (ST.blockR (ST.thenR (ST.drop (s' := s) (.cons _ (.cons _ (.refl _))) ?_))))))))))))
      have hany : c.sides.any signBad = true := List.any_eq_true.2 ⟨y, hmemy, hsg⟩
      exact ST.ret1 (.inl rfl) results51 rfl ⟨by unfold formC; rw [if_neg (by simp [hdb]), if_neg (by simp [hcb]), if_neg (by simp [hno]), if_pos hany], rfl, rfl⟩
     ·have hyb : y.sign = 1 ∨ y.sign = -1 := by
       simp only [signBad, Bool.and_eq_false_iff, decide_eq_false_iff_not, ne_eq, Decidable.not_not] at hsg
       exact hsg
      refine SC.skip (ST.thenN (SC.region (SL.M rfl (SL.U (SU.fieldAddr underlying55 rfl sizeOf3 rfl) (SL.K (SQ.load isAgg3 rfl (CellAt.own 0 rfl rfl)) (SL.U (SU.add (m := sumS (c.sides.take k)) (n := y.sign) rfl rfl oM) (SL.A rfl (SL.nil (ST.blockN (ST.thenN (SC.region (SL.U (SU.add rfl rfl oM) (SL.M rfl (SL.nil (ST.drop (s' := pt b3 (.cells #[vi ri, vi c.dim, .slice rp c.sides.length rcap] 51 (0, 0)) :: s) (.cons _ (.refl _)) ?_)))))))))))))))
      exact ST.again (k + 1) ⟨rfl, get_vi rfl (by rw [htk]; simp [sumS]), rfl, rfl, rfl, trivial⟩ rfl rfl ⟨oM, by rw [htk, List.any_append, hns]; simp [hsg]⟩ oM
    ·have hkk : c.sides.take k = c.sides := List.take_of_length_le oM
     rw [hkk] at hns
     rw [hkk]
     refine SC.exit (ST.thenX (ST.thenX (ST.blockX (ST.thenN (SC.seq ?_)))))
     refine SC.cutB 126 ((decide (c.dim = 1) && decide (sumS c.sides ≠ 0))) ?_ ?_
     ·refine SC.region (SL.U (SU.fieldAddr underlying51 rfl sizeOf3 rfl) (SL.K (SQ.load isAgg3 rfl (CellAt.own 0 rfl rfl)) (SL.U (SU.eql rfl rfl) (SL.M rfl ?_))))
      refine SL.split ?_ ?_
      ·intro h123
       refine SL.Y rfl rfl rfl (SU.move rfl) (SL.Y rfl rfl rfl (SU.neq rfl rfl) (SL.U (SU.pickT rfl rfl) (SL.nil ?_)))
       exact ST.mid1 (by simp_all [get?]) mI
      ·intro h123
       refine SL.Z rfl rfl rfl (SL.Z rfl rfl rfl (SL.U (SU.pickF rfl rfl) (SL.nil ?_)))
       exact ST.mid1 (by simp_all [get?]) mI
     refine SC.ifB rfl (fun hend => ?_) (fun hend => ?_)
     ·refine SC.seq (SC.region (SL.A rfl (SL.nil (ST.thenN (SC.ret (ST.thenR (ST.drop (s' := s) (.cons _ (.refl _)) ?_)))))))
      exact ST.ret1 (.inl rfl) results51 rfl ⟨by unfold formC; rw [if_neg (by simp [hdb]), if_neg (by simp [hcb]), if_neg (by simp [hno]), if_neg (by simp [hns]), if_pos hend], rfl, rfl⟩
     ·refine SC.skip (ST.thenN (SC.seq (SC.region (SL.A rfl (SL.nil (ST.thenN (SC.ret (ST.drop (s' := s) (.cons _ (.refl _)) ?_))))))))
      exact ST.ret1 (.inl rfl) results51 rfl ⟨by unfold formC; rw [if_neg (by simp [hdb]), if_neg (by simp [hcb]), if_neg (by simp [hno]), if_neg (by simp [hns]), if_neg (by rw [hend]; simp)], rfl, rfl⟩
theorem Tryz.mty117 : MTy Tryz.prog 117 3 3 (vi 0) := ⟨underlying117, underlying3, zeroValue3⟩
theorem Tryz.mty118 : MTy Tryz.prog 118 3 45 (.slice none 0 0) := ⟨underlying118, underlying3, zeroValue45⟩
abbrev Ms := List (Int × Value × List Int)
def rowsM (ms : Ms) : Own := ms.map fun t => rowA encInt 3 t.2.1 t.2.2
def prsM (ms : Ms) : List (Int × Value) := ms.map fun t => (t.1, t.2.1)
def conM (ms : Ms) : List (Int × List Int) := ms.map fun t => (t.1, t.2.2)
def addL : List (Int × List Int) → Int → Int → List (Int × List Int)
 | [], k, x => [(k, [x])]
 | (a, l) :: r, k, x => if k = a then (a, l ++ [x]) :: r else (a, l) :: addL r k x
def addZ : List (Int × Int) → Int → Int → List (Int × Int)
 | [], k, x => [(k, x)]
 | (a, z) :: r, k, x => if k = a then (a, z + x) :: r else (a, z) :: addZ r k x
def getZ : List (Int × Int) → Int → Int
 | [], _ => 0
 | (a, z) :: r, k => if k = a then z else getZ r k
def prsZ (zl : List (Int × Int)) : List (Int × Value) := zl.map fun p => (p.1, vi p.2)
theorem getZ_map (zl : List (Int × Int)) (k : Int) : (mget (prsZ zl) k).getD (vi 0) = vi (getZ zl k) := by
 induction zl with
 | nil => rfl
 | cons p r ih =>
  obtain ⟨a, z⟩ := p
  simp only [prsZ, List.map_cons, mget_cons, getZ] at ih ⊢
  split
  ·rfl
  ·exact ih
theorem addZ_map (zl : List (Int × Int)) (k x : Int) : mput (prsZ zl) k (vi (getZ zl k + x)) = prsZ (addZ zl k x) := by
 induction zl with
 | nil => simp [prsZ, mput, addZ, getZ]
 | cons p r ih =>
  obtain ⟨a, z⟩ := p
  simp only [prsZ, List.map_cons, mput, getZ, addZ] at ih ⊢
  split
  ·rename_i h; subst h; rfl
  ·simp only [List.map_cons, ih]
theorem getZ_bound {zl : List (Int × Int)} {B : Int} (hB : 0 ≤ B) (h : ∀ p ∈ zl, -B ≤ p.2 ∧ p.2 ≤ B) (k : Int) : -B ≤ getZ zl k ∧ getZ zl k ≤ B := by
 induction zl with
 | nil => simp only [getZ]; omega
 | cons p r ih =>
  obtain ⟨a, z⟩ := p
  simp only [getZ]
  split
  ·exact h (a, z) (by simp)
  ·exact ih fun q hq => h q (by simp [hq])
theorem addZ_bound {zl : List (Int × Int)} {B : Int} (hB : 0 ≤ B) (h : ∀ p ∈ zl, -B ≤ p.2 ∧ p.2 ≤ B) (k : Int) {x : Int} (hx : -1 ≤ x ∧ x ≤ 1) : ∀ p ∈ addZ zl k x, -(B + 1) ≤ p.2 ∧ p.2 ≤ B + 1 := by
 induction zl with
 | nil =>
  intro p hp
  simp only [addZ, List.mem_singleton] at hp
  subst hp
  dsimp only
  omega
 | cons q r ih =>
  obtain ⟨a, z⟩ := q
  intro p hp
  simp only [addZ] at hp
  have h0 := h (a, z) (by simp)
  dsimp only at h0
  split at hp
  ·rcases List.mem_cons.1 hp with rfl | hp
   ·dsimp only; omega
   ·have := h p (by simp [hp]); omega
  ·rcases List.mem_cons.1 hp with rfl | hp
   ·dsimp only; omega
   ·exact ih (fun q hq => h q (by simp [hq])) p hp
theorem prep (ms : Ms) (k : Int) : ∃ (ms' : Ms) (j : Nat) (v : Value) (l : List Int), ms'[j]? = some (k, v, l) ∧ (mget (prsM ms) k).getD (.slice none 0 0) = v ∧ (∀ v' x, mput (prsM ms) k v' = prsM (ms'.set j (k, v', l ++ [x]))) ∧
  (∀ v' x, conM (ms'.set j (k, v', l ++ [x])) = addL (conM ms) k x) ∧ (∀ B, (∀ t ∈ ms, t.2.2.length ≤ B) → ∀ t ∈ ms', t.2.2.length ≤ B) ∧ ∀ E g (hd s : Own) w, At E g (hd ++ (rowsM ms ++ s)) w → At E g (hd ++ (rowsM ms' ++ s)) w := by
 induction ms with
 | nil =>
  refine ⟨[(k, .slice none 0 0, [])], 0, .slice none 0 0, [], rfl, rfl, fun v' x => rfl, fun v' x => by simp [conM, addL], fun B _ t ht => by simp at ht; subst ht; simp, fun E g hd s w h => ?_⟩
  have h1 := h.nilRow 3 1
  refine h1.perm ?_
  simp only [rowsM, List.map_nil, List.nil_append, List.map_cons, List.singleton_append]
  exact List.perm_middle.symm
 | cons p r ih =>
  obtain ⟨a, u, l0⟩ := p
  by_cases hk : k = a
  ·subst hk
   refine ⟨(k, u, l0) :: r, 0, u, l0, rfl, by simp [prsM, mget_cons], fun v' x => by simp [prsM, mput], fun v' x => by simp [conM, addL], fun B h => h, fun E g hd s w h => h⟩
  ·obtain ⟨ms', j, v, l, h1, h2, h3, h4, h6, h5⟩ := ih
   refine ⟨(a, u, l0) :: ms', j + 1, v, l, by simpa using h1, ?_, fun v' x => ?_, fun v' x => ?_, fun B h t ht => ?_, fun E g hd s w h => ?_⟩
   ·rw [← h2]
    simp [prsM, mget_cons, hk]
   ·have := h3 v' x
    simp only [prsM, List.map_cons, mput, List.set_cons_succ] at this ⊢
    rw [if_neg hk, this]
   ·have := h4 v' x
    simp only [conM, List.map_cons, addL, List.set_cons_succ] at this ⊢
    rw [if_neg hk, this]
   ·rcases List.mem_cons.1 ht with rfl | ht
    ·exact h _ (by simp)
    ·exact h6 B (fun t ht => h t (by simp [ht])) t ht
   ·have := h5 E g (hd ++ [rowA encInt 3 u l0]) s w (by simpa [rowsM] using h)
    simpa [rowsM] using this
theorem SC.to {P : Program} {N : Nat} {E : World} {c : Code} {Q : Exit → Act → World → Prop} {f : Fr} {g g' : PH} {s s' : Own} (h : ∀ w, At E g s w → At E g' s' w) (hc : SC P N E c Q f g' s') : SC P N E c Q f g s := fun a w ha hw => hc a w ha (h w hw)
theorem ST.to {N : Nat} {E : World} {e : Exit} {Q : Exit → Act → World → Prop} {f : Fr} {g g' : PH} {s s' : Own} (h : ∀ w, At E g s w → At E g' s' w) (hc : ST N E Q e f g' s') : ST N E Q e f g s := fun a w ha hw => hc a w ha (h w hw)
theorem SL.to {P : Program} {N : Nat} {E : World} {ops : Array Oper} {l : List Oper} {Q : Exit → Act → World → Prop} {f : Fr} {g g' : PH} {s s' : Own} (h : ∀ w, At E g s w → At E g' s' w) (hc : SL P N E ops Q l f g' s') : SL P N E ops Q l f g s := fun a w ha hw => hc a w ha (h w hw)
theorem take_set_sub {α : Type} (s : List α) (n j : Nat) (x : α) : (s.take n).Sublist (s.set (j + n) x) := by
 rw [show s.take n = (s.set (j + n) x).take n by rw [List.take_set_of_le oM]]
 exact List.take_sublist _ _
theorem SC.drawT {P : Program} {N : Nat} {E : World} {ops : Array Oper} {Q : Exit → Act → World → Prop} {f : Fr} {g : PH} {s : Own} {id : Nat} (n : Nat) (tail : List Nat) (plan : List (Nat × Nat)) (hm : P.follows .mixedOrders = true) (hok : drawOk ops tail plan = true)
  (h : SP P N E ops Q g (s.take n) tail plan f g s) : SC P N E (.region id ops true) Q f g s := by
 intro a w ha hw
 unfold drawOk at hok
 simp only [Bool.and_eq_true, beq_iff_eq] at hok
 refine wp_region_any hm (wpAny_of_T _ _ _ _ (S := At E g (s.take n)) (tail := tail) ?_)
 have := h (Array.replicate ops.size false) a { w with drawn := w.drawn + 1 } hok.1.1 (closed_none _) hok.2 ha (hw.drew _ (Nat.le_succ _)) (fun _ => (hw.sublist (List.take_sublist n s)).drew _ (Nat.le_succ _))
 rw [hok.1.2] at this
 exact this
theorem rows_get {ms : Ms} {j : Nat} {k : Int} {v : Value} {l : List Int} (h : ms[j]? = some (k, v, l)) (s : Own) : (rowsM ms ++ s)[j]? = some (rowA encInt 3 v l) := by
 have hj := (List.getElem?_eq_some_iff.1 h).1
 rw [List.getElem?_append_left (by simpa [rowsM] using hj)]
 simp [rowsM, h]
theorem rows_set {ms : Ms} {j : Nat} {k : Int} {v v' : Value} {l l' : List Int} (h : ms[j]? = some (k, v, l)) (s : Own) : (rowsM ms ++ s).set j (rowA encInt 3 v' l') = rowsM (ms.set j (k, v', l')) ++ s := by
 have hj := (List.getElem?_eq_some_iff.1 h).1
 rw [List.set_append_left _ _ (by simpa [rowsM] using hj)]
 simp [rowsM, List.map_set]
theorem freezeRows {E : World} {w : World} : ∀ (ms : Ms) (g : PH) (s : Own), At E g (rowsM ms ++ s) w → ∃ g', Le g g' ∧ At E g' s w ∧ ∀ t ∈ ms, Ints g' t.2.1 t.2.2
 | [], g, s, h => ⟨g, Le.refl g, h, by simp⟩
 | (a, v, l) :: r, g, s, h => by
  have h' : At E g (row 3 1 v l.length (l.flatMap encInt.enc) :: (rowsM r ++ s)) w := h
  obtain ⟨g1, hl1, h1, h2⟩ := h'.freezeRow
  obtain ⟨g2, hl2, h3, h4⟩ := freezeRows r g1 s h1
  refine ⟨g2, hl1.trans hl2, h3, fun t ht => ?_⟩
  rcases List.mem_cons.1 ht with rfl | ht
  ·exact Sl.mono h2 hl2
  ·exact h4 t ht
theorem SC.freezeRows {P : Program} {N : Nat} {E : World} {c : Code} {Q : Exit → Act → World → Prop} {f : Fr} {g : PH} {s : Own} {ms : Ms} (h : ∀ g', Le g g' → (∀ t ∈ ms, Ints g' t.2.1 t.2.2) → SC P N E c Q f g' s) : SC P N E c Q f g (rowsM ms ++ s) := fun a w ha hw => by
 obtain ⟨g', h1, h2, h3⟩ := Go.Proofs.YtkdibcicncjpdaaGreat.freezeRows ms g s hw
 exact h g' h1 h3 a w ha h2
def dfs (adj : Int → Option (List Int)) : Nat → Int → List Int → List Int
 | 0, _, vis => vis
 | n + 1, id, vis =>
  match adj id with
  | none => vis
  | some l => if vis.contains id then vis else l.foldl (fun v x => dfs adj n x v) (vis ++ [id])
theorem dfs_succ (adj : Int → Option (List Int)) (n : Nat) (id : Int) (vis : List Int) : dfs adj (n + 1) id vis = (match adj id with
  | none => vis
  | some l => if vis.contains id then vis else l.foldl (fun v x => dfs adj n x v) (vis ++ [id])) := rfl
theorem dfs_sub (adj : Int → Option (List Int)) : ∀ (n : Nat) (id : Int) (vis : List Int) (x : Int), x ∈ vis → x ∈ dfs adj n id vis
 | 0, _, _, _, h => h
 | n + 1, id, vis, x, h => by
  unfold dfs
  split
  ·exact h
  ·split
   ·exact h
   ·have : ∀ (l : List Int) (v : List Int), x ∈ v → x ∈ l.foldl (fun v y => dfs adj n y v) v := by
     intro l
     induction l with
     | nil => intro v hv; exact hv
     | cons y t ih => intro v hv; exact ih _ (dfs_sub adj n y v x hv)
    exact this _ _ (by simp [h])
def getL : List (Int × List Int) → Int → List Int
 | [], _ => []
 | (a, l) :: r, k => if k = a then l else getL r k
def hasL (jl : List (Int × List Int)) (k : Int) : Bool := jl.any fun p => decide (p.1 = k)
theorem getL_none {jl : List (Int × List Int)} {k : Int} (h : hasL jl k = false) : getL jl k = [] := by
 induction jl with
 | nil => rfl
 | cons p r ih =>
  obtain ⟨a, l⟩ := p
  simp only [hasL, List.any_cons, Bool.or_eq_false_iff, decide_eq_false_iff_not] at h
  simp only [getL]
  rw [if_neg (fun e => h.1 e.symm)]
  exact ih h.2
def cntK (jl : List (Int × List Int)) (vis : List Int) : Nat := (jl.filter fun p => !vis.contains p.1).length
theorem cntK_mono {tl : List (Int × List Int)} {v v' : List Int} (h : ∀ x ∈ v, x ∈ v') : cntK tl v' ≤ cntK tl v := by
 unfold cntK
 rw [← List.countP_eq_length_filter, ← List.countP_eq_length_filter]
 apply List.countP_mono_left
 intro c _ hp
 simp at hp ⊢
 exact fun e => hp (h _ e)
theorem cntK_lt {tl : List (Int × List Int)} {v : List Int} {k : Int} (hc : hasL tl k = true) (hn : v.contains k = false) : cntK tl (v ++ [k]) < cntK tl v := by
 induction tl with
 | nil => simp [hasL] at hc
 | cons d t ih =>
  have hm : cntK t (v ++ [k]) ≤ cntK t v := cntK_mono (fun x hx => by simp [hx])
  have e1 : ∀ u : List Int, cntK (d :: t) u = (if u.contains d.1 then 0 else 1) + cntK t u := fun u => by
   unfold cntK
   rw [List.filter_cons]
   cases u.contains d.1 <;> simp <;> omega
  rw [e1, e1]
  simp only [hasL, List.any_cons, Bool.or_eq_true, decide_eq_true_eq] at hc
  rcases hc with rfl | hc'
  ·have : (v ++ [d.1]).contains d.1 = true := by simp
   rw [this, hn]
   simp
   omega
  ·have := ih hc'
   cases h1 : v.contains d.1
   ·cases h2 : (v ++ [k]).contains d.1 <;> simp <;> omega
   ·have h2 : (v ++ [k]).contains d.1 = true := by simp at h1 ⊢; exact .inl h1
    rw [h2]
    simp
    exact this
theorem look_list {g : PH} (js : Ms) (h : ∀ t ∈ js, Ints g t.2.1 t.2.2) (k : Int) : ∃ v, (mget (prsM js) k).getD (.slice none 0 0) = v ∧ Ints g v (getL (conM js) k) := by
 induction js with
 | nil => exact ⟨_, rfl, Sl.nil g _⟩
 | cons p r ih =>
  obtain ⟨a, u, l⟩ := p
  by_cases hk : k = a
  ·subst hk
   exact ⟨u, by simp [prsM, mget_cons], by simpa [conM, getL] using h (k, u, l) (by simp)⟩
  ·obtain ⟨v, h1, h2⟩ := ih fun t ht => h t (by simp [ht])
   exact ⟨v, by simpa [prsM, mget_cons, hk] using h1, by simpa [conM, getL, hk] using h2⟩
def adjJ (jl : List (Int × List Int)) (i : Int) : Option (List Int) := some (getL jl i)
theorem visit_spec (E : World) (g : PH) (bs bj bf m mj : Nat) (js : Ms) (hj : Mp g mj (prsM js)) (hjs : ∀ t ∈ js, Ints g t.2.1 t.2.2) (hlen : ∀ t ∈ js, t.2.2.length < 1099511627776) (h1 : g bs = some (.cells #[.map (some m)] 96 (0, 0))) (h2 : g bj = some (.cells #[.map (some mj)] 118 (0, 0)))
  (h3 : g bf = some (.cells #[.func (.func 92) #[] #[pp bs 0, pp bj 0, pp bf 0]] 119 (0, 0))) : ∀ (n : Nat) (id : Int) (vis : List Int) (s : Own) (i : Nat), cntK (conM js) vis < n → s[i]? = some (mp m (setP vis)) →
  Ctr Tryz.prog E 92 #[vi id, pp bs 0, pp bj 0, pp bf 0] g s (fun _ g' s' => g = g' ∧ s' = s.set i (mp m (setP (dfs (adjJ (conM js)) n id vis)))) := by
 intro n
 induction n with
 | zero => intro id vis s i h; omega
 | succ n ih =>
 intro id vis s i hcnt hi
 obtain ⟨v, hv1, hv2⟩ := look_list js hjs id
 have hvl : (getL (conM js) id).length < 1099511627776 := by
  have : ∀ q : Ms, (∀ t ∈ q, t.2.2.length < 1099511627776) → (getL (conM q) id).length < 1099511627776 := by
   intro q hq
   induction q with
   | nil => simp [conM, getL]
   | cons p r ihq =>
    obtain ⟨a, u, l⟩ := p
    simp only [conM, List.map_cons, getL]
    split
    ·exact hq (a, u, l) (by simp)
    ·exact ihq fun t ht => hq t (by simp [ht])
  exact this js hlen
 generalize hL : getL (conM js) id = L at hv2 hvl
 obtain ⟨p, cp, rfl⟩ := SlA.form hv2
 refine Ctr.of (args := [vi id, pp bs 0, pp bj 0, pp bf 0]) func92 rfl ntmps92 (Nat.le_of_ble_eq_true rfl) ?_
 refine SC.seq (SC.region (SL.K (SQ.load isAgg96 rfl (CellAt.known h1 rfl)) (SL.M rfl (SL.K (SQ.eq (v' := vb (vis.contains id)) (SQ.lookup mty96 rfl rfl (MapAt.own i hi)) ((setP_set vis).get id)) (SL.U (SU.not rfl) (SL.nil (ST.thenN ?_)))))))
 refine SC.ifB rfl (fun hc => ?_) (fun hc => ?_)
 ·have hnv : vis.contains id = false := by simpa using hc
  refine SC.seq (SC.region (SL.K (SQ.load isAgg96 rfl (CellAt.known h1 rfl)) (SL.M rfl (SL.on (SO.mapUpdate i mty96 rfl rfl rfl hi) ?_))))
  rintro _ _ _ ⟨rfl, rfl⟩
  rw [setP_put hnv]
  refine SL.nil (ST.thenN (SC.seq (SC.region (SL.K (SQ.load isAgg118 rfl (CellAt.known h2 rfl)) (SL.M rfl (SL.K (SQ.eq (SQ.lookup mty118 rfl rfl (MapAt.known hj)) hv1) (SL.U (SU.lenN underlying45 rfl) (SL.M rfl (SL.nil (ST.thenN (SC.block ?_)))))))))))
  refine SC.loop (ι := Nat × List Int) (fun q => [(3, pp bf 0), (15, .slice p L.length cp), (16, vi L.length), (17, vi q.1)]) (fun _ => g)
   (fun q => s.set i (mp m (setP q.2))) (fun q => q.1 ≤ L.length ∧ q.2 = (L.take q.1).foldl (fun v x => dfs (adjJ (conM js)) n x v) (vis ++ [id]) ∧ (0 < L.length → cntK (conM js) q.2 < n)) (fun q => L.length - q.1)
   (0, vis ++ [id]) ⟨rfl, rfl, rfl, rfl, trivial⟩ rfl rfl ⟨Nat.zero_le _, by simp, fun hpos => ?_⟩ ?_
  ·cases hh : hasL (conM js) id with
   | false =>
    rw [getL_none hh] at hL
    rw [← hL] at hpos
    simp at hpos
   | true =>
    have := cntK_lt hh hnv
    dsimp only
    omega
  rintro ⟨j, vj⟩ ⟨hj1, hvj, hcj⟩
  dsimp only at hj1 hvj hcj ⊢
  refine SC.seq (SC.region (SL.U (SU.lss rfl rfl) (SL.nil (ST.thenN (SC.seq ?_)))))
  refine SC.ifP rfl (fun hlt => ?_) (fun hlt => ?_)
  ·have hjl : j < L.length := oM
   have hb1 := SlA.based hv2 oM
   have hjx : L[((j : Nat) : Int).toNat]? = some L[j] := List.getElem?_eq_getElem hjl
   have hjx' : L[j]? = some L[j] := List.getElem?_eq_getElem hjl
   generalize L[j] = y at *
   refine SC.skip (ST.thenN (SC.seq (SC.block (SC.seq (SC.region (SL.U (SU.indexAddr underlying45 sizeOf3 rfl rfl hb1 oM sL) (SL.K (SQ.elem1 isAgg3 rfl (SlA.rd hv2) hjx rfl) (SL.A rfl (SL.nil (ST.thenN (SC.region (SL.K (SQ.load isAgg119 rfl (CellAt.known h3 rfl)) (SL.M rfl (SL.W (SO.callV rfl rfl (CallV.mk (cap := [pp bs 0, pp bj 0, pp bf 0]) call92 (ih y vj _ i (hcj oM) (get_set hi _)))) ?_))))))))))))))
   rintro _ _ _ ⟨rfl, rfl⟩
   refine SL.nil (ST.blockN (ST.thenN (SC.region (SL.U (SU.add rfl rfl oM) (SL.M rfl (SL.nil ?_))))))
   exact ST.again (j + 1, dfs (adjJ (conM js)) n y vj) ⟨rfl, rfl, rfl, rfl, trivial⟩ rfl (by rw [List.set_set]) ⟨lN, by
    rw [take_succ_of hjx', List.foldl_append, ← hvj]; rfl, fun h => Nat.lt_of_le_of_lt (cntK_mono fun x hx => dfs_sub _ n _ _ x hx) (hcj h)⟩ lN
  ·refine SC.exit (ST.thenX (ST.thenX (ST.blockX ?_)))
   have hjj : L.take j = L := List.take_of_length_le oM
   have hr : dfs (adjJ (conM js)) (n + 1) id vis = vj := by
    rw [hjj] at hvj
    rw [hvj, dfs_succ]
    simp only [adjJ, hL, hnv, Bool.false_eq_true, if_false]
   exact ST.ret0 (.inr rfl) results92 ⟨rfl, by rw [hr]⟩
 ·refine SC.skip ?_
  have hin : vis.contains id = true := by simpa using hc
  have hr : dfs (adjJ (conM js)) (n + 1) id vis = vis := by
   rw [dfs_succ]
   simp only [adjJ, hin, if_true]
  exact ST.ret0 (.inr rfl) results92 ⟨rfl, by rw [hr, set_self hi]⟩
inductive Rch (adj : Int → Option (List Int)) : Int → Int → Prop
 | refl (a : Int) (h : adj a ≠ none) : Rch adj a a
 | step (a b c : Int) (l : List Int) (h : adj a = some l) (hb : b ∈ l) (r : Rch adj b c) : Rch adj a c
theorem Rch.node {adj : Int → Option (List Int)} {a b : Int} (h : Rch adj a b) : adj a ≠ none := by
 cases h with
 | refl _ h => exact h
 | step _ _ _ l h _ _ => rw [h]; simp
theorem dfs_sound (adj : Int → Option (List Int)) : ∀ (n : Nat) (id : Int) (vis : List Int) (x : Int), x ∈ dfs adj n id vis → x ∈ vis ∨ Rch adj id x
 | 0, _, _, _, h => .inl h
 | n + 1, id, vis, x, h => by
  rw [dfs_succ] at h
  cases ha : adj id with
  | none => rw [ha] at h; exact .inl h
  | some l =>
   rw [ha] at h
   dsimp only at h
   split at h
   ·exact .inl h
   ·have key : ∀ (q : List Int) (v : List Int), (∀ y ∈ q, y ∈ l) → x ∈ q.foldl (fun v y => dfs adj n y v) v → x ∈ v ∨ Rch adj id x := by
     intro q
     induction q with
     | nil => intro v _ hx; exact .inl hx
     | cons y t ih =>
      intro v hq hx
      rcases ih _ (fun z hz => hq z (by simp [hz])) hx with h1 | h1
      ·rcases dfs_sound adj n y v x h1 with h2 | h2
       ·exact .inl h2
       ·exact .inr (.step id y x l ha (hq y (by simp)) h2)
      ·exact .inr h1
    rcases key l _ (fun y hy => hy) h with h1 | h1
    ·rcases List.mem_append.1 h1 with h2 | h2
     ·exact .inl h2
     ·simp at h2
      subst h2
      exact .inr (.refl _ (by rw [ha]; simp))
    ·exact .inr h1
theorem dfs_nodup (adj : Int → Option (List Int)) : ∀ (n : Nat) (id : Int) (vis : List Int), vis.Nodup → (dfs adj n id vis).Nodup
 | 0, _, _, h => h
 | n + 1, id, vis, h => by
  rw [dfs_succ]
  cases adj id with
  | none => exact h
  | some l =>
   dsimp only
   split
   ·exact h
   ·rename_i hc
    have key : ∀ (q : List Int) (v : List Int), v.Nodup → (q.foldl (fun v y => dfs adj n y v) v).Nodup := by
     intro q
     induction q with
     | nil => intro v hv; exact hv
     | cons y t ih => intro v hv; exact ih _ (dfs_nodup adj n y v hv)
    refine key l _ ?_
    rw [List.nodup_append]
    refine ⟨h, by simp, fun a ha b hb e => hc ?_⟩
    simp at hb
    subst hb
    simpa [← e] using ha
theorem dfs_complete (adj : Int → Option (List Int)) (cnt : List Int → Nat) (hm : ∀ v v', (∀ x ∈ v, x ∈ v') → cnt v' ≤ cnt v) (hs : ∀ v k l, adj k = some l → l ≠ [] → v.contains k = false → cnt (v ++ [k]) < cnt v) :
  ∀ (n : Nat) (id : Int) (vis : List Int), cnt vis < n → (adj id ≠ none → id ∈ dfs adj n id vis) ∧ ∀ x ∈ dfs adj n id vis, x ∉ vis → ∀ l, adj x = some l → ∀ y ∈ l, adj y ≠ none → y ∈ dfs adj n id vis
 | 0, _, _, h => absurd h oM
 | n + 1, id, vis, hc => by
  rw [dfs_succ]
  cases ha : adj id with
  | none => exact ⟨fun h => absurd rfl h, fun x hx hn => absurd hx hn⟩
  | some l =>
   dsimp only
   split
   ·rename_i hin
    exact ⟨fun _ => by simpa using hin, fun x hx hn => absurd hx hn⟩
   ·rename_i hin
    have hin' : vis.contains id = false := by simpa using hin
    have key : ∀ (q : List Int) (v : List Int), (∀ x ∈ vis ++ [id], x ∈ v) → (∀ x ∈ v, x ∉ vis ++ [id] → ∀ l, adj x = some l → ∀ y ∈ l, adj y ≠ none → y ∈ v) → (q ≠ [] → cnt v < n) →
      (∀ x ∈ v, x ∈ q.foldl (fun v y => dfs adj n y v) v) ∧ (∀ y ∈ q, adj y ≠ none → y ∈ q.foldl (fun v y => dfs adj n y v) v) ∧
      ∀ x ∈ q.foldl (fun v y => dfs adj n y v) v, x ∉ vis ++ [id] → ∀ l, adj x = some l → ∀ y ∈ l, adj y ≠ none → y ∈ q.foldl (fun v y => dfs adj n y v) v := by
     intro q
     induction q with
     | nil => intro v _ h2 _; exact ⟨fun x hx => hx, by simp, h2⟩
     | cons y t ih =>
      intro v h1 h2 h3
      have hcv := h3 (by simp)
      obtain ⟨d1, d2⟩ := dfs_complete adj cnt hm hs n y v hcv
      have hsub := dfs_sub adj n y v
      have hcl : ∀ x ∈ dfs adj n y v, x ∉ vis ++ [id] → ∀ l, adj x = some l → ∀ z ∈ l, adj z ≠ none → z ∈ dfs adj n y v := by
       intro x hx hn l hl z hz hzn
       by_cases hxv : x ∈ v
       ·exact hsub z (h2 x hxv hn l hl z hz hzn)
       ·exact d2 x hx hxv l hl z hz hzn
      obtain ⟨e1, e2, e3⟩ := ih (dfs adj n y v) (fun x hx => hsub x (h1 x hx)) hcl (fun _ => Nat.lt_of_le_of_lt (hm _ _ hsub) hcv)
      simp only [List.foldl_cons]
      refine ⟨fun x hx => e1 x (hsub x hx), fun z hz hzn => ?_, e3⟩
      rcases List.mem_cons.1 hz with rfl | hz
      ·exact e1 z (d1 hzn)
      ·exact e2 z hz hzn
    obtain ⟨k1, k2, k3⟩ := key l (vis ++ [id]) (fun x hx => hx) (fun x hx hn => absurd hx hn) (fun hl => by have := hs vis id l ha hl hin'; omega)
    refine ⟨fun _ => k1 id (by simp), fun x hx hn l' hl' y hy hyn => ?_⟩
    by_cases hxv : x ∈ vis ++ [id]
    ·rcases List.mem_append.1 hxv with h | h
     ·exact absurd h hn
     ·simp at h
      subst h
      rw [ha] at hl'
      injection hl' with hl'
      subst hl'
      exact k2 y hy hyn
    ·exact k3 x hx hxv l' hl' y hy hyn
theorem mem_dfs {adj : Int → Option (List Int)} {cnt : List Int → Nat} (hm : ∀ v v', (∀ x ∈ v, x ∈ v') → cnt v' ≤ cnt v) (hs : ∀ v k l, adj k = some l → l ≠ [] → v.contains k = false → cnt (v ++ [k]) < cnt v) {n : Nat} {id : Int} (hc : cnt [] < n) (hn : adj id ≠ none) (x : Int) :
  x ∈ dfs adj n id [] ↔ Rch adj id x := by
 obtain ⟨d1, d2⟩ := dfs_complete adj cnt hm hs n id [] hc
 refine ⟨fun h => (dfs_sound adj n id [] x h).resolve_left (by simp), fun h => ?_⟩
 have key : ∀ a b, Rch adj a b → a ∈ dfs adj n id [] → b ∈ dfs adj n id [] := by
  intro a b hr
  induction hr with
  | refl a _ => exact fun h => h
  | step a b c l hl hb r ih => exact fun h => ih (d2 a h (by simp) l hl b hb r.node)
 exact key id x h (d1 hn)
theorem Rch.mono {adj adj' : Int → Option (List Int)} (h : ∀ x l, adj x = some l → ∀ y ∈ l, ∃ l', adj' x = some l' ∧ y ∈ l') (hn : ∀ x, adj x ≠ none → adj' x ≠ none) {a b : Int} (hr : Rch adj a b) : Rch adj' a b := by
 induction hr with
 | refl a h1 => exact .refl a (hn a h1)
 | step a b c l hl hb _ ih =>
  obtain ⟨l', h1, h2⟩ := h a l hl b hb
  exact .step a b c l' h1 h2 ih
theorem cntK_strict (jl : List (Int × List Int)) : ∀ v k l, adjJ jl k = some l → l ≠ [] → v.contains k = false → cntK jl (v ++ [k]) < cntK jl v := by
 intro v k l hl hne hv
 refine cntK_lt ?_ hv
 cases h : hasL jl k with
 | true => rfl
 | false =>
  rw [adjJ, getL_none h] at hl
  injection hl with hl
  exact absurd hl.symm hne
theorem getL_addL (jl : List (Int × List Int)) (a b x : Int) : getL (addL jl a b) x = if x = a then getL jl x ++ [b] else getL jl x := by
 induction jl with
 | nil => simp [addL, getL]
 | cons p r ih =>
  obtain ⟨k, l⟩ := p
  simp only [addL]
  by_cases h : a = k
  ·subst h
   simp only [if_true, getL]
   split <;> rfl
  ·rw [if_neg h]
   simp only [getL, ih]
   by_cases hx : x = k
   ·subst hx
    rw [if_pos rfl, if_pos rfl, if_neg (fun e => h e.symm)]
   ·rw [if_neg hx, if_neg hx]
def sidesOf (tl : List Cl) (x : Side) : List Side := ((findT tl x.cell).getD zeroC).sides
def stepZ (x : Side) (zl : List (Int × Int)) (r : Side) : List (Int × Int) := addZ zl r.cell (x.sign * r.sign)
def stepL (i : Int) (ml : List (Int × List Int)) (r : Side) : List (Int × List Int) := addL ml r.cell i
def sumsC (tl : List Cl) (l : List Side) : List (Int × Int) := l.foldl (fun zl x => (sidesOf tl x).foldl (stepZ x) zl) []
def metC (tl : List Cl) (l : List Side) : List (Int × List Int) := l.zipIdx.foldl (fun ml p => (sidesOf tl p.1).foldl (stepL p.2) ml) []
def joinStep (jl : List (Int × List Int)) (p : Int × List Int) : List (Int × List Int) := match p.2 with
 | [a, b] => addL (addL jl a b) b a
 | _ => jl
def joinC (ml : List (Int × List Int)) : List (Int × List Int) := ml.foldl joinStep []
def seenC (jl : List (Int × List Int)) : List Int := dfs (adjJ jl) (jl.length + 1) 0 []
def aroundC (tl : List Cl) (c : Cl) : Int :=
 if (sumsC tl c.sides).any (fun p => decide (p.2 ≠ 0)) then 24
 else if (metC tl c.sides).any (fun p => decide ((p.2.length : Int) ≠ 2)) then 25
 else if ((seenC (joinC (metC tl c.sides))).length : Int) ≠ c.sides.length then 25 else 0
def AOk (tl : List Cl) (c : Cl) : Prop := c.sides.length ≤ 64 ∧ (∀ x ∈ c.sides, x.sign = 1 ∨ x.sign = -1) ∧ ∀ x ∈ c.sides, (sidesOf tl x).length ≤ 64 ∧ ∀ r ∈ sidesOf tl x, r.sign = 1 ∨ r.sign = -1
theorem sumsC_succ {tl : List Cl} {l : List Side} {x : Side} : sumsC tl (l ++ [x]) = (sidesOf tl x).foldl (stepZ x) (sumsC tl l) := by
 simp [sumsC, List.foldl_append]
theorem metC_succ {tl : List Cl} {l : List Side} {x : Side} : metC tl (l ++ [x]) = (sidesOf tl x).foldl (stepL l.length) (metC tl l) := by
 simp [metC, List.zipIdx_append, List.foldl_append]
theorem sign_mul {a b : Int} (ha : a = 1 ∨ a = -1) (hb : b = 1 ∨ b = -1) : a * b = 1 ∨ a * b = -1 := by
 rcases ha with rfl | rfl <;> rcases hb with rfl | rfl <;> decide
theorem addL_keys (ml : List (Int × List Int)) (k x : Int) : (addL ml k x).map Prod.fst = if ml.any (fun p => decide (p.1 = k)) then ml.map Prod.fst else ml.map Prod.fst ++ [k] := by
 induction ml with
 | nil => rfl
 | cons p r ih =>
  obtain ⟨a, l⟩ := p
  simp only [addL]
  by_cases h : k = a
  ·subst h; simp
  ·have h' : ¬ a = k := fun e => h e.symm
   rw [if_neg h]
   simp only [List.map_cons, ih, List.any_cons, h', decide_false, Bool.false_or]
   split <;> simp
theorem addL_nodup {ml : List (Int × List Int)} (h : (ml.map Prod.fst).Nodup) (k x : Int) : ((addL ml k x).map Prod.fst).Nodup := by
 rw [addL_keys]
 split
 ·exact h
 ·rename_i hk
  rw [List.nodup_append]
  refine ⟨h, by simp, fun a ha b hb e => hk ?_⟩
  simp at hb
  subst hb
  obtain ⟨p, hp, hpe⟩ := List.mem_map.1 ha
  rw [List.any_eq_true]
  exact ⟨p, hp, by simp [hpe, e]⟩
theorem metC_nodup (tl : List Cl) (l : List Side) : ((metC tl l).map Prod.fst).Nodup := by
 unfold metC
 have h2 : ∀ (q : List (Side × Nat)) (ml : List (Int × List Int)), (ml.map Prod.fst).Nodup → ((q.foldl (fun ml p => (sidesOf tl p.1).foldl (stepL p.2) ml) ml).map Prod.fst).Nodup := by
  intro q
  induction q with
  | nil => intro ml h; exact h
  | cons p t ih =>
   intro ml h
   refine ih _ ?_
   have h1 : ∀ (q : List Side) (ml : List (Int × List Int)), (ml.map Prod.fst).Nodup → ((q.foldl (stepL p.2) ml).map Prod.fst).Nodup := by
    intro q
    induction q with
    | nil => intro ml h; exact h
    | cons r t ih => intro ml h; exact ih _ (addL_nodup h _ _)
   exact h1 _ _ h
 exact h2 _ _ (by simp)
theorem addL_length (ml : List (Int × List Int)) (k x : Int) : (addL ml k x).length ≤ ml.length + 1 := by
 induction ml with
 | nil => simp [addL]
 | cons p r ih =>
  obtain ⟨a, l⟩ := p
  simp only [addL]
  split <;> simp <;> omega
theorem metC_length {tl : List Cl} {l : List Side} (h : ∀ x ∈ l, (sidesOf tl x).length ≤ 64) : (metC tl l).length ≤ 64 * l.length := by
 have h2 : ∀ (q : List (Side × Nat)) (ml : List (Int × List Int)), (∀ p ∈ q, (sidesOf tl p.1).length ≤ 64) → (q.foldl (fun ml p => (sidesOf tl p.1).foldl (stepL p.2) ml) ml).length ≤ ml.length + 64 * q.length := by
  intro q
  induction q with
  | nil => intro ml _; simp
  | cons p t ih =>
   intro ml hq
   have h1 : ∀ (q : List Side) (ml : List (Int × List Int)), (q.foldl (stepL p.2) ml).length ≤ ml.length + q.length := by
    intro q
    induction q with
    | nil => intro ml; simp
    | cons r t ih =>
     intro ml
     have h3 := ih (stepL p.2 ml r)
     have h4 := addL_length ml r.cell p.2
     simp only [List.foldl_cons, List.length_cons]
     unfold stepL at h3 ⊢
     omega
   have h5 := ih ((sidesOf tl p.1).foldl (stepL p.2) ml) (fun p hp => hq p (by simp [hp]))
   have h6 := h1 (sidesOf tl p.1) ml
   have h7 := hq p (by simp)
   simp only [List.foldl_cons, List.length_cons]
   omega
 have := h2 l.zipIdx [] (fun p hp => h p.1 (by
  obtain ⟨a, i⟩ := p
  exact (List.mem_zipIdx hp).2.2 ▸ List.getElem_mem _))
 simpa [metC] using this
theorem perm_of_key {α : Type} (f : α → Int) {vt ms : List α} (hs : ∀ t ∈ vt, t ∈ ms) (hp : (vt.map f).Perm (ms.map f)) (hn : (ms.map f).Nodup) : vt.Perm ms := by
 have hinj : ∀ {l : List α}, (l.map f).Nodup → ∀ a ∈ l, ∀ b ∈ l, f a = f b → a = b := by
  intro l
  induction l with
  | nil => intro _ a ha; simp at ha
  | cons c t ih =>
   intro h a ha b hb e
   simp only [List.map_cons, List.nodup_cons] at h
   rcases List.mem_cons.1 ha with rfl | ha' <;> rcases List.mem_cons.1 hb with rfl | hb'
   ·rfl
   ·exact absurd (List.mem_map.2 ⟨b, hb', e.symm⟩) h.1
   ·exact absurd (List.mem_map.2 ⟨a, ha', e⟩) h.1
   ·exact ih h.2 a ha' b hb' e
 refine (List.perm_ext_iff_of_nodup (List.Pairwise.of_map f (fun a b hab e => hab (by rw [e])) (hp.symm.nodup hn)) (List.Pairwise.of_map f (fun a b hab e => hab (by rw [e])) hn)).2 fun c => ⟨hs c, fun hc => ?_⟩
 obtain ⟨c', h1, h2⟩ := List.mem_map.1 (hp.symm.subset (List.mem_map.2 ⟨c, hc, rfl⟩))
 rw [← hinj hn c' (hs c' h1) c hc h2]
 exact h1
theorem mem_addL (jl : List (Int × List Int)) (a b x y : Int) : y ∈ getL (addL jl a b) x ↔ y ∈ getL jl x ∨ (x = a ∧ y = b) := by
 rw [getL_addL]
 split
 ·rename_i h; simp [h]
 ·rename_i h; simp [h]
theorem mem_join (ml : List (Int × List Int)) (x y : Int) : y ∈ getL (joinC ml) x ↔ ∃ p ∈ ml, p.2 = [x, y] ∨ p.2 = [y, x] := by
 have key : ∀ (q : List (Int × List Int)) (jl : List (Int × List Int)), y ∈ getL (q.foldl joinStep jl) x ↔ y ∈ getL jl x ∨ ∃ p ∈ q, p.2 = [x, y] ∨ p.2 = [y, x] := by
  intro q
  induction q with
  | nil => intro jl; simp
  | cons p t ih =>
   intro jl
   simp only [List.foldl_cons, ih]
   have hp : y ∈ getL (joinStep jl p) x ↔ y ∈ getL jl x ∨ (p.2 = [x, y] ∨ p.2 = [y, x]) := by
    obtain ⟨k, l⟩ := p
    unfold joinStep
    dsimp only
    match l with
    | [] => simp
    | [_] => simp
    | [a, b] =>
     simp only [mem_addL, List.cons.injEq, and_true]
     constructor
     ·rintro ((h | ⟨h1, h2⟩) | ⟨h1, h2⟩)
      ·exact .inl h
      ·exact .inr (.inl ⟨h1.symm, h2.symm⟩)
      ·exact .inr (.inr ⟨h2.symm, h1.symm⟩)
     ·rintro (h | ⟨h1, h2⟩ | ⟨h1, h2⟩)
      ·exact .inl (.inl h)
      ·exact .inl (.inr ⟨h1.symm, h2.symm⟩)
      ·exact .inr ⟨h2.symm, h1.symm⟩
    | _ :: _ :: _ :: q => simp
   rw [hp]
   constructor
   ·rintro ((h | h) | ⟨q, h1, h2⟩)
    ·exact .inl h
    ·exact .inr ⟨p, by simp, h⟩
    ·exact .inr ⟨q, by simp [h1], h2⟩
   ·rintro (h | ⟨q, h1, h2⟩)
    ·exact .inl (.inl h)
    ·rcases List.mem_cons.1 h1 with rfl | h1
     ·exact .inl (.inr h2)
     ·exact .inr ⟨q, h1, h2⟩
 unfold joinC
 rw [key]
 simp [getL]
theorem seen_perm {a b : List (Int × List Int)} (h : a.Perm b) : (seenC (joinC a)).length = (seenC (joinC b)).length := by
 have hr : ∀ (a b : List (Int × List Int)), a.Perm b → ∀ x, Rch (adjJ (joinC a)) 0 x → Rch (adjJ (joinC b)) 0 x := by
  intro a b h x hx
  refine hx.mono (fun u l hl y hy => ⟨_, rfl, ?_⟩) (fun _ _ => by simp [adjJ])
  simp only [adjJ, Option.some.injEq] at hl
  subst hl
  rw [mem_join] at hy ⊢
  obtain ⟨p, hp, h2⟩ := hy
  exact ⟨p, h.subset hp, h2⟩
 have hc : ∀ jl : List (Int × List Int), cntK jl [] < jl.length + 1 := fun jl => Nat.lt_succ_of_le (List.length_filter_le _ _)
 have hmem : ∀ (q : List (Int × List Int)) (x : Int), x ∈ seenC (joinC q) ↔ Rch (adjJ (joinC q)) 0 x := fun q x => mem_dfs (cnt := cntK (joinC q)) (fun v v' h => cntK_mono h) (cntK_strict _) (hc _) (by simp [adjJ]) x
 refine List.Perm.length_eq ((List.perm_ext_iff_of_nodup (dfs_nodup _ _ _ _ (by simp)) (dfs_nodup _ _ _ _ (by simp))).2 fun x => ?_)
 exact (hmem a x).trans (Iff.trans ⟨hr a b h x, hr b a h.symm x⟩ (hmem b x).symm)
theorem around_spec (E : World) (g : PH) (s : Own) (v : Value) (tl : List Cl) (c : Cl) (r : Rc) (hv : Tab g v tl) (hc : CellR g c r) (hok : AOk tl c) :
  Ctr Tryz.prog E 52 #[v, rcv r] g s (fun r g' s' => r = vi (aroundC tl c) ∧ g = g' ∧ s = s') := by
 obtain ⟨b, mt, iv, rs, rfl, hb, hm, hI, hall⟩ := hv
 obtain ⟨ri, rd, rp, rn, rcap⟩ := r
 have hcs : SlA encSide g (.slice rp rn rcap) c.sides := hc.2.2
 have hrn : rn = c.sides.length := Sl.slen hcs
 have hrd : rd = c.dim := hc.2.1
 subst hrn hrd
 obtain ⟨hn64, hsg, hin⟩ := hok
 have hx0 := fun h => hcs.based h
 refine Ctr.of (args := [pp b 0, rcv ⟨ri, c.dim, rp, c.sides.length, rcap⟩]) func52 rfl ntmps52 (Nat.le_of_ble_eq_true rfl) ?_
 refine SC.seq (SC.region (SL.W (SO.box rfl) ?_))
 rintro _ _ _ ⟨b3, rfl, rfl, rfl⟩
 refine SL.A rfl (SL.nil (ST.thenN (SC.seq (SC.region (SL.W (SO.mkMap) ?_)))))
 rintro _ _ _ ⟨mz, rfl, rfl, rfl⟩
 refine SL.W (SO.mkMap) ?_
 rintro _ _ _ ⟨mm, rfl, rfl, rfl⟩
 refine SL.A rfl (SL.A rfl (SL.nil (ST.thenN ?_)))
 refine SC.cut (ι := List (Int × Int) × Ms) (fun _ => [(3, pp b3 0), (5, .map (some mz)), (6, .map (some mm))]) (fun _ => g) (fun q => mp mm (prsM q.2) :: mp mz (prsZ q.1) :: pt b3 (.cells #[vi ri, vi c.dim, .slice rp c.sides.length rcap] 51 (0, 0)) :: (rowsM q.2 ++ s))
  (fun q => q.1 = sumsC tl c.sides ∧ conM q.2 = metC tl c.sides ∧ ∀ t ∈ q.2, t.2.2.length ≤ 4096) ?_ ?_
 ·refine SC.seq (SC.region (SL.U (SU.fieldAddr underlying51 rfl sizeOf49 rfl) (SL.K (SQ.load isAgg49 rfl (CellAt.own 2 rfl rfl)) (SL.U (SU.lenN underlying49 rfl) (SL.M rfl (SL.nil (ST.thenN (SC.block ?_))))))))
  refine SC.loop (ι := Nat × List (Int × Int) × Ms) (fun q => [(0, pp b 0), (3, pp b3 0), (5, .map (some mz)), (6, .map (some mm)), (21, .slice rp c.sides.length rcap), (22, vi c.sides.length), (23, vi q.1)]) (fun _ => g)
   (fun q => mp mm (prsM q.2.2) :: mp mz (prsZ q.2.1) :: pt b3 (.cells #[vi ri, vi c.dim, .slice rp c.sides.length rcap] 51 (0, 0)) :: (rowsM q.2.2 ++ s))
   (fun q => q.1 ≤ c.sides.length ∧ q.2.1 = sumsC tl (c.sides.take q.1) ∧ conM q.2.2 = metC tl (c.sides.take q.1) ∧ (∀ p ∈ q.2.1, -((64 * q.1 : Nat) : Int) ≤ p.2 ∧ p.2 ≤ ((64 * q.1 : Nat) : Int)) ∧ ∀ t ∈ q.2.2, t.2.2.length ≤ 64 * q.1) (fun q => c.sides.length - q.1)
   (0, [], []) ⟨rfl, rfl, rfl, rfl, rfl, rfl, rfl, trivial⟩ rfl rfl ⟨Nat.zero_le _, by simp [sumsC], by simp [metC, conM], by simp, by simp⟩ ?_
  rintro ⟨k, zl0, ms0⟩ ⟨hk, hz0, hm0, hzb0, hmb0⟩
  dsimp only at hk hz0 hm0 hzb0 hmb0 ⊢
  refine SC.seq (SC.region (SL.U (SU.lss rfl rfl) (SL.nil (ST.thenN (SC.seq ?_)))))
  refine SC.ifP rfl (fun hlt => ?_) (fun hlt => ?_)
  ·have hkl : k < c.sides.length := oM
   have hb1 := hx0 oM
   have hjx : c.sides[((k : Nat) : Int).toNat]? = some c.sides[k] := List.getElem?_eq_getElem hkl
   have htk : c.sides.take (k + 1) = c.sides.take k ++ [c.sides[k]] := List.take_succ_eq_append_getElem hkl
   have hmy : c.sides[k] ∈ c.sides := List.getElem_mem hkl
   have htkl : (c.sides.take k).length = k := by simp; omega
   generalize c.sides[k] = y at *
   obtain ⟨x, hx1, hx2, hx3⟩ := all2_look hall zeroCR y.cell
   obtain ⟨xi, xd, xp, xn, xc⟩ := x
   have hxs : SlA encSide g (.slice xp xn xc) (sidesOf tl y) := hx3.2.2
   have hxn : xn = (sidesOf tl y).length := Sl.slen hxs
   subst hxn
   have hysg := hsg y hmy
   obtain ⟨hyl, hyr⟩ := hin y hmy
   generalize hsy : sidesOf tl y = sy at hxs hyl hyr
   refine SC.skip (ST.thenN (SC.seq (SC.block (SC.seq (SC.region (SL.M rfl (SL.U (SU.indexAddr underlying49 sizeOf55 rfl rfl hb1 oM sL) (SL.K (SQ.elemA isAgg55 sizeOf55 rfl hcs.rd hjx) (SL.W (SO.alloc zeroValue55) ?_)))))))))
   rintro _ _ _ ⟨b8, rfl, rfl, rfl⟩
   refine SL.A rfl (SL.on (SO.storeAllK 0 sizeOf55 rfl rfl rfl rfl rfl (by exact ⟨rfl, rfl, trivial⟩)) ?_)
   rintro _ _ _ ⟨rfl, rfl⟩
   refine SL.nil (ST.thenN (SC.seq ?_))
   refine SC.draw [] [(0, 2), (1, 2), (2, 2), (3, 1), (4, 2), (5, 1), (6, 1), (7, 2), (8, 2), (9, 2)] Tryz.mixed (by kernel_rfl) ?_
   refine SP.U (i := 0) rfl (SU.move rfl) (SP.U (i := 1) rfl (SU.nilCheck rfl) (SP.U (i := 2) rfl (SU.fieldAddr underlying88 rfl sizeOf86 rfl) (SP.K (i := 3) rfl (SQ.load isAgg86 rfl (CellAt.known hb rfl)) (SP.U (i := 4) rfl (SU.fieldAddr underlying55 rfl sizeOf3 rfl) (SP.K (i := 5) rfl (SQ.load isAgg3 rfl (CellAt.own 0 rfl rfl)) (SP.K (i := 6) rfl (SQ.eq (v' := rcv ⟨xi, xd, xp, sy.length, xc⟩) (SQ.lookup mty86 rfl rfl (MapAt.known hm)) (by rw [hx1, hsy])) ?_))))))
   refine SP.U (i := 7) rfl (SU.field underlying51 rfl isAgg49 rfl rfl) (SP.U (i := 8) rfl (SU.lenN underlying49 rfl) (SP.U (i := 9) rfl (SU.move rfl) (SP.nil (ST.thenN (SC.block ?_)))))
   refine SC.loop (ι := Nat × List (Int × Int) × Ms) (fun q => [(0, pp b 0), (3, pp b3 0), (5, .map (some mz)), (6, .map (some mm)), (7, vi k), (8, pp b8 0), (21, .slice rp c.sides.length rcap), (22, vi c.sides.length), (23, vi k), (35, .slice xp sy.length xc), (36, vi sy.length), (37, vi q.1)]) (fun _ => g)
    (fun q => pt b8 (.cells #[vi y.cell, vi y.sign] 55 (0, 0)) :: mp mm (prsM q.2.2) :: mp mz (prsZ q.2.1) :: pt b3 (.cells #[vi ri, vi c.dim, .slice rp c.sides.length rcap] 51 (0, 0)) :: (rowsM q.2.2 ++ s))
    (fun q => q.1 ≤ sy.length ∧ q.2.1 = (sy.take q.1).foldl (stepZ y) zl0 ∧ conM q.2.2 = (sy.take q.1).foldl (stepL k) (metC tl (c.sides.take k)) ∧ (∀ p ∈ q.2.1, -((64 * k + q.1 : Nat) : Int) ≤ p.2 ∧ p.2 ≤ ((64 * k + q.1 : Nat) : Int)) ∧ ∀ t ∈ q.2.2, t.2.2.length ≤ 64 * k + q.1) (fun q => sy.length - q.1)
    (0, zl0, ms0) ⟨rfl, rfl, rfl, rfl, rfl, rfl, rfl, rfl, rfl, rfl, rfl, rfl, trivial⟩ rfl rfl ⟨Nat.zero_le _, by simp, by simp [hm0], by simpa using hzb0, by simpa using hmb0⟩ ?_
   rintro ⟨j, zl, ms⟩ ⟨hj, hz, hmm, hzb, hmb⟩
   dsimp only at hj hz hmm hzb hmb ⊢
   refine SC.seq (SC.region (SL.U (SU.lss rfl rfl) (SL.nil (ST.thenN (SC.seq ?_)))))
   refine SC.ifP rfl (fun hlt2 => ?_) (fun hlt2 => ?_)
   ·have hjl : j < sy.length := oM
    have hb2 := hxs.based oM
    have hjx2 : sy[((j : Nat) : Int).toNat]? = some sy[j] := List.getElem?_eq_getElem hjl
    have htj : sy.take (j + 1) = sy.take j ++ [sy[j]] := List.take_succ_eq_append_getElem hjl
    have hrsg := hyr _ (List.getElem_mem hjl)
    generalize sy[j] = z at *
    obtain ⟨ms', j0, u, lu, hp1, hp2, hp3, hp4, hp6, hp5⟩ := prep ms z.cell
    have hmb' := hp6 _ hmb
    have hlu := hmb' _ (List.mem_of_getElem? hp1)
    dsimp only at hlu
    have hgb := getZ_bound oM hzb z.cell
    have hpr := sign_mul hysg hrsg
    refine SC.to (fun w hw => hp5 E g [pt b8 (.cells #[vi y.cell, vi y.sign] 55 (0, 0)), mp mm (prsM ms), mp mz (prsZ zl), pt b3 (.cells #[vi ri, vi c.dim, .slice rp c.sides.length rcap] 51 (0, 0))] s w hw) ?_
    refine SC.skip (ST.thenN (SC.seq (SC.block (SC.seq (SC.region (SL.U (SU.indexAddr underlying49 sizeOf55 rfl rfl hb2 oM sL) (SL.K (SQ.elemA isAgg55 sizeOf55 rfl hxs.rd hjx2) (SL.W (SO.alloc zeroValue55) ?_))))))))
    rintro _ _ _ ⟨b10, rfl, rfl, rfl⟩
    refine SL.on (SO.storeAllK 0 sizeOf55 rfl rfl rfl rfl rfl (by exact ⟨rfl, rfl, trivial⟩)) ?_
    rintro _ _ _ ⟨rfl, rfl⟩
    refine SL.nil (ST.thenN (SC.seq (SC.region (SL.M rfl (SL.U (SU.fieldAddr underlying55 rfl sizeOf3 rfl) (SL.K (SQ.load isAgg3 rfl (CellAt.own 0 rfl rfl)) (SL.K (SQ.eq (v' := vi (getZ zl z.cell)) (SQ.lookup mty117 rfl rfl (MapAt.own 3 rfl)) (getZ_map zl _)) (SL.U (SU.fieldAddr underlying55 rfl sizeOf3 rfl) (SL.K (SQ.load isAgg3 rfl (CellAt.own 1 rfl rfl)) (SL.U (SU.fieldAddr underlying55 rfl sizeOf3 rfl) (SL.K (SQ.load isAgg3 rfl (CellAt.own 0 rfl rfl)) (SL.U (SU.mul (m := y.sign) (n := z.sign) rfl rfl oM) (SL.U (SU.add (m := getZ zl z.cell) (n := y.sign * z.sign) rfl rfl oM) (SL.on (SO.mapUpdate 3 mty117 rfl rfl rfl rfl) ?_))))))))))))))
    rintro _ _ _ ⟨rfl, rfl⟩
    rw [addZ_map]
    refine SL.nil (ST.thenN ?_)
    refine SC.drawT 5 [10] [(0, 2), (1, 2), (2, 1), (3, 2), (4, 2), (5, 1), (6, 1), (7, 2), (8, 0), (9, 0), (10, 0)] Tryz.mixed (by kernel_rfl) ?_
    refine SP.U (i := 0) rfl (SU.move rfl) (SP.U (i := 1) rfl (SU.fieldAddr underlying55 rfl sizeOf3 rfl) (SP.K (i := 2) rfl (SQ.load isAgg3 rfl (CellAt.own 0 rfl rfl)) (SP.U (i := 3) rfl (SU.move rfl) (SP.U (i := 4) rfl (SU.fieldAddr underlying55 rfl sizeOf3 rfl) (SP.K (i := 5) rfl (SQ.load isAgg3 rfl (CellAt.own 0 rfl rfl)) (SP.K (i := 6) rfl (SQ.eq (SQ.lookup mty118 rfl rfl (MapAt.own 2 rfl)) hp2) (SP.U (i := 7) rfl (SU.move rfl) (SP.o (i := 8) rfl (SO.buildSlice sty45 rfl rfl rfl (szs_mk (by exact ⟨rfl, trivial⟩)) dC) dC (.inr (by rintro _ _ _ ⟨b59, rfl, rfl, rfl⟩; exact ⟨by exact Le.refl _, (by exact .cons _ (List.take_sublist _ _))⟩)) ?_))))))))
    rintro _ _ _ ⟨b59, rfl, rfl, rfl⟩
    refine SP.o (i := 9) rfl (SO.app1 (j0 + 5) ((lu ++ [(k : Int)]).flatMap encInt.enc) (lu ++ [(k : Int)]).length sty45 rfl rfl rfl (rows_get hp1 s) rfl ⟨rfl, trivial⟩ (by simp [encInt]; rfl) (by simp) lN lN) dC (.inr (by rintro u' _ _ ⟨rfl, rfl⟩; exact ⟨by exact Le.refl _, (by exact take_set_sub _ _ _ _)⟩)) ?_
    rintro u' _ _ ⟨rfl, rfl⟩
    refine SP.on (i := 10) rfl (SO.mapUpdate 2 mty118 rfl rfl rfl rfl) (.inl dC) ?_
    rintro _ _ _ ⟨rfl, rfl⟩
    refine SP.nil (ST.blockN (ST.thenN (SC.region (SL.U (SU.add rfl rfl oM) (SL.M rfl (SL.nil ?_))))))
    refine ST.drop (s' := pt b8 (.cells #[vi y.cell, vi y.sign] 55 (0, 0)) :: mp mm (prsM (ms'.set j0 (z.cell, u', lu ++ [(k : Int)]))) :: mp mz (prsZ (addZ zl z.cell (y.sign * z.sign))) :: pt b3 (.cells #[vi ri, vi c.dim, .slice rp c.sides.length rcap] 51 (0, 0)) :: (rowsM (ms'.set j0 (z.cell, u', lu ++ [(k : Int)])) ++ s)) (by
     rw [← hp3 u' k, ← rows_set (v' := u') (l' := lu ++ [(k : Int)]) hp1 s]
     exact .cons _ (.refl _)) ?_
    exact ST.again (j + 1, addZ zl z.cell (y.sign * z.sign), ms'.set j0 (z.cell, u', lu ++ [(k : Int)])) ⟨rfl, rfl, rfl, rfl, rfl, rfl, rfl, rfl, rfl, rfl, rfl, rfl, trivial⟩ rfl rfl ⟨lN, by rw [htj, List.foldl_append, ← hz]; rfl, by rw [htj, List.foldl_append, ← hmm, hp4]; rfl, by
      have := addZ_bound oM hzb z.cell (x := y.sign * z.sign) oM
      intro p hp
      have := this p hp
      dsimp only at *
      omega, fun t ht => by
      dsimp only at *
      rcases List.mem_or_eq_of_mem_set ht with h | h
      ·have := hmb' t h; omega
      ·subst h; simp; omega⟩ lN
   ·refine SC.exit (ST.thenX (ST.thenX (ST.blockX (ST.blockN (ST.thenN (SC.region (SL.U (SU.add rfl rfl oM) (SL.M rfl (SL.nil ?_)))))))))
    have hjj : sy.take j = sy := List.take_of_length_le oM
    rw [hjj] at hz hmm
    refine ST.drop (s' := mp mm (prsM ms) :: mp mz (prsZ zl) :: pt b3 (.cells #[vi ri, vi c.dim, .slice rp c.sides.length rcap] 51 (0, 0)) :: (rowsM ms ++ s)) (.cons _ (.refl _)) ?_
    exact ST.again (k + 1, zl, ms) ⟨rfl, rfl, rfl, rfl, rfl, rfl, rfl, trivial⟩ rfl rfl ⟨lN, by rw [htk, sumsC_succ, hsy, ← hz0]; exact hz, by rw [htk, metC_succ, hsy, htkl]; exact hmm, by
      intro p hp
      have := hzb p hp
      dsimp only at *
      omega, fun t ht => by have := hmb t ht; dsimp only at *; omega⟩ lN
  ·refine SC.exit (ST.thenX (ST.thenX (ST.blockX ?_)))
   have hkk : c.sides.take k = c.sides := List.take_of_length_le oM
   rw [hkk] at hz0 hm0
   exact ST.mid (zl0, ms0) ⟨rfl, rfl, rfl, trivial⟩ rfl rfl ⟨hz0, hm0, fun t ht => by have := hmb0 t ht; omega⟩
 ·rintro ⟨zl, ms⟩ ⟨hz, hmc, hmlen⟩
  dsimp only at hz hmc hmlen ⊢
  refine SC.perm (List.Perm.swap _ _ _) (SC.freezeMap fun g1 hl1 hmz => ?_)
  refine SC.freezeMap fun g2 hl2 hmm => ?_
  refine SC.perm List.perm_middle.symm (SC.freezeRows fun g3 hl3 hrows => ?_)
  obtain ⟨es1, clk1, hes1, hmi1⟩ := hmz.mono (hl2.trans hl3)
  obtain ⟨es2, clk2, hes2, hmi2⟩ := hmm.mono hl3
  have hle3 := hl1.trans (hl2.trans hl3)
  have hmsl : ms.length ≤ 4096 := by
   have h1 := metC_length (tl := tl) (l := c.sides) (fun x hx => (hin x hx).1)
   rw [← hmc] at h1
   have h2 : (conM ms).length = ms.length := by simp [conM]
   omega
  refine SC.seq (SC.seq (SC.region (SL.M rfl (SL.W (SO.range underlying117 rfl hes1) ?_))))
  rintro _ _ _ ⟨it, rfl, rfl, rfl⟩
  refine SL.nil (ST.thenN (SC.block ?_))
  refine SC.loop (ι := List MapEntry × List (Int × Value)) (fun _ => [(3, pp b3 0), (6, .map (some mm)), (64, pp it 0)]) (fun _ => g3)
   (fun q => iter it mz es1 clk1 q.1 :: pt b3 (.cells #[vi ri, vi c.dim, .slice rp c.sides.length rcap] 51 (0, 0)) :: s)
   (fun q => RVis (prsZ zl) es1 q.1 q.2 ∧ ∀ p ∈ q.2, p.2 = vi 0) (fun q => zl.length - q.2.length) ([], []) ⟨rfl, rfl, rfl, trivial⟩ rfl rfl ⟨RVis.nil _ _, by simp⟩ ?_
  rintro ⟨vis, vl⟩ ⟨hrv, hvz⟩
  dsimp only at hrv hvz ⊢
  refine SC.seq (SC.region (SL.W (SO.nextP 0 rfl rfl hes1 hmi1 hrv) ?_))
  rintro _ _ _ ⟨rfl, hcase⟩
  rcases hcase with ⟨rfl, rfl, hperm⟩ | ⟨e, pr, he, hq1, hk1, hv1, hrv2, rfl, rfl⟩
  ·have hz0 : (sumsC tl c.sides).any (fun p => decide (p.2 ≠ 0)) = false := by
    rw [List.any_eq_false]
    intro p hp
    rw [← hz] at hp
    have := hvz (p.1, vi p.2) (hperm.symm.subset (List.mem_map.2 ⟨p, hp, rfl⟩))
    simpa using this
   refine SL.U (SU.extract rfl rfl) (SL.nil (ST.thenN (SC.seq (SC.condF rfl (SC.exit (ST.thenX (ST.thenX (ST.blockX (ST.thenN (SC.seq (SC.drop (s' := pt b3 (.cells #[vi ri, vi c.dim, .slice rp c.sides.length rcap] 51 (0, 0)) :: s) (.cons _ (.refl _)) (SC.region (SL.W (SO.mkMap) ?_)))))))))))))
   rintro _ _ _ ⟨mj, rfl, rfl, rfl⟩
   refine SL.W (SO.alloc zeroValue118) ?_
   rintro _ _ _ ⟨b13, rfl, rfl, rfl⟩
   refine SL.on (SO.storeAllK 0 sizeOf118 rfl rfl rfl rfl rfl (by exact ⟨rfl, trivial⟩)) ?_
   rintro _ _ _ ⟨rfl, rfl⟩
   refine SL.nil (ST.thenN (SC.seq (SC.seq (SC.region (SL.M rfl (SL.W (SO.range underlying118 rfl hes2) ?_))))))
   rintro _ _ _ ⟨it2, rfl, rfl, rfl⟩
   refine SL.nil (ST.thenN (SC.block ?_))
   refine SC.loop (ι := List MapEntry × List (Int × Value) × Ms × Ms) (fun _ => [(3, pp b3 0), (13, pp b13 0), (73, pp it2 0)]) (fun _ => g3)
    (fun q => iter it2 mm es2 clk2 q.1 :: pt b13 (.cells #[.map (some mj)] 118 (0, 0)) :: mp mj (prsM q.2.2.2) :: pt b3 (.cells #[vi ri, vi c.dim, .slice rp c.sides.length rcap] 51 (0, 0)) :: (rowsM q.2.2.2 ++ s))
    (fun q => RVis (prsM ms) es2 q.1 q.2.1 ∧ q.2.1 = prsM q.2.2.1 ∧ (∀ t ∈ q.2.2.1, t ∈ ms ∧ t.2.2.length = 2) ∧ conM q.2.2.2 = joinC (conM q.2.2.1) ∧ ∀ t ∈ q.2.2.2, t.2.2.length ≤ 2 * q.2.2.1.length) (fun q => ms.length - q.2.1.length) ([], [], [], []) ⟨rfl, rfl, rfl, trivial⟩ rfl rfl ⟨RVis.nil _ _, rfl, by simp, rfl, by simp⟩ ?_
   rintro ⟨vis2, vl2, vt, js⟩ ⟨hrv3, hvl2, hvt, hjs, hjb⟩
   dsimp only at hrv3 hvl2 hvt hjs hjb ⊢
   have hvtl : vt.length ≤ ms.length := by have := hrv3.len hmi2; rw [hvl2] at this; simpa [prsM] using this
   refine SC.seq (SC.region (SL.W (SO.nextP 0 rfl rfl hes2 hmi2 hrv3) ?_))
   rintro _ _ _ ⟨rfl, hcase2⟩
   rcases hcase2 with ⟨rfl, rfl, hperm2⟩ | ⟨e2, pr2, he2, hq2, hk2, hv2, hrv4, rfl, rfl⟩
   ·have hpm : (conM vt).Perm (metC tl c.sides) := by
     rw [← hmc]
     have hn : (ms.map fun t => t.1).Nodup := by
      have := metC_nodup tl c.sides
      rw [← hmc] at this
      simpa [conM, List.map_map, Function.comp_def] using this
     have h1 := hperm2.map Prod.fst
     rw [hvl2] at h1
     simp only [prsM, List.map_map, Function.comp_def] at h1
     exact (perm_of_key (fun t => t.1) (fun t ht => (hvt t ht).1) h1 hn).map _
    have hreg : (metC tl c.sides).any (fun p => decide ((p.2.length : Int) ≠ 2)) = false := by
     rw [List.any_eq_false]
     intro p hp
     obtain ⟨t, ht, rfl⟩ := List.mem_map.1 (hpm.symm.subset hp)
     have := (hvt t ht).2
     simp [this]
    have hjlen : ∀ t ∈ js, t.2.2.length < 1099511627776 := fun t ht => by
     have h1 := hjb t ht
     omega
    refine SL.U (SU.extract rfl rfl) (SL.nil (ST.thenN (SC.seq (SC.condF rfl (SC.exit (ST.thenX (ST.thenX (ST.blockX (ST.thenN (SC.seq (SC.drop (.cons _ (.refl _)) (SC.freeze fun g4 hl4 hb13 => ?_))))))))))))
    refine SC.freezeMap fun g5 hl5 hmj => ?_
    refine SC.perm List.perm_middle.symm (SC.freezeRows fun g6 hl6 hjrows => ?_)
    refine SC.region (SL.W (SO.mkMap) ?_)
    rintro _ _ _ ⟨sm, rfl, rfl, rfl⟩
    refine SL.W (SO.alloc zeroValue96) ?_
    rintro _ _ _ ⟨b16, rfl, rfl, rfl⟩
    refine SL.on (SO.storeAllK 0 sizeOf96 rfl rfl rfl rfl rfl ⟨rfl, trivial⟩) ?_
    rintro _ _ _ ⟨rfl, rfl⟩
    refine SL.freeze fun g7 hl7 hb16 => ?_
    refine SL.nil (ST.thenN (SC.seq (SC.region (SL.W (SO.alloc zeroValue119) ?_))))
    rintro _ _ _ ⟨b17, rfl, rfl, rfl⟩
    refine SL.nil (ST.thenN (SC.seq (SC.region (SL.U (SU.mkFunc rfl) (SL.on (SO.storeAllK 0 sizeOf119 rfl rfl rfl rfl rfl ⟨rfl, trivial⟩) ?_)))))
    rintro _ _ _ ⟨rfl, rfl⟩
    refine SL.freeze fun g8 hl8 hb17 => ?_
    refine SL.nil (ST.thenN (SC.seq (SC.region (SL.K (SQ.load isAgg119 rfl (CellAt.known hb17 rfl)) (SL.W (SO.callV rfl rfl (CallV.mk (cap := [pp b16 0, pp b13 0, pp b17 0]) call92 (visit_spec E g8 b16 b13 b17 sm mj js (hmj.mono (hl6.trans (hl7.trans hl8))) (fun t ht => (hjrows t ht).mono (hl7.trans hl8)) hjlen (hl8 _ _ hb16) ((hl5.trans (hl6.trans (hl7.trans hl8))) _ _ hb13) hb17 ((conM js).length + 1) 0 [] _ 0 (Nat.lt_succ_of_le (List.length_filter_le _ _)) rfl))) ?_)))))
    rintro _ _ _ ⟨rfl, rfl⟩
    refine SL.nil (ST.thenN (SC.seq (SC.seq (SC.region (SL.K (SQ.load isAgg96 rfl (CellAt.known (hl8 _ _ hb16) rfl)) (SL.K (SQ.lenMap underlying96 rfl (MapAt.own 0 rfl)) (SL.U (SU.fieldAddr underlying51 rfl sizeOf49 rfl) (SL.K (SQ.load isAgg49 rfl (CellAt.own 1 rfl rfl)) (SL.U (SU.lenN underlying49 rfl) (SL.U (SU.neq rfl rfl) (SL.nil (ST.thenN ?_))))))))))))
    have hseen : (setP (dfs (adjJ (conM js)) ((conM js).length + 1) 0 [])).length = (seenC (joinC (metC tl c.sides))).length := by
     rw [← seen_perm hpm, ← hjs]
     simp [setP, seenC]
    rw [hseen]
    have hlast := hle3.trans (hl4.trans (hl5.trans (hl6.trans (hl7.trans hl8))))
    refine SC.ifP rfl (fun hne => ?_) (fun hne => ?_)
    ·refine SC.seq (SC.region (SL.A rfl (SL.nil (ST.thenN (SC.ret (ST.thenR ?_))))))
     refine ST.drop (s' := s) (.cons _ (.cons _ (.refl _))) (ST.less hlast ?_)
     exact ST.ret1 (.inl rfl) results52 rfl ⟨by unfold aroundC; rw [if_neg (by rw [hz0]; exact Bool.false_ne_true), if_neg (by rw [hreg]; exact Bool.false_ne_true), if_pos hne], rfl, rfl⟩
    ·refine SC.skip (ST.thenN (SC.seq (SC.region (SL.A rfl (SL.nil (ST.thenN (SC.ret ?_)))))))
     refine ST.drop (s' := s) (.cons _ (.cons _ (.refl _))) (ST.less hlast ?_)
     exact ST.ret1 (.inl rfl) results52 rfl ⟨by unfold aroundC; rw [if_neg (by rw [hz0]; exact Bool.false_ne_true), if_neg (by rw [hreg]; exact Bool.false_ne_true), if_neg hne], rfl, rfl⟩
   ·obtain ⟨⟨tk, tv, tl2⟩, ht, rfl⟩ := List.mem_map.1 hq2
    have hti : Ints g3 tv tl2 := hrows _ ht
    have htl : tl2.length ≤ 4096 := hmlen _ ht
    obtain ⟨tp, tc, rfl⟩ := SlA.form hti
    refine SL.U (SU.extract rfl rfl) (SL.nil (ST.thenN (SC.seq (SC.condT rfl (SC.skip (ST.thenN (SC.block (SC.seq (SC.region (SL.K (SQ.entryP 0 rfl rfl hes2 hmi2 he2 hk2 hv2) (SL.U (SU.extract rfl rfl) (SL.A rfl (SL.nil (ST.thenN (SC.seq (SC.seq (SC.region (SL.M rfl (SL.U (SU.lenN underlying45 rfl) (SL.U (SU.neq rfl rfl) (SL.nil (ST.thenN ?_))))))))))))))))))))))
    refine SC.ifP rfl (fun hne2 => ?_) (fun hne2 => ?_)
    ·refine SC.seq (SC.region (SL.A rfl (SL.nil (ST.thenN (SC.ret (ST.thenR (ST.blockR (ST.thenR (ST.blockR (ST.thenR ?_))))))))))
     refine ST.drop (s' := s) (.cons _ (.cons _ (.cons _ (.cons _ (List.sublist_append_right _ _))))) (ST.less hle3 ?_)
     have hany : (metC tl c.sides).any (fun p => decide ((p.2.length : Int) ≠ 2)) = true := by
      rw [← hmc, List.any_eq_true]
      exact ⟨(tk, tl2), List.mem_map.2 ⟨_, ht, rfl⟩, by simpa using hne2⟩
     exact ST.ret1 (.inl rfl) results52 rfl ⟨by unfold aroundC; rw [if_neg (by rw [hz0]; exact Bool.false_ne_true), if_pos hany], rfl, rfl⟩
    ·obtain ⟨a, bb, rfl⟩ : ∃ a bb, tl2 = [a, bb] := by
      match tl2, hne2 with
      | [], h => exact absurd (by simp) h
      | [_], h => exact absurd (by simp) h
      | [a, bb], _ => exact ⟨a, bb, rfl⟩
      | _ :: _ :: _ :: q, h => exact absurd (by simp only [List.length_cons]; omega) h
     have hbt := SlA.based hti (by simp)
     obtain ⟨js', j0, u0, lu, hp1, hp2, hp3, hp4, hp6, hp5⟩ := prep js a
     have hjb' := hp6 _ hjb
     have hlu := hjb' _ (List.mem_of_getElem? hp1)
     dsimp only at hlu
     refine SC.skip (ST.thenN (SC.seq ?_))
     refine SC.to (fun w hw => hp5 E g3 [iter it2 mm es2 clk2 (vis2 ++ [e2]), pt b13 (.cells #[.map (some mj)] 118 (0, 0)), mp mj (prsM js), pt b3 (.cells #[vi ri, vi c.dim, .slice rp c.sides.length rcap] 51 (0, 0))] s w hw) ?_
     refine SC.drawT 4 [14] [(0, 1), (1, 2), (2, 2), (3, 1), (4, 1), (5, 2), (6, 2), (7, 1), (8, 1), (9, 2), (10, 2), (11, 1), (12, 0), (13, 0), (14, 0)] Tryz.mixed (by kernel_rfl) ?_
     refine SP.K (i := 0) rfl (SQ.load isAgg118 rfl (CellAt.own 1 rfl rfl)) (SP.U (i := 1) rfl (SU.move rfl) (SP.U (i := 2) rfl (SU.indexAddr underlying45 sizeOf3 rfl rfl hbt dC (show (0 : Int) < ((2 : Nat) : Int) by decide)) ?_))
     refine SP.K (i := 3) rfl (SQ.elem1 isAgg3 rfl (SlA.rd hti) (j := 0) rfl rfl) (SP.K (i := 4) rfl (SQ.load isAgg118 rfl (CellAt.own 1 rfl rfl)) (SP.U (i := 5) rfl (SU.move rfl) (SP.U (i := 6) rfl (SU.indexAddr underlying45 sizeOf3 rfl rfl hbt dC (show (0 : Int) < ((2 : Nat) : Int) by decide)) ?_)))
     refine SP.K (i := 7) rfl (SQ.elem1 isAgg3 rfl (SlA.rd hti) (j := 0) rfl rfl) (SP.K (i := 8) rfl (SQ.eq (SQ.lookup mty118 rfl rfl (MapAt.own 2 rfl)) hp2) (SP.U (i := 9) rfl (SU.move rfl) (SP.U (i := 10) rfl (SU.indexAddr underlying45 sizeOf3 rfl rfl hbt dC (show (1 : Int) < ((2 : Nat) : Int) by decide)) ?_)))
     refine SP.K (i := 11) rfl (SQ.elem1 isAgg3 rfl (SlA.rd hti) (j := 1) rfl rfl) (SP.o (i := 12) rfl (SO.buildSlice sty45 rfl rfl rfl (szs_mk (by exact ⟨rfl, trivial⟩)) dC) dC (.inr (by rintro _ _ _ ⟨b93, rfl, rfl, rfl⟩; exact ⟨by exact Le.refl _, (by exact .cons _ (List.take_sublist _ _))⟩)) ?_)
     rintro _ _ _ ⟨b93, rfl, rfl, rfl⟩
     refine SP.o (i := 13) rfl (SO.app1 (j0 + 4) ((lu ++ [bb]).flatMap encInt.enc) (lu ++ [bb]).length sty45 rfl rfl rfl (rows_get hp1 s) rfl ⟨rfl, trivial⟩ (by simp [encInt]; rfl) (by simp) lN lN) dC (.inr (by rintro u1 _ _ ⟨rfl, rfl⟩; exact ⟨by exact Le.refl _, (by exact take_set_sub _ _ _ _)⟩)) ?_
     rintro u1 _ _ ⟨rfl, rfl⟩
     refine SP.on (i := 14) rfl (SO.mapUpdate 2 mty118 rfl rfl rfl rfl) (.inl dC) ?_
     rintro _ _ _ ⟨rfl, rfl⟩
     refine SP.nil (ST.thenN (SC.drop (s' := [iter it2 mm es2 clk2 (vis2 ++ [e2]), pt b13 (.cells #[.map (some mj)] 118 (0, 0)), mp mj (prsM (js'.set j0 (a, u1, lu ++ [bb]))), pt b3 (.cells #[vi ri, vi c.dim, .slice rp c.sides.length rcap] 51 (0, 0))] ++ (rowsM (js'.set j0 (a, u1, lu ++ [bb])) ++ s)) (by rw [← hp3 u1 bb, ← rows_set (v' := u1) (l' := lu ++ [bb]) hp1 s]; exact .refl _) ?_))
     have hjb1 : ∀ t ∈ (js'.set j0 (a, u1, lu ++ [bb])), t.2.2.length ≤ 2 * vt.length + 1 := fun t ht => (by rcases List.mem_or_eq_of_mem_set ht with h | h; (have := hjb' t h; omega); (subst h; simp; omega))
     obtain ⟨js2, j1, u2, lw, hq1, hq2', hq3, hq4, hq6, hq5⟩ := prep (js'.set j0 (a, u1, lu ++ [bb])) bb
     have hjb2 := hq6 _ hjb1
     have hlw := hjb2 _ (List.mem_of_getElem? hq1)
     dsimp only at hlw
     refine SC.to (fun w hw => hq5 E g3 [iter it2 mm es2 clk2 (vis2 ++ [e2]), pt b13 (.cells #[.map (some mj)] 118 (0, 0)), mp mj (prsM (js'.set j0 (a, u1, lu ++ [bb]))), pt b3 (.cells #[vi ri, vi c.dim, .slice rp c.sides.length rcap] 51 (0, 0))] s w hw) ?_
     refine SC.drawT 4 [14] [(0, 1), (1, 2), (2, 2), (3, 1), (4, 1), (5, 2), (6, 2), (7, 1), (8, 1), (9, 2), (10, 2), (11, 1), (12, 0), (13, 0), (14, 0)] Tryz.mixed (by kernel_rfl) ?_
     refine SP.K (i := 0) rfl (SQ.load isAgg118 rfl (CellAt.own 1 rfl rfl)) (SP.U (i := 1) rfl (SU.move rfl) (SP.U (i := 2) rfl (SU.indexAddr underlying45 sizeOf3 rfl rfl hbt dC (show (1 : Int) < ((2 : Nat) : Int) by decide)) ?_))
     refine SP.K (i := 3) rfl (SQ.elem1 isAgg3 rfl (SlA.rd hti) (j := 1) rfl rfl) (SP.K (i := 4) rfl (SQ.load isAgg118 rfl (CellAt.own 1 rfl rfl)) (SP.U (i := 5) rfl (SU.move rfl) (SP.U (i := 6) rfl (SU.indexAddr underlying45 sizeOf3 rfl rfl hbt dC (show (1 : Int) < ((2 : Nat) : Int) by decide)) ?_)))
     refine SP.K (i := 7) rfl (SQ.elem1 isAgg3 rfl (SlA.rd hti) (j := 1) rfl rfl) (SP.K (i := 8) rfl (SQ.eq (SQ.lookup mty118 rfl rfl (MapAt.own 2 rfl)) hq2') (SP.U (i := 9) rfl (SU.move rfl) (SP.U (i := 10) rfl (SU.indexAddr underlying45 sizeOf3 rfl rfl hbt dC (show (0 : Int) < ((2 : Nat) : Int) by decide)) ?_)))
     refine SP.K (i := 11) rfl (SQ.elem1 isAgg3 rfl (SlA.rd hti) (j := 0) rfl rfl) (SP.o (i := 12) rfl (SO.buildSlice sty45 rfl rfl rfl (szs_mk (by exact ⟨rfl, trivial⟩)) dC) dC (.inr (by rintro _ _ _ ⟨b107, rfl, rfl, rfl⟩; exact ⟨by exact Le.refl _, (by exact .cons _ (List.take_sublist _ _))⟩)) ?_)
     rintro _ _ _ ⟨b107, rfl, rfl, rfl⟩
     refine SP.o (i := 13) rfl (SO.app1 (j1 + 4) ((lw ++ [a]).flatMap encInt.enc) (lw ++ [a]).length sty45 rfl rfl rfl (rows_get hq1 s) rfl ⟨rfl, trivial⟩ (by simp [encInt]; rfl) (by simp) lN lN) dC (.inr (by rintro u3 _ _ ⟨rfl, rfl⟩; exact ⟨by exact Le.refl _, (by exact take_set_sub _ _ _ _)⟩)) ?_
     rintro u3 _ _ ⟨rfl, rfl⟩
     refine SP.on (i := 14) rfl (SO.mapUpdate 2 mty118 rfl rfl rfl rfl) (.inl dC) ?_
     rintro _ _ _ ⟨rfl, rfl⟩
     refine SP.nil (ST.blockN (ST.drop (s' := [iter it2 mm es2 clk2 (vis2 ++ [e2]), pt b13 (.cells #[.map (some mj)] 118 (0, 0)), mp mj (prsM (js2.set j1 (bb, u3, lw ++ [a]))), pt b3 (.cells #[vi ri, vi c.dim, .slice rp c.sides.length rcap] 51 (0, 0))] ++ (rowsM (js2.set j1 (bb, u3, lw ++ [a])) ++ s)) (by rw [← hq3 u3 a, ← rows_set (v' := u3) (l' := lw ++ [a]) hq1 s]; exact .refl _) ?_))
     exact ST.again (vis2 ++ [e2], vl2 ++ [(tk, .slice tp 2 tc)], vt ++ [(tk, .slice tp 2 tc, [a, bb])], js2.set j1 (bb, u3, lw ++ [a])) ⟨rfl, rfl, rfl, trivial⟩ rfl rfl ⟨hrv4, by rw [hvl2]; simp [prsM], fun t ht2 => by
       rcases List.mem_append.1 ht2 with h | h
       ·exact hvt t h
       ·simp at h; subst h; exact ⟨ht, rfl⟩, by rw [hq4, hp4, hjs]; simp [joinC, conM, joinStep], fun t ht2 => by
       simp only [List.length_append, List.length_singleton]
       rcases List.mem_or_eq_of_mem_set ht2 with h | h
       ·have := hjb2 t h; omega
       ·subst h; simp; omega⟩ (by
       have := hrv4.len hmi2
       simp only [prsM, List.length_map, List.length_append, List.length_singleton] at this ⊢
       omega)
  ·obtain ⟨zp, hzp, rfl⟩ := List.mem_map.1 hq1
   refine SL.U (SU.extract rfl rfl) (SL.nil (ST.thenN (SC.seq (SC.condT rfl (SC.skip (ST.thenN (SC.block (SC.seq (SC.region (SL.K (SQ.entryP 0 rfl rfl hes1 hmi1 he hk1 hv1) (SL.U (SU.extract rfl rfl) (SL.A rfl (SL.nil (ST.thenN (SC.seq (SC.region (SL.M rfl (SL.U (SU.neq rfl rfl) (SL.nil (ST.thenN ?_))))))))))))))))))))
   refine SC.ifP rfl (fun hne => ?_) (fun hne => ?_)
   ·refine SC.seq (SC.region (SL.A rfl (SL.nil (ST.thenN (SC.ret (ST.blockR (ST.thenR (ST.blockR (ST.thenR ?_)))))))))
    refine ST.drop (s' := s) (.cons _ (.cons _ (.refl _))) (ST.less hle3 ?_)
    have hany : (sumsC tl c.sides).any (fun p => decide (p.2 ≠ 0)) = true := by
     rw [← hz, List.any_eq_true]
     exact ⟨zp, hzp, by simpa using hne⟩
    exact ST.ret1 (.inl rfl) results52 rfl ⟨by unfold aroundC; rw [if_pos hany], rfl, rfl⟩
   ·refine SC.skip (ST.blockN ?_)
    exact ST.again (vis ++ [e], vl ++ [(zp.1, vi zp.2)]) ⟨rfl, rfl, rfl, trivial⟩ rfl rfl ⟨hrv2, fun p hp => by
     rcases List.mem_append.1 hp with h | h
     ·exact hvz p h
     ·simp at h; subst h
      have : zp.2 = 0 := by simpa using hne
      simp [this]⟩ (by
     have := hrv2.len hmi1
     simp only [prsZ, List.length_map, List.length_append, List.length_singleton] at this ⊢
     omega)
def chk1 (tl : List Cl) : List Cl → Int → Option (Int × Int)
 | [], _ => none
 | x :: r, last => if x.id ≤ last then some (x.id, 20) else if formC tl x ≠ 0 then some (x.id, formC tl x) else chk1 tl r x.id
def chk2 (tl : List Cl) : List Cl → Option (Int × Int)
 | [] => none
 | x :: r => if x.dim > 1 ∧ aroundC tl x ≠ 0 then some (x.id, aroundC tl x) else chk2 tl r
def checkC (l : List Cl) : Int × Int := if (l.length : Int) > 4000 then (0, 2) else (chk1 (tabC l) (canonC l) 0).getD ((chk2 (tabC l) (canonC l)).getD (0, 0))
theorem form_ok {tl : List Cl} {c : Cl} (h : formC tl c = 0) : c.sides.length ≤ 64 ∧ ∀ x ∈ c.sides, x.sign = 1 ∨ x.sign = -1 := by
 unfold formC at h
 split at h
 ·simp at h
 ·rename_i hdb
  split at h
  ·simp at h
  ·rename_i hcb
   split at h
   ·simp at h
   ·split at h
    ·simp at h
    ·rename_i hsg
     refine ⟨?_, fun x hx => ?_⟩
     ·simp [dimBad] at hdb
      simp [cntBad] at hcb
      rcases Int.lt_trichotomy c.dim 1 with h | h | h
      ·have : c.dim = 0 := oM
       have := hcb.1.1 this
       simp [this]
      ·have := hcb.1.2 h
       omega
      ·have := hcb.2 h
       omega
     ·have h1 : c.sides.any signBad = false := by simpa using hsg
      rw [List.any_eq_false] at h1
      have h2 := h1 x hx
      simp only [signBad, Bool.and_eq_true, decide_eq_true_eq, ne_eq, not_and, Decidable.not_not] at h2
      by_cases h3 : x.sign = 1
      ·exact .inl h3
      ·exact .inr (h2 h3)
theorem chk1_none {tl : List Cl} : ∀ {l : List Cl} {last : Int}, chk1 tl l last = none → ∀ x ∈ l, formC tl x = 0
 | [], _, _, x, hx => by simp at hx
 | y :: r, last, h, x, hx => by
  unfold chk1 at h
  split at h
  ·simp at h
  ·split at h
   ·simp at h
   ·rename_i h0
    rcases List.mem_cons.1 hx with rfl | hx
    ·exact Decidable.of_not_not h0
    ·exact chk1_none h x hx
theorem aok_of {l : List Cl} (h : ∀ x ∈ canonC l, formC (tabC l) x = 0) {c : Cl} (hc : c ∈ canonC l) : AOk (tabC l) c := by
 obtain ⟨h1, h2⟩ := form_ok (h c hc)
 refine ⟨h1, h2, fun x hx => ?_⟩
 unfold sidesOf
 cases hf : findT (tabC l) x.cell with
 | none => simp [zeroC]
 | some y => exact form_ok (h y (tabC_mem (findT_mem hf).1))
theorem check_spec (E : World) (g : PH) (s : Own) (v : Value) (l : List Cl) (hv : Cells g v l) (hf : Fits l) :
  Ctr Tryz.prog E 12 #[.agg #[v]] g s (fun r g' s' => r = .tuple #[vi (checkC l).1, vi (checkC l).2] ∧ g = g' ∧ s = s') := by
 have hfc := canonC_fits hf
 have hfl := hf.1
 obtain ⟨p, cp, hvf⟩ := hv.form
 subst hvf
 refine Ctr.of (args := [.agg #[.slice p l.length cp]]) func12 rfl ntmps12 (Nat.le_of_ble_eq_true rfl) ?_
 refine SC.seq (SC.region (SL.W (SO.box rfl) ?_))
 rintro _ _ _ ⟨b1, rfl, rfl, rfl⟩
 refine SL.A rfl (SL.A rfl (SL.nil (ST.thenN (SC.seq (SC.seq (SC.region (SL.U (SU.fieldAddr underlying27 rfl sizeOf25 rfl) (SL.K (SQ.load isAgg25 rfl (CellAt.own 0 rfl rfl)) (SL.U (SU.lenN underlying25 rfl) (SL.U (SU.gtr rfl rfl) (SL.nil (ST.thenN ?_))))))))))))
 refine SC.ifP rfl (fun hbig => ?_) (fun hbig => ?_)
 ·refine SC.seq (SC.region (SL.A rfl (SL.A rfl (SL.nil (ST.thenN (SC.ret (ST.thenR (ST.drop (s' := s) (.cons _ (.refl _)) ?_))))))))
  exact ST.ret2 (.inl rfl) results12 rfl rfl ⟨by unfold checkC; rw [if_pos hbig], rfl, rfl⟩
 ·refine SC.skip (ST.thenN (SC.seq (SC.region (SL.K (SQ.loadVarK 0 isAgg27 sizeOf27 rfl rfl rfl) (SL.W (SO.call call50 rfl (of_spec E g _ _ l hv hf)) ?_)))))
  rintro tv g1 _ ⟨rfl, hle1, ht⟩
  refine SL.A rfl (SL.nil (ST.thenN (SC.seq (SC.region (SL.K (SQ.loadVarK 0 isAgg27 sizeOf27 rfl rfl rfl) (SL.W (SO.call call30 rfl (canon_spec E g1 _ _ l (hv.mono hle1) hf)) ?_))))))
  rintro _ g2 _ ⟨rfl, hle2, u, rfl, rs, hrs, hall⟩
  obtain ⟨q, d, rfl⟩ := hrs.form
  refine SL.U (SU.field underlying27 rfl isAgg25 rfl rfl) (SL.A rfl (SL.A rfl (SL.nil (ST.thenN (SC.seq (SC.seq (SC.region (SL.M rfl (SL.U (SU.lenN underlying25 rfl) (SL.M rfl (SL.nil (ST.thenN (SC.block ?_)))))))))))))
  have hres : checkC l = (chk1 (tabC l) (canonC l) 0).getD ((chk2 (tabC l) (canonC l)).getD (0, 0)) := by unfold checkC; rw [if_neg hbig]
  have ht2 := ht.mono hle2
  have hlen := hall.length
  have hcl := hfc.1
  have hleg := hle1.trans hle2
  refine SC.loop (ι := Nat × Int) (fun i => [(4, tv), (5, vi i.2), (6, .slice q rs.length d), (22, .slice q rs.length d), (23, vi rs.length), (24, vi i.1)]) (fun _ => g2)
   (fun _ => pt b1 (.cells #[.slice p l.length cp] 27 (0, 0)) :: s) (fun i => i.1 ≤ rs.length ∧ chk1 (tabC l) (canonC l) 0 = chk1 (tabC l) ((canonC l).drop i.1) i.2) (fun i => rs.length - i.1) (0, 0)
   ⟨rfl, rfl, rfl, rfl, rfl, rfl, trivial⟩ rfl rfl ⟨Nat.zero_le _, by simp⟩ ?_
  rintro ⟨k, last⟩ ⟨hk, heq⟩
  dsimp only at hk heq ⊢
  refine SC.seq (SC.region (SL.U (SU.lss rfl rfl) (SL.nil (ST.thenN (SC.seq ?_)))))
  refine SC.ifP rfl (fun hlt => ?_) (fun hlt => ?_)
  ·have hkr : k < rs.length := oM
   have hkc : k < (canonC l).length := oM
   have hb1 := hrs.based oM
   have hcr := hall.get (List.getElem?_eq_getElem hkc) (List.getElem?_eq_getElem hkr)
   have hgx : rs[((k : Nat) : Int).toNat]? = some rs[k] := List.getElem?_eq_getElem hkr
   have hdrop : (canonC l).drop k = (canonC l)[k] :: (canonC l).drop (k + 1) := List.drop_eq_getElem_cons hkc
   have hxl := hfc.2 _ (List.getElem_mem hkc)
   generalize rs[k] = x at *
   generalize (canonC l)[k] = cx at *
   rw [hdrop] at heq
   obtain ⟨xi, xd, xv⟩ := x
   have hxi : xi = cx.id := hcr.1
   subst hxi
   refine SC.skip (ST.thenN (SC.seq (SC.block (SC.seq (SC.region (SL.U (SU.indexAddr underlying25 sizeOf51 rfl rfl hb1 oM sL) (SL.K (SQ.elemA isAgg51 sizeOf51 rfl hrs.rd hgx) (SL.W (SO.alloc zeroValue51) ?_))))))))
   rintro _ _ _ ⟨b8, rfl, rfl, rfl⟩
   refine SL.on (SO.storeAllK 0 sizeOf51 rfl rfl rfl rfl rfl (by exact ⟨rfl, rfl, rfl, trivial⟩)) ?_
   rintro _ _ _ ⟨rfl, rfl⟩
   refine SL.nil (ST.thenN (SC.seq (SC.seq (SC.region (SL.U (SU.fieldAddr underlying51 rfl sizeOf3 rfl) (SL.K (SQ.load isAgg3 rfl (CellAt.own 0 rfl rfl)) (SL.M rfl (SL.U (SU.leq rfl rfl) (SL.nil (ST.thenN ?_))))))))))
   refine SC.ifP rfl (fun hid => ?_) (fun hid => ?_)
   ·refine SC.seq (SC.region (SL.U (SU.fieldAddr underlying51 rfl sizeOf3 rfl) (SL.K (SQ.load isAgg3 rfl (CellAt.own 0 rfl rfl)) (SL.A rfl (SL.A rfl (SL.nil (ST.thenN (SC.ret (ST.thenR (ST.blockR (ST.thenR (ST.thenR (ST.blockR (ST.thenR ?_))))))))))))))
    refine ST.drop (s' := s) (.cons _ (.cons _ (.refl _))) (ST.less hleg ?_)
    have h1 : checkC l = (cx.id, 20) := by rw [hres, heq]; unfold chk1; rw [if_pos hid]; rfl
    exact ST.ret2 (.inl rfl) results12 rfl rfl ⟨by (rw [h1]; rfl), rfl, rfl⟩
   ·refine SC.skip (ST.thenN (SC.seq (SC.region (SL.U (SU.fieldAddr underlying51 rfl sizeOf3 rfl) (SL.K (SQ.load isAgg3 rfl (CellAt.own 0 rfl rfl)) (SL.A rfl (SL.nil (ST.thenN (SC.seq (SC.region (SL.M rfl (SL.K (SQ.loadVarK 0 isAgg51 sizeOf51 rfl rfl rfl) (SL.W (SO.call call51 rfl (form_spec E g2 _ tv (tabC l) cx _ ht2 hcr hxl)) ?_)))))))))))))
    rintro _ _ _ ⟨rfl, rfl, rfl⟩
    refine SL.A rfl (SL.nil (ST.thenN (SC.seq (SC.region (SL.M rfl (SL.U (SU.neq rfl rfl) (SL.nil (ST.thenN ?_))))))))
    refine SC.ifP rfl (fun he => ?_) (fun he => ?_)
    ·refine SC.seq (SC.region (SL.U (SU.fieldAddr underlying51 rfl sizeOf3 rfl) (SL.K (SQ.load isAgg3 rfl (CellAt.own 0 rfl rfl)) (SL.M rfl (SL.A rfl (SL.A rfl (SL.nil (ST.thenN (SC.ret (ST.blockR (ST.thenR (ST.thenR (ST.blockR (ST.thenR ?_))))))))))))))
     refine ST.drop (s' := s) (.cons _ (.cons _ (.refl _))) (ST.less hleg ?_)
     have h1 : checkC l = (cx.id, formC (tabC l) cx) := by rw [hres, heq]; unfold chk1; rw [if_neg hid, if_pos he]; rfl
     exact ST.ret2 (.inl rfl) results12 rfl rfl ⟨by (rw [h1]; rfl), rfl, rfl⟩
    ·refine SC.skip (ST.blockN (ST.thenN (SC.region (SL.U (SU.add rfl rfl oM) (SL.M rfl (SL.nil (ST.drop (s' := pt b1 (.cells #[.slice p l.length cp] 27 (0, 0)) :: s) (.cons _ (.refl _)) ?_)))))))
     exact ST.again (k + 1, cx.id) ⟨rfl, rfl, rfl, rfl, rfl, rfl, trivial⟩ rfl rfl ⟨lN, by rw [heq]; rw [chk1, if_neg hid, if_neg he]⟩ lN
  ·have hkk : (canonC l).drop k = [] := List.drop_of_length_le oM
   rw [hkk] at heq
   have hall0 := chk1_none heq
   refine SC.exit (ST.thenX (ST.thenX (ST.blockX (ST.thenN (SC.seq (SC.seq (SC.region (SL.M rfl (SL.U (SU.lenN underlying25 rfl) (SL.M rfl (SL.nil (ST.thenN (SC.block ?_)))))))))))))
   refine SC.loop (ι := Nat) (fun i => [(4, tv), (45, .slice q rs.length d), (46, vi rs.length), (47, vi i)]) (fun _ => g2)
    (fun _ => pt b1 (.cells #[.slice p l.length cp] 27 (0, 0)) :: s) (fun i => i ≤ rs.length ∧ chk2 (tabC l) (canonC l) = chk2 (tabC l) ((canonC l).drop i)) (fun i => rs.length - i) 0
    ⟨rfl, rfl, rfl, rfl, trivial⟩ rfl rfl ⟨Nat.zero_le _, by simp⟩ ?_
   rintro k ⟨hk, heq2⟩
   try dsimp only
   refine SC.seq (SC.region (SL.U (SU.lss rfl rfl) (SL.nil (ST.thenN (SC.seq ?_)))))
   refine SC.ifP rfl (fun hlt2 => ?_) (fun hlt2 => ?_)
   ·have hkr : k < rs.length := oM
    have hkc : k < (canonC l).length := oM
    have hb1 := hrs.based oM
    have hcr := hall.get (List.getElem?_eq_getElem hkc) (List.getElem?_eq_getElem hkr)
    have hgx : rs[((k : Nat) : Int).toNat]? = some rs[k] := List.getElem?_eq_getElem hkr
    have hdrop : (canonC l).drop k = (canonC l)[k] :: (canonC l).drop (k + 1) := List.drop_eq_getElem_cons hkc
    have hcm := List.getElem_mem hkc
    have haok := aok_of hall0 hcm
    generalize rs[k] = x at *
    generalize (canonC l)[k] = cx at *
    rw [hdrop] at heq2
    obtain ⟨xi, xd, xv⟩ := x
    have hxi : xi = cx.id := hcr.1
    have hxd : xd = cx.dim := hcr.2.1
    subst hxi hxd
    refine SC.skip (ST.thenN (SC.seq (SC.block (SC.seq (SC.region (SL.U (SU.indexAddr underlying25 sizeOf51 rfl rfl hb1 oM sL) (SL.K (SQ.elemA isAgg51 sizeOf51 rfl hrs.rd hgx) (SL.W (SO.alloc zeroValue51) ?_))))))))
    rintro _ _ _ ⟨b11, rfl, rfl, rfl⟩
    refine SL.on (SO.storeAllK 0 sizeOf51 rfl rfl rfl rfl rfl (by exact ⟨rfl, rfl, rfl, trivial⟩)) ?_
    rintro _ _ _ ⟨rfl, rfl⟩
    refine SL.nil (ST.thenN (SC.seq (SC.region (SL.U (SU.fieldAddr underlying51 rfl sizeOf3 rfl) (SL.K (SQ.load isAgg3 rfl (CellAt.own 0 rfl rfl)) (SL.U (SU.gtr rfl rfl) (SL.nil (ST.thenN ?_))))))))
    refine SC.ifP rfl (fun hd1 => ?_) (fun hd1 => ?_)
    ·refine SC.seq (SC.region (SL.M rfl (SL.K (SQ.loadVarK 0 isAgg51 sizeOf51 rfl rfl rfl) (SL.W (SO.call call52 rfl (around_spec E g2 _ tv (tabC l) cx _ ht2 hcr haok)) ?_))))
     rintro _ _ _ ⟨rfl, rfl, rfl⟩
     refine SL.A rfl (SL.nil (ST.thenN (SC.seq (SC.region (SL.M rfl (SL.U (SU.neq rfl rfl) (SL.nil (ST.thenN ?_))))))))
     refine SC.ifP rfl (fun he => ?_) (fun he => ?_)
     ·refine SC.seq (SC.region (SL.U (SU.fieldAddr underlying51 rfl sizeOf3 rfl) (SL.K (SQ.load isAgg3 rfl (CellAt.own 0 rfl rfl)) (SL.M rfl (SL.A rfl (SL.A rfl (SL.nil (ST.thenN (SC.ret (ST.blockR (ST.thenR (ST.thenR (ST.blockR (ST.thenR ?_))))))))))))))
      refine ST.drop (s' := s) (.cons _ (.cons _ (.refl _))) (ST.less hleg ?_)
      have h1 : checkC l = (cx.id, aroundC (tabC l) cx) := by rw [hres, heq, heq2]; unfold chk2; rw [if_pos ⟨hd1, he⟩]; rfl
      exact ST.ret2 (.inl rfl) results12 rfl rfl ⟨by (rw [h1]; rfl), rfl, rfl⟩
     ·refine SC.skip (ST.blockN (ST.thenN (SC.region (SL.U (SU.add rfl rfl oM) (SL.M rfl (SL.nil (ST.drop (s' := pt b1 (.cells #[.slice p l.length cp] 27 (0, 0)) :: s) (.cons _ (.refl _)) ?_)))))))
      exact ST.again (k + 1) ⟨rfl, rfl, rfl, rfl, trivial⟩ rfl rfl ⟨oM, by rw [heq2]; rw [chk2, if_neg (fun h => he h.2)]⟩ oM
    ·refine SC.skip (ST.blockN (ST.thenN (SC.region (SL.U (SU.add rfl rfl oM) (SL.M rfl (SL.nil (ST.drop (s' := pt b1 (.cells #[.slice p l.length cp] 27 (0, 0)) :: s) (.cons _ (.refl _)) ?_)))))))
     exact ST.again (k + 1) ⟨rfl, rfl, rfl, rfl, trivial⟩ rfl rfl ⟨oM, by rw [heq2]; rw [chk2, if_neg (fun h => hd1 h.1)]⟩ oM
   ·have hkk2 : (canonC l).drop k = [] := List.drop_of_length_le oM
    rw [hkk2] at heq2
    refine SC.exit (ST.thenX (ST.thenX (ST.blockX (ST.thenN (SC.seq (SC.region (SL.A rfl (SL.A rfl (SL.nil (ST.thenN (SC.ret ?_)))))))))))
    refine ST.drop (s' := s) (.cons _ (.refl _)) (ST.less hleg ?_)
    have h1 : checkC l = (0, 0) := by rw [hres, heq, heq2]; rfl
    exact ST.ret2 (.inl rfl) results12 rfl rfl ⟨by (rw [h1]; done), rfl, rfl⟩
theorem right_spec (E : World) (g : PH) (s : Own) (v : Value) (l : List Cl) (hv : Cells g v l) (hf : Fits l) :
  Ctr Tryz.prog E 57 #[.agg #[v]] g s (fun r g' s' => r = vb (decide ((checkC l).2 = 0)) ∧ g = g' ∧ s = s') := by
 refine Ctr.of (args := [.agg #[v]]) func57 rfl ntmps57 (Nat.le_of_ble_eq_true rfl) ?_
 refine SC.seq (SC.region (SL.W (SO.box rfl) ?_))
 rintro _ _ _ ⟨b1, rfl, rfl, rfl⟩
 refine SL.A rfl (SL.nil (ST.thenN (SC.seq (SC.region (SL.K (SQ.loadVarK 0 isAgg27 sizeOf27 rfl rfl rfl) (SL.W (SO.call call12 rfl (check_spec E g _ v l hv hf)) ?_))))))
 rintro _ _ _ ⟨rfl, rfl, rfl⟩
 refine SL.M rfl (SL.U (SU.extract rfl rfl) (SL.U (SU.extract rfl rfl) (SL.A rfl (SL.A rfl (SL.nil (ST.thenN (SC.seq (SC.region (SL.M rfl (SL.U (SU.eql rfl rfl) (SL.A rfl (SL.nil (ST.thenN (SC.ret (ST.drop (s' := s) (.cons _ (.refl _)) ?_)))))))))))))))
 exact ST.ret1 (.inl rfl) results57 rfl ⟨rfl, rfl, rfl⟩
end Go.Proofs.YtkdibcicncjpdaaGreat
