/- Cmp SyN SyO SyP -/
import Derived.Test.YtkdibcicncjpdaaGreatPa06
import Derived.Test.YtkdibcicncjpdaaGreatPa02
import Derived.Laws.Slices
import Derived.Laws.MakeOwn
import Derived.Laws.CopyRow
import Derived.Lib.AppendZeros
set_option linter.unusedSimpArgs false
set_option linter.unusedVariables false
namespace Go.Proofs.YtkdibcicncjpdaaGreat
open _root_.Go.Proofs.Tryz _root_.Go.Proofs.YtkdibcicncjpdaaGreat.Tryz
open Go Go.Sy Go.Pl Go.Proofs
set_option maxRecDepth 100000
def orI : List Int → Int
 | [] => 0
 | a :: r => if a ≠ 0 then a else orI r
def cmpL : List Int → List Int → Int
 | [], [] => 0
 | [], _ :: _ => -1
 | _ :: _, [] => 1
 | a :: r, b :: t => if cmpI a b ≠ 0 then cmpI a b else cmpL r t
def compareC (a b : List Int) : Int := if cmpI a.length b.length ≠ 0 then cmpI a.length b.length else cmpL a b
theorem or_spec (E : World) (g : PH) (s : Own) (v : Value) (l : List Int) (hv : Rd g s v (l.flatMap encInt.enc)) (hf : ∃ p c, v = .slice p l.length c) (hb : 0 < l.length → based v = true) (hl : l.length < 1099511627776) :
  Ctr Tryz.prog E 88 #[v] g s (fun r g' s' => r = vi (orI l) ∧ g = g' ∧ s = s') := by
 obtain ⟨p, c, rfl⟩ := hf
 refine Ctr.of (args := [.slice p l.length c]) func88 rfl ntmps88 (Nat.le_of_ble_eq_true rfl) ?_
 refine SC.seq (SC.region (SL.A rfl (SL.nil (ST.thenN (SC.seq (SC.region (SL.A rfl (SL.nil (ST.thenN (SC.seq (SC.seq (SC.region (SL.M rfl (SL.U (SU.lenN underlying45 rfl) (SL.M rfl (SL.nil (ST.thenN (SC.block ?_))))))))))))))))))
 refine SC.loop (ι := Nat) (fun k => [(3, vi 0), (6, .slice p l.length c), (7, vi l.length), (8, vi k)]) (fun _ => g) (fun _ => s) (fun k => k ≤ l.length ∧ orI l = orI (l.drop k)) (fun k => l.length - k) 0
  ⟨rfl, rfl, rfl, rfl, trivial⟩ rfl rfl ⟨Nat.zero_le _, by simp⟩ ?_
 rintro k ⟨hk, heq⟩
 refine SC.seq (SC.region (SL.U (SU.lss rfl rfl) (SL.nil (ST.thenN (SC.seq ?_)))))
 refine SC.ifP rfl (fun hlt => ?_) (fun hlt => ?_)
 ·have hkl : k < l.length := oM
  have hb1 := hb oM
  have hgx : l[((k : Nat) : Int).toNat]? = some l[k] := List.getElem?_eq_getElem hkl
  have hdrop : l.drop k = l[k] :: l.drop (k + 1) := List.drop_eq_getElem_cons hkl
  generalize l[k] = x at *
  rw [hdrop] at heq
  refine SC.skip (ST.thenN (SC.seq (SC.block (SC.seq (SC.region (SL.U (SU.indexAddr underlying45 sizeOf3 rfl rfl hb1 oM sL) (SL.K (SQ.elem1 isAgg3 rfl hv hgx rfl) (SL.A rfl (SL.nil (ST.thenN (SC.seq (SC.region (SL.M rfl (SL.M rfl (SL.U (SU.neq rfl rfl) (SL.nil (ST.thenN ?_)))))))))))))))))
  refine SC.ifP rfl (fun hd => ?_) (fun hd => ?_)
  ·refine SC.seq (SC.region (SL.M rfl (SL.A rfl (SL.nil (ST.thenN (SC.ret (ST.blockR (ST.thenR (ST.thenR (ST.blockR (ST.thenR ?_)))))))))))
   exact ST.ret1 (.inl rfl) results88 rfl ⟨by rw [heq, orI, if_pos hd], rfl, rfl⟩
  ·refine SC.skip (ST.blockN (ST.thenN (SC.region (SL.U (SU.add rfl rfl oM) (SL.M rfl (SL.nil ?_))))))
   exact ST.again (k + 1) ⟨rfl, rfl, rfl, rfl, trivial⟩ rfl rfl ⟨oM, by rw [heq, orI, if_neg hd]⟩ oM
 ·refine SC.exit (ST.thenX (ST.thenX (ST.blockX (ST.thenN (SC.seq (SC.region (SL.M rfl (SL.A rfl (SL.nil (ST.thenN (SC.ret ?_)))))))))))
  have hkk : l.drop k = [] := List.drop_of_length_le oM
  rw [hkk] at heq
  exact ST.ret1 (.inl rfl) results88 rfl ⟨by rw [heq]; rfl, rfl, rfl⟩
theorem equalInts (E : World) (g : PH) (s : Own) (v u : Value) (l m : List Int) (hv : Ints g v l) (hu : Ints g u m) (hl : l.length < 1099511627776) :
  Ctr Tryz.prog E 46 #[v, u] g s (fun r g' s' => r = vb (decide (l = m)) ∧ g = g' ∧ s = s') := by
 obtain ⟨p, c, rfl⟩ := SlA.form hv
 obtain ⟨q, d, rfl⟩ := SlA.form hu
 refine Ctr.of (args := [.slice p l.length c, .slice q m.length d]) func46 rfl ntmps46 (Nat.le_of_ble_eq_true rfl) ?_
 refine SC.seq (SC.region (SL.A rfl (SL.nil (ST.thenN (SC.seq (SC.seq (SC.region (SL.M rfl (SL.U (SU.lenN underlying45 rfl) (SL.M rfl (SL.U (SU.lenN underlying45 rfl) (SL.U (SU.neq rfl rfl) (SL.nil (ST.thenN ?_))))))))))))))
 refine SC.ifP rfl (fun hne => ?_) (fun hne => ?_)
 ·refine SC.seq (SC.region (SL.A rfl (SL.nil (ST.thenN (SC.ret (ST.thenR ?_))))))
  exact ST.ret1 (.inl rfl) results46 rfl ⟨by have : l ≠ m := fun e => hne (by rw [e]); simp [this], rfl, rfl⟩
 ·refine SC.skip (ST.thenN (SC.seq (SC.seq (SC.region (SL.M rfl (SL.U (SU.lenN underlying45 rfl) (SL.M rfl (SL.nil (ST.thenN (SC.block ?_))))))))))
  have hlen : l.length = m.length := oM
  refine SC.loop (ι := Nat) (fun k => [(0, .slice p l.length c), (1, .slice q m.length d), (12, vi l.length), (13, vi k)]) (fun _ => g) (fun _ => s) (fun k => k ≤ l.length ∧ l.take k = m.take k) (fun k => l.length - k) 0
   ⟨rfl, rfl, rfl, rfl, trivial⟩ rfl rfl ⟨Nat.zero_le _, by simp⟩ ?_
  rintro k ⟨hk, heq⟩
  refine SC.seq (SC.region (SL.U (SU.lss rfl rfl) (SL.nil (ST.thenN (SC.seq ?_)))))
  refine SC.ifP rfl (fun hlt => ?_) (fun hlt => ?_)
  ·have hkl : k < l.length := oM
   have hkm : k < m.length := oM
   have hb1 := SlA.based hv oM
   have hb2 := SlA.based hu oM
   refine SC.skip (ST.thenN (SC.seq (SC.block (SC.seq (SC.region (SL.M rfl (SL.A rfl (SL.nil (ST.thenN (SC.seq ?_))))))))))
   refine SC.draw [] [(0, 2), (1, 2), (2, 2), (3, 1), (4, 2), (5, 2), (6, 2), (7, 1), (8, 2)] Tryz.mixed (by kernel_rfl) ?_
   refine SP.U (i := 0) rfl (SU.move rfl) (SP.U (i := 1) rfl (SU.move rfl) (SP.U (i := 2) rfl (SU.indexAddr underlying45 sizeOf3 rfl rfl hb1 oM sL) ?_))
   refine SP.q (i := 3) rfl (SQ.elem1 isAgg3 rfl (SlA.rd hv) (List.getElem?_eq_getElem hkl) rfl) dC ?_
   refine SP.U (i := 4) rfl (SU.move rfl) (SP.U (i := 5) rfl (SU.move rfl) (SP.U (i := 6) rfl (SU.indexAddr underlying45 sizeOf3 rfl rfl hb2 oM sL) ?_))
   refine SP.q (i := 7) rfl (SQ.elem1 isAgg3 rfl (SlA.rd hu) (List.getElem?_eq_getElem hkm) rfl) dC ?_
   refine SP.U (i := 8) rfl (SU.neq rfl rfl) (SP.nil (ST.thenN ?_))
   refine SC.ifP rfl (fun hd => ?_) (fun hd => ?_)
   ·refine SC.seq (SC.region (SL.A rfl (SL.nil (ST.thenN (SC.ret (ST.blockR (ST.thenR (ST.thenR (ST.blockR (ST.thenR ?_))))))))))
    exact ST.ret1 (.inl rfl) results46 rfl ⟨by have : l ≠ m := fun e => hd (by simp [e]); simp [this], rfl, rfl⟩
   ·refine SC.skip (ST.blockN (ST.thenN (SC.region (SL.U (SU.add rfl rfl oM) (SL.M rfl (SL.nil ?_))))))
    exact ST.again (k + 1) ⟨rfl, rfl, rfl, rfl, trivial⟩ rfl rfl ⟨oM, take_eq_succ hkl hkm heq (Decidable.of_not_not hd)⟩ oM
  ·refine SC.exit (ST.thenX (ST.thenX (ST.blockX (ST.thenN (SC.seq (SC.region (SL.A rfl (SL.nil (ST.thenN (SC.ret ?_))))))))))
   have hkk : k = l.length := oM
   subst hkk
   have : l = m := take_eq_all hlen heq
   exact ST.ret1 (.inl rfl) results46 rfl ⟨by simp [this], rfl, rfl⟩
theorem compareInts (E : World) (g : PH) (s : Own) (v u : Value) (l m : List Int) (hv : Ints g v l) (hu : Ints g u m) (hl : l.length < 1099511627776) :
  Ctr Tryz.prog E 90 #[v, u] g s (fun r g' s' => r = vi (cmpL l m) ∧ g = g' ∧ s = s') := by
 obtain ⟨p, c, rfl⟩ := SlA.form hv
 obtain ⟨q, d, rfl⟩ := SlA.form hu
 refine Ctr.of (args := [.slice p l.length c, .slice q m.length d]) func90 rfl ntmps90 (Nat.le_of_ble_eq_true rfl) ?_
 refine SC.seq (SC.region (SL.A rfl (SL.nil (ST.thenN (SC.seq (SC.seq (SC.region (SL.M rfl (SL.U (SU.lenN underlying45 rfl) (SL.M rfl (SL.nil (ST.thenN (SC.block ?_)))))))))))))
 refine SC.loop (ι := Nat) (fun k => [(0, .slice p l.length c), (1, .slice q m.length d), (9, .slice p l.length c), (10, vi l.length), (11, vi k)]) (fun _ => g) (fun _ => s) (fun k => k ≤ l.length ∧ k ≤ m.length ∧ cmpL l m = cmpL (l.drop k) (m.drop k)) (fun k => l.length - k) 0
  ⟨rfl, rfl, rfl, rfl, rfl, trivial⟩ rfl rfl ⟨Nat.zero_le _, Nat.zero_le _, by simp⟩ ?_
 rintro k ⟨hk, hkm, heq⟩
 refine SC.seq (SC.region (SL.U (SU.lss rfl rfl) (SL.nil (ST.thenN (SC.seq ?_)))))
 refine SC.ifP rfl (fun hlt => ?_) (fun hlt => ?_)
 ·have hkl : k < l.length := oM
  have hb1 := SlA.based hv oM
  have hgx : l[((k : Nat) : Int).toNat]? = some l[k] := List.getElem?_eq_getElem hkl
  have hdrop : l.drop k = l[k] :: l.drop (k + 1) := List.drop_eq_getElem_cons hkl
  generalize l[k] = x at *
  rw [hdrop] at heq
  refine SC.skip (ST.thenN (SC.seq (SC.block (SC.seq (SC.region (SL.M rfl (SL.U (SU.indexAddr underlying45 sizeOf3 rfl rfl hb1 oM sL) (SL.K (SQ.elem1 isAgg3 rfl (SlA.rd hv) hgx rfl) (SL.A rfl (SL.A rfl (SL.nil (ST.thenN (SC.seq (SC.seq (SC.region (SL.M rfl (SL.M rfl (SL.U (SU.lenN underlying45 rfl) (SL.U (SU.geq rfl rfl) (SL.nil (ST.thenN ?_)))))))))))))))))))))
  refine SC.ifP rfl (fun hge => ?_) (fun hge => ?_)
  ·refine SC.seq (SC.region (SL.A rfl (SL.nil (ST.thenN (SC.ret (ST.thenR (ST.blockR (ST.thenR (ST.thenR (ST.blockR (ST.thenR ?_)))))))))))
   have hmk : m.drop k = [] := List.drop_of_length_le oM
   rw [hmk] at heq
   exact ST.ret1 (.inl rfl) results90 rfl ⟨by rw [heq]; rfl, rfl, rfl⟩
  ·have hkm2 : k < m.length := oM
   have hb2 := SlA.based hu oM
   have hgy : m[((k : Nat) : Int).toNat]? = some m[k] := List.getElem?_eq_getElem hkm2
   have hdrop2 : m.drop k = m[k] :: m.drop (k + 1) := List.drop_eq_getElem_cons hkm2
   generalize m[k] = y at *
   rw [hdrop2] at heq
   refine SC.skip (ST.thenN (SC.seq (SC.region (SL.M rfl (SL.M rfl (SL.U (SU.indexAddr underlying45 sizeOf3 rfl rfl hb2 oM sL) (SL.K (SQ.elem1 isAgg3 rfl (SlA.rd hu) hgy rfl) (SL.A rfl (SL.nil (ST.thenN (SC.seq (SC.region (SL.M rfl (SL.M rfl (SL.W (SO.call call89 rfl (compare_spec E g _ x y)) ?_)))))))))))))))
   rintro _ _ _ ⟨rfl, rfl, rfl⟩
   refine SL.A rfl (SL.nil (ST.thenN (SC.seq (SC.region (SL.M rfl (SL.U (SU.neq rfl rfl) (SL.nil (ST.thenN ?_))))))))
   refine SC.ifP rfl (fun hd => ?_) (fun hd => ?_)
   ·refine SC.seq (SC.region (SL.M rfl (SL.A rfl (SL.nil (ST.thenN (SC.ret (ST.blockR (ST.thenR (ST.thenR (ST.blockR (ST.thenR ?_)))))))))))
    exact ST.ret1 (.inl rfl) results90 rfl ⟨by rw [heq, cmpL, if_pos hd], rfl, rfl⟩
   ·refine SC.skip (ST.blockN (ST.thenN (SC.region (SL.U (SU.add rfl rfl oM) (SL.M rfl (SL.nil ?_))))))
    exact ST.again (k + 1) ⟨rfl, rfl, rfl, rfl, rfl, trivial⟩ rfl rfl ⟨oM, oM, by rw [heq, cmpL, if_neg hd]⟩ oM
 ·refine SC.exit (ST.thenX (ST.thenX (ST.blockX (ST.thenN (SC.seq (SC.seq (SC.region (SL.M rfl (SL.U (SU.lenN underlying45 rfl) (SL.M rfl (SL.U (SU.lenN underlying45 rfl) (SL.U (SU.lss rfl rfl) (SL.nil (ST.thenN ?_))))))))))))))
  have hkk : l.drop k = [] := List.drop_of_length_le oM
  rw [hkk] at heq
  refine SC.ifP rfl (fun hll => ?_) (fun hll => ?_)
  ·refine SC.seq (SC.region (SL.A rfl (SL.nil (ST.thenN (SC.ret (ST.thenR ?_))))))
   have hkm2 : k < m.length := oM
   have hdrop2 : m.drop k = m[k] :: m.drop (k + 1) := List.drop_eq_getElem_cons hkm2
   rw [hdrop2] at heq
   exact ST.ret1 (.inl rfl) results90 rfl ⟨by rw [heq]; rfl, rfl, rfl⟩
  ·refine SC.skip (ST.thenN (SC.seq (SC.region (SL.A rfl (SL.nil (ST.thenN (SC.ret ?_)))))))
   have hmk : m.drop k = [] := List.drop_of_length_le oM
   rw [hmk] at heq
   exact ST.ret1 (.inl rfl) results90 rfl ⟨by rw [heq]; rfl, rfl, rfl⟩
theorem compareSets (E : World) (g : PH) (s : Own) (v u : Value) (l m : List Int) (hv : Ints g v l) (hu : Ints g u m) (hl : l.length < 1099511627776) :
  Ctr Tryz.prog E 44 #[v, u] g s (fun r g' s' => r = vi (compareC l m) ∧ g = g' ∧ s = s') := by
 obtain ⟨p, c, rfl⟩ := SlA.form hv
 obtain ⟨q, d, rfl⟩ := SlA.form hu
 refine Ctr.of (args := [.slice p l.length c, .slice q m.length d]) func44 rfl ntmps44 (Nat.le_of_ble_eq_true rfl) ?_
 refine SC.seq (SC.region (SL.A rfl (SL.nil (ST.thenN (SC.seq (SC.region (SL.M rfl (SL.U (SU.lenN underlying45 rfl) (SL.M rfl (SL.U (SU.lenN underlying45 rfl) (SL.W (SO.call call89 rfl (compare_spec E g _ l.length m.length)) ?_)))))))))))
 rintro _ _ _ ⟨rfl, rfl, rfl⟩
 refine SL.M rfl (SL.M rfl (SL.W (SO.call call90 rfl (compareInts E g _ _ _ l m hv hu hl)) ?_))
 rintro _ _ _ ⟨rfl, rfl, rfl⟩
 refine SL.W (SO.buildSlice sty45 rfl rfl rfl (szs_mk (by exact ⟨rfl, rfl, trivial⟩)) dC) ?_
 rintro _ _ _ ⟨b13, rfl, rfl, rfl⟩
 refine SL.W (SO.call call88 rfl (or_spec E g _ _ [cmpI l.length m.length, cmpL l m] (Rd.pt 0 rfl) ⟨_, _, rfl⟩ (fun _ => rfl) (by simp))) ?_
 rintro _ _ _ ⟨rfl, rfl, rfl⟩
 refine SL.A rfl (SL.nil (ST.thenN (SC.ret (ST.drop (s' := s) (.cons _ (.refl _)) ?_))))
 exact ST.ret1 (.inl rfl) results44 rfl ⟨by unfold compareC; simp only [orI]; split <;> simp_all, rfl, rfl⟩
end Go.Proofs.YtkdibcicncjpdaaGreat
namespace Go.Sy
open Go
theorem SP.to {P : Program} {N : Nat} {E : World} {ops : Array Oper} {Q : Exit → Act → World → Prop} {g0 : PH} {s0 : Own} {tail : List Nat} {plan : List (Nat × Nat)} {f : Fr} {g g' : PH} {s s' : Own} (h : ∀ w, At E g s w → At E g' s' w) (hc : SP P N E ops Q g0 s0 tail plan f g' s') : SP P N E ops Q g0 s0 tail plan f g s := fun L a w h1 hcl h2 ha hw hb => hc L a w h1 hcl h2 ha (h w hw) hb
section
variable {P : Program} {N : Nat} {E : World} {f : Fr} {g : PH} {s s1 : Own} {dst : Option Tmp} {ty : TypeId} {pos : String} {af : Array Edge} {gd : Option (Nat × Bool)}
theorem SU.sliceH {x hi : Operand} {T e : TypeId} {k n c : Nat} {p : Option Addr} {h : Int} (hT : P.underlying T = some (.slice e)) (hs : ∀ w, (sizeOf e).run P w = .ok k w) (hx : ev f x = some (.slice p n c)) (hh : ev f hi = some (vi h)) (h0 : 0 ≤ h) (h2 : h ≤ c) :
  SU P N ⟨dst, .slice T x none (some hi) none, ty, pos, af, gd⟩ f (sliced p 0 h.toNat c k) := fun a w ha => by
 simp [execOp, ha.ev hx, ha.ev hh, Instr.sliceAt, Instr.slice, run_underlying hT, Instr.sliceBounds, run_sliceBound, sliced, hs w, h0, h2]
theorem SU.sliceL {x lo : Operand} {T e : TypeId} {k n c : Nat} {p : Option Addr} {l : Int} (hT : P.underlying T = some (.slice e)) (hs : ∀ w, (sizeOf e).run P w = .ok k w) (hx : ev f x = some (.slice p n c)) (hl : ev f lo = some (vi l)) (h0 : 0 ≤ l) (h1 : l ≤ n) :
  SU P N ⟨dst, .slice T x (some lo) none none, ty, pos, af, gd⟩ f (sliced p l.toNat n c k) := fun a w ha => by
 simp [execOp, ha.ev hx, ha.ev hl, Instr.sliceAt, Instr.slice, run_underlying hT, Instr.sliceBounds, run_sliceBound, sliced, hs w, h0, h1]
theorem SU.cap {x : Operand} {T e : TypeId} {p : Option Addr} {n c : Nat} (hT : P.underlying T = some (.slice e)) (hx : ev f x = some (.slice p n c)) :
  SU P N ⟨dst, .call ⟨.builtin .cap, #[x], #[T]⟩, ty, pos, af, gd⟩ f (vi c) := fun a w ha => by
 simp [execOp, resolve, invoke, builtin, ha.ev hx, Builtin.cap_, run_underlying hT, goInt]
theorem Sl.cut {k n c l m : Nat} {p : Option Addr} {xs : List Value} (h : Sl g k (.slice p n c) n xs) (hl : l ≤ m) (hm : m ≤ n) : Sl g k (sliced p l m c k) (m - l) ((xs.drop (l * k)).take ((m - l) * k)) := by
 obtain ⟨p', c', he, ⟨h2, hc⟩, h3⟩ := h
 injection he with e1 e2 e3
 subst e1; subst e3
 refine ⟨_, _, rfl, ⟨?_, oM⟩, fun hne => ?_⟩
 ·have : m * k ≤ n * k := Nat.mul_le_mul_right k hm
  have h5 : l * k + (m - l) * k = m * k := by rw [← Nat.add_mul]; congr 1; omega
  rw [List.length_take, List.length_drop, h2]
  omega
 ·have hx0 : xs ≠ [] := fun e => hne (by rw [e]; simp)
  obtain ⟨b, o, cs, T, fr, rfl, h5, h6⟩ := h3 hx0
  have hcl : ¬ c = l := fun e => hne (by
   have : m - l = 0 := oM
   rw [this]; simp)
  have hadd : (⟨b, o, none⟩ : Addr).add (l * k) = ⟨b, o + l * k, none⟩ := by unfold Addr.add; split <;> simp_all
  refine ⟨b, o + l * k, cs, T, fr, by simp [hcl, hadd], h5, fun j x hj => ?_⟩
  rw [List.getElem?_take] at hj
  split at hj
  ·rw [List.getElem?_drop] at hj
   rw [Nat.add_assoc]
   exact h6 _ x hj
  ·cases hj
theorem SlA.cut {α : Type} {k : Nat} {e : Enc α k} {c l m : Nat} {p : Option Addr} {xs : List α} (h : SlA e g (.slice p xs.length c) xs) (hl : l ≤ m) (hm : m ≤ xs.length) : SlA e g (sliced p l m c k) ((xs.drop l).take (m - l)) := by
 have h1 := Sl.cut h hl hm
 have hlen : ((xs.drop l).take (m - l)).length = m - l := by rw [List.length_take, List.length_drop]; omega
 unfold SlA
 rw [hlen]
 have : ((xs.drop l).take (m - l)).flatMap e.enc = ((xs.flatMap e.enc).drop (l * k)).take ((m - l) * k) := by
  have key : ∀ (ys : List α) (j : Nat), (ys.take j).flatMap e.enc = (ys.flatMap e.enc).take (j * k) := by
   intro ys
   induction ys with
   | nil => intro j; simp
   | cons y r ih =>
    intro j
    cases j with
    | zero => simp
    | succ j =>
     rw [List.take_succ_cons, List.flatMap_cons, List.flatMap_cons, ih, List.take_append, e.len, show (j + 1) * k - k = j * k by rw [Nat.succ_mul]; omega, List.take_of_length_le (l := e.enc y) (by rw [e.len, Nat.succ_mul]; omega)]
  have key2 : ∀ (ys : List α) (j : Nat), (ys.drop j).flatMap e.enc = (ys.flatMap e.enc).drop (j * k) := by
   intro ys
   induction ys with
   | nil => intro j; simp
   | cons y r ih =>
    intro j
    cases j with
    | zero => simp
    | succ j =>
     rw [List.drop_succ_cons, List.flatMap_cons, ih, List.drop_append, e.len, show (j + 1) * k - k = j * k by rw [Nat.succ_mul]; omega, List.drop_of_length_le (l := e.enc y) (by rw [e.len, Nat.succ_mul]; omega)]
     simp
  rw [key, key2]
 rw [this]
 exact h1
theorem SlA.cap {α : Type} {k : Nat} {e : Enc α k} {c n : Nat} {p : Option Addr} {xs : List α} (h : SlA e g (.slice p n c) xs) : n = xs.length ∧ xs.length ≤ c := by
 obtain ⟨p', c', he, ⟨_, hc⟩, _⟩ := h
 injection he with e1 e2 e3
 exact ⟨e2, oM⟩
theorem SlA.lit {α : Type} {k : Nat} {e : Enc α k} {b n : Nat} {cs : Array Value} {T : TypeId} {fr : Nat × Nat} {l : List α} (hb : g b = some (.cells cs T fr)) (hc : cs.toList = l.flatMap e.enc) (hn : l.length = n) : SlA e g (.slice (some ⟨b, 0, none⟩) n n) l := by
 subst hn
 refine ⟨_, _, rfl, ⟨by rw [e.length], Nat.le_refl _⟩, fun _ => ⟨b, 0, cs, T, fr, rfl, hb, fun j x hj => ?_⟩⟩
 rw [← hc] at hj
 simpa using hj
theorem At.litRow {α : Type} {k : Nat} {e : Enc α k} {b n : Nat} {cs : Array Value} {T : TypeId} {l : List α} {w : World} (h : At E g (pt b (.cells cs T (0, 0)) :: s) w) (hc : cs.toList = l.flatMap e.enc) (hn : l.length = n + 1) (hm : n + 1 ≤ maxLen) : At E g (rowA e T (.slice (some ⟨b, 0, none⟩) (n + 1) (n + 1)) l :: s) w := by
 refine ⟨h.os, h.tape, h.output, h.known, fun x hx => ?_, fun x hx q hq => ?_, List.pairwise_cons.2 ⟨fun x hx q hq => ?_, (List.pairwise_cons.1 h.apart).2⟩⟩
 ·rcases List.mem_cons.1 hx with rfl | hx
  ·have h1 := h.own (pt b (.cells cs T (0, 0))) (by simp)
   simp only [pt, Option.bind_some] at h1
   have hsz : cs.size = (n + 1) * k := by rw [← Array.length_toList, hc, e.length, hn]
   have := row_holds (w := w) (T := T) (k := k) (n := n + 1) (b := b) (cap := n) (xs := l.flatMap e.enc) (by rw [e.length, hn]) h1 (Nat.le_refl _) hm hsz (by rw [← hc, List.take_of_length_le (by rw [Array.length_toList, hsz]; exact Nat.le_refl _)])
   simpa only [rowA, hn] using this
  ·exact h.own x (by simp [hx])
 ·rcases List.mem_cons.1 hx with rfl | hx
  ·simp only [rowA, row, rblk, Option.some.injEq] at hq
   exact h.fresh (pt b (.cells cs T (0, 0))) (by simp) q (by simp [pt, hq])
  ·exact h.fresh x (by simp [hx]) q hq
 ·simp only [rowA, row, rblk, Option.some.injEq] at hq
  exact (List.pairwise_cons.1 h.apart).1 x hx q (by simp [pt, hq])
theorem SO.app1A {α : Type} {k bytes b : Nat} {e : Enc α k} {x y : Operand} {t T : TypeId} {z v : Value} {l : List α} {cs : Array Value} (i : Nat) (a : α) (hT : STy P t T k bytes z) (hx : ev f x = some v) (hy : ev f y = some (.slice (some ⟨b, 0, none⟩) 1 1))
  (hs : s = pt b (.cells cs T (0, 0)) :: s1) (hi : s1[i]? = some (rowA e T v l)) (hc : cs.toList = e.enc a) (hb : (l.length + 1) * bytes ≤ 140737488355328) (hlen : l.length + 1 ≤ 4611686018427387904) :
  SO P N E ⟨dst, .call ⟨.builtin .append, #[x, y], #[t, t]⟩, ty, pos, af, gd⟩ f g s fun v' g' s' => g = g' ∧ s' = s1.set i (rowA e T v' (l ++ [a])) := by
 have h1 : Ones cs.toList := by
  rw [hc]
  have : ∀ (m : List Value), (∀ u ∈ m, u.oneCell' = true) → Ones m := by
   intro m
   induction m with
   | nil => intro _; trivial
   | cons q r ih => intro hq; exact ⟨hq q (by simp), ih fun u hu => hq u (by simp [hu])⟩
  exact this _ (e.one a)
 have := SO.app1 (P := P) (N := N) (E := E) (f := f) (g := g) (dst := dst) (ty := ty) (pos := pos) (af := af) (gd := gd) i ((l ++ [a]).flatMap e.enc) (l ++ [a]).length hT hx hy hs hi (by rw [← Array.length_toList, hc, e.len]) h1 (by rw [hc]; simp) (by simp) hb hlen
 exact this
theorem SO.appA {α : Type} {k bytes : Nat} {e : Enc α k} {x y : Operand} {t T : TypeId} {z v u : Value} {l m : List α} (i : Nat) (hT : STy P t T k bytes z) (hx : ev f x = some v) (hy : ev f y = some u)
  (hi : s[i]? = some (rowA e T v l)) (hu : SlA e g u m) (hb : (l.length + m.length) * bytes ≤ 140737488355328) (hlen : l.length + m.length ≤ 4611686018427387904) :
  SO P N E ⟨dst, .call ⟨.builtin .append, #[x, y], #[t, t]⟩, ty, pos, af, gd⟩ f g s fun v' g' s' => g = g' ∧ s' = s.set i (rowA e T v' (l ++ m)) := by
 have := SO.appendE (P := P) (N := N) (E := E) (f := f) (g := g) (dst := dst) (ty := ty) (pos := pos) (af := af) (gd := gd) i (l ++ m).length ((l ++ m).flatMap e.enc) hT hx hi hy (Sl.isSl hu) (Sl.slen hu) (SlA.rd hu) (Sl.length hu) (e.ones m) (by simp) (by simp) (by simpa using hb) (by simpa using hlen)
 exact this
theorem run_appendOp {a : Act} {x y : Operand} {t : TypeId} {u0 u1 v' : Value} {w w1 : World} (hx : a.eval x = u0) (hy : a.eval y = u1) (h : (Builtin.append_ #[t, t] ty #[u0, u1]).run P w = .ok v' w1) :
  (execOp a.eval ⟨dst, .call ⟨.builtin .append, #[x, y], #[t, t]⟩, ty, pos, af, gd⟩).run P w = .ok (.value v') w1 := by
 simp [execOp, resolve, invoke, builtin, hx, hy, h]
theorem SO.cutA {α : Type} {k bytes j c n : Nat} {e : Enc α k} {x y : Operand} {t T : TypeId} {z : Value} {p : Option Addr} {l : List α} (i : Nat) (hT : STy P t T k bytes z) (hx : ev f x = some (sliced p 0 j c k)) (hy : ev f y = some (sliced p (j + 1) n c k))
  (hi : s[i]? = some (rowA e T (.slice p n c) l)) (hn : n = l.length) (hj : j < l.length) :
  SO P N E ⟨dst, .call ⟨.builtin .append, #[x, y], #[t, t]⟩, ty, pos, af, gd⟩ f g s fun v' g' s' => v' = .slice p (l.length - 1) c ∧ g = g' ∧ s' = s.set i (rowA e T (.slice p (l.length - 1) c) (l.eraseIdx j)) :=
 SO.of_run fun a w ha hw => by
  subst hn
  obtain ⟨hxl, hform⟩ := row_is hw hi
  obtain ⟨ti, ht1, ht2, ht3, ht4⟩ := hT.info
  rcases hform with ⟨q, he, h0⟩ | ⟨b, cap, cur, he, hg, hle, hcm, hcs, htake⟩
  ·omega
  ·injection he with e1 e2 e3
   subst e1; subst e3
   have hfr := hw.fresh _ (List.mem_of_getElem? hi) b rfl
   have hlen' : (l.eraseIdx j).length = l.length - 1 := by rw [List.length_eraseIdx]; simp [hj]
   have herase : (l.eraseIdx j).flatMap e.enc = (l.take j).flatMap e.enc ++ (l.drop (j + 1)).flatMap e.enc := by rw [List.eraseIdx_eq_take_drop_succ, List.flatMap_append]
   have hk : ∀ (m : Nat), m ≤ l.length → ((l.take m).flatMap e.enc).length = m * k := fun m hm => by rw [e.length, List.length_take]; congr 1; omega
   have hsplit : l.flatMap e.enc = (l.take (j + 1)).flatMap e.enc ++ (l.drop (j + 1)).flatMap e.enc := by rw [← List.flatMap_append, List.take_append_drop]
   have hsplit2 : l.flatMap e.enc = (l.take j).flatMap e.enc ++ (l.drop j).flatMap e.enc := by rw [← List.flatMap_append, List.take_append_drop]
   have hdl : ((l.drop (j + 1)).flatMap e.enc).length = (l.length - (j + 1)) * k := by rw [e.length, List.length_drop]
   have hcur : ∀ q x, (l.flatMap e.enc)[q]? = some x → cur[q]? = some x := fun q x hq => by
    rw [← htake, List.getElem?_take] at hq
    split at hq
    ·simpa using hq
    ·cases hq
   have htk : cur.toList.take (j * k) = (l.take j).flatMap e.enc := by
    have h1 : cur.toList.take (j * k) = (cur.toList.take (l.length * k)).take (j * k) := by
     rw [List.take_take, Nat.min_eq_left (Nat.mul_le_mul_right k oM)]
    rw [h1, htake, hsplit2, List.take_append_of_le_length (by rw [hk j oM]; exact Nat.le_refl _), List.take_of_length_le (by rw [hk j oM]; exact Nat.le_refl _)]
   -- the source
   by_cases hz : cap + 1 = j + 1
   ·-- the last one, and no more room: nothing follows
    have hjl : l.length = j + 1 := oM
    have hnil : l.drop (j + 1) = [] := List.drop_eq_nil_of_le oM
    have hrun : (Builtin.append_ #[t, t] ty #[sliced (some ⟨b, 0, none⟩) 0 j (cap + 1) k, sliced (some ⟨b, 0, none⟩) (j + 1) l.length (cap + 1) k]).run P w = .ok (.slice (some ⟨b, 0, none⟩) j (cap + 1)) w := by
     have hadd0 : (⟨b, 0, none⟩ : Addr).add 0 = ⟨b, 0, none⟩ := by unfold Addr.add; split <;> simp_all
     have hcj : cap = j := oM
     simp [Builtin.append_, sliced, run_underlying hT.und, hT.size w, Builtin.lenOf, Builtin.firstCells, loadCells, loadCellsFrom, storeCells, hjl, hadd0, hcj]
    refine ⟨_, w, g, _, ?_, ?_, rfl, rfl, rfl⟩
    ·rw [hjl] at hrun
     simp [execOp, resolve, invoke, builtin, ha.ev hx, ha.ev hy, hrun, hjl]
    ·refine hw.turn hi rfl ⟨rfl, Nat.le_refl _⟩ rfl (Nat.le_refl _) (fun _ _ _ => rfl) ?_ (fun b' hb' => ?_)
     ·have := row_holds (w := w) (T := T) (k := k) (n := l.length - 1) (b := b) (cap := cap) (xs := (l.eraseIdx j).flatMap e.enc) (by rw [e.length, hlen']) hg oM hcm hcs (by rw [herase, hnil, show l.length - 1 = j by omega, htk]; simp)
      simpa only [rowA, hlen'] using this
     ·simp only [rowA, row, rblk, Option.some.injEq] at hb'
      subst hb'
      exact ⟨hfr.2, .inl rfl⟩
   ·have hadd : (⟨b, 0, none⟩ : Addr).add ((j + 1) * k) = ⟨b, (j + 1) * k, none⟩ := by unfold Addr.add; split <;> simp_all
    have hadd0 : (⟨b, 0, none⟩ : Addr).add 0 = ⟨b, 0, none⟩ := by unfold Addr.add; split <;> simp_all
    have hsrc : sliced (some ⟨b, 0, none⟩) (j + 1) l.length (cap + 1) k = .slice (some ⟨b, (j + 1) * k, none⟩) (l.length - (j + 1)) (cap + 1 - (j + 1)) := by
     simp only [sliced]; rw [if_neg hz]; simp [hadd]
    have hdst : sliced (some ⟨b, 0, none⟩) 0 j (cap + 1) k = .slice (some ⟨b, 0, none⟩) j (cap + 1) := by
     simp [sliced, hadd0]
    have hcells : ∀ q x, ((l.drop (j + 1)).flatMap e.enc)[q]? = some x → w.cell? ((⟨b, (j + 1) * k, none⟩ : Addr).add q) = some x := fun q x hq => by
     have hadd2 : (⟨b, (j + 1) * k, none⟩ : Addr).add q = ⟨b, (j + 1) * k + q, none⟩ := by unfold Addr.add; split <;> simp_all
     have h1 : (l.flatMap e.enc)[(j + 1) * k + q]? = some x := by
      rw [hsplit, List.getElem?_append_right (by rw [hk (j + 1) oM]; omega), hk (j + 1) oM, Nat.add_sub_cancel_left]
      exact hq
     have h2 := hcur _ _ h1
     simp only [World.cell?, hadd2, hg]
     simpa using h2
    have hroom : j + (l.length - (j + 1)) ≤ cap + 1 := oM
    have hfit : j * k + ((l.drop (j + 1)).flatMap e.enc).length ≤ cur.size := by
     rw [hdl, hcs, ← Nat.add_mul]
     exact Nat.mul_le_mul_right k hroom
    have h5 := run_append_room (P := P) w t ty T ti hT.und ht1 b j (cap + 1) cur hg ⟨b, (j + 1) * k, none⟩ (l.length - (j + 1)) (cap + 1 - (j + 1)) ((l.drop (j + 1)).flatMap e.enc) (by rw [ht3]; exact hdl) hcells (e.ones _) hroom (by rw [ht3]; exact hfit)
    rw [ht3] at h5
    refine ⟨_, w.setRow b (cur.toList.take (j * k) ++ (l.drop (j + 1)).flatMap e.enc ++ cur.toList.drop (j * k + ((l.drop (j + 1)).flatMap e.enc).length)).toArray, g, _, ?_, ?_, rfl, rfl, rfl⟩
    ·have h7 := run_appendOp (dst := dst) (pos := pos) (af := af) (gd := gd) (ha.ev hx) (ha.ev hy) (by rw [hsrc, hdst]; exact h5)
     rw [h7, show j + (l.length - (j + 1)) = l.length - 1 by omega]
    ·refine hw.turn hi rfl ⟨rfl, Nat.le_refl _⟩ rfl (by simp) (fun k' _ hk' => setRow_other w b k' _ (fun e1 => hk' (by simp [rowA, row, rblk, e1]))) ?_ (fun b' hb' => ?_)
     ·have := row_holds (w := w.setRow b (cur.toList.take (j * k) ++ (l.drop (j + 1)).flatMap e.enc ++ cur.toList.drop (j * k + ((l.drop (j + 1)).flatMap e.enc).length)).toArray) (T := T) (k := k) (n := l.length - 1) (b := b) (cap := cap) (xs := (l.eraseIdx j).flatMap e.enc) (by rw [e.length, hlen']) (setRow_heap w b cur _ T _ hg) oM hcm
       (by
        simp only [List.size_toArray, List.length_append, List.length_take, List.length_drop, Array.length_toList]
        omega)
       (by
        have h6 : (l.length - 1) * k = ((l.eraseIdx j).flatMap e.enc).length := by rw [e.length, hlen']
        rw [h6, herase, htk]
        exact List.take_left)
      simpa only [rowA, hlen'] using this
     ·simp only [rowA, row, rblk, Option.some.injEq] at hb'
      subst hb'
      exact ⟨by simpa using hfr.2, .inl rfl⟩
end
end Go.Sy
namespace Go.Sy
open Go
theorem mem_zeroCells {z : Array Value} {n : Nat} {u : Value} (hz : ∀ v ∈ z.toList, v.oneCell' = true) (hu : u ∈ (Builtin.zeroCells z n).toList) : u.oneCell' = true := by
 simp only [Builtin.zeroCells, Array.toList_map, List.mem_map] at hu
 obtain ⟨i, hi, rfl⟩ := hu
 have hi' : i < n * z.size := by simpa using hi
 have hpos : 0 < z.size := by
  rcases Nat.eq_zero_or_pos z.size with h | h
  ·rw [h] at hi'; simp at hi'
  ·exact h
 have hlt : i % z.size < z.size := Nat.mod_lt _ hpos
 have : z[i % z.size]! = z[i % z.size] := getElem!_pos z _ hlt
 rw [this]
 exact hz _ (by simp)
section
variable {α : Type} {k : Nat} {e : Enc α k} {P : Program} {N : Nat} {E : World} {f : Fr} {g : PH} {s : Own} {dst : Option Tmp} {ty : TypeId} {pos : String} {af : Array Edge} {gd : Option (Nat × Bool)}
theorem Rd.from {b o n c m d : Nat} {xs : List Value} (h : Rd g s (.slice (some ⟨b, 0, none⟩) n c) xs) : Rd g s (.slice (some ⟨b, o, none⟩) m d) (xs.drop o) := fun E w hw j x hj => by
 rw [List.getElem?_drop] at hj
 obtain ⟨a, n', c', he, hs, hc⟩ := h E w hw (o + j) x hj
 injection he with e1
 injection e1 with e1
 subst e1
 exact ⟨_, _, _, rfl, rfl, by simpa [Nat.add_assoc] using hc⟩
theorem Enc.drop {l : List α} (j : Nat) : (l.drop j).flatMap e.enc = (l.flatMap e.enc).drop (j * k) := by
 induction l generalizing j with
 | nil => simp
 | cons y r ih =>
  cases j with
  | zero => simp
  | succ j =>
   rw [List.drop_succ_cons, List.flatMap_cons, ih, List.drop_append, e.len, show (j + 1) * k - k = j * k by rw [Nat.succ_mul]; omega, List.drop_of_length_le (l := e.enc y) (by rw [e.len, Nat.succ_mul]; omega)]
   simp
theorem Rd.fromA {b o n c m d : Nat} {l : List α} (h : Rd g s (.slice (some ⟨b, 0, none⟩) n c) (l.flatMap e.enc)) : Rd g s (.slice (some ⟨b, o * k, none⟩) m d) ((l.drop o).flatMap e.enc) := by
 rw [Enc.drop]
 exact h.from
theorem At.shrink {w : World} {T : TypeId} {p : Option Addr} {n c i m : Nat} {D J : List α} (h : At E g s w) (hi : s[i]? = some (rowA e T (.slice p n c) (D ++ J))) (hm : m = D.length) : At E g (s.set i (rowA e T (.slice p m c) D)) w := by
 subst hm
 obtain ⟨hxl, hform⟩ := row_is h hi
 have hsame : (rowA e T (.slice p D.length c) D).blk = (rowA e T (.slice p n c) (D ++ J)).blk := by
  cases p <;> cases c <;> rfl
 refine h.turn hi rfl ⟨rfl, Nat.le_refl _⟩ rfl (Nat.le_refl _) (fun _ _ _ => rfl) ?_ (fun b hb => ?_)
 ·rcases hform with ⟨q, he, h0⟩ | ⟨b, cap, cur, he, hg, hle, hcm, hcs, htake⟩
  ·injection he with e1 e2 e3
   subst e3
   have hD : D = [] := List.eq_nil_of_length_eq_zero (by rw [List.length_append] at h0; omega)
   subst hD
   exact ⟨by simp, .inl ⟨p, rfl, rfl⟩⟩
  ·injection he with e1 e2 e3
   subst e1; subst e3
   refine row_holds (by rw [e.length]) hg (by simp at hle; omega) hcm hcs ?_
   have h1 : cur.toList.take (D.length * k) = (cur.toList.take ((D ++ J).length * k)).take (D.length * k) := by
    rw [List.take_take, Nat.min_eq_left (Nat.mul_le_mul_right k (by simp))]
   rw [h1, htake, List.flatMap_append, List.take_append_of_le_length (by rw [e.length]; exact Nat.le_refl _), List.take_of_length_le (by rw [e.length]; exact Nat.le_refl _)]
 ·rw [hsame] at hb
  exact ⟨(h.fresh _ (List.mem_of_getElem? hi) b hb).2, .inl hb⟩
theorem SO.clearA {x : Operand} {t T : TypeId} {bytes b c m n d : Nat} {z : Value} {D : List α} (i : Nat) (hT : STy P t T k bytes z) (hz : ∀ v ∈ z.cells.toList, v.oneCell' = true) (hx : ev f x = some (.slice (some ⟨b, D.length * k, none⟩) m d)) (hi : s[i]? = some (rowA e T (.slice (some ⟨b, 0, none⟩) n (c + 1)) D)) (hn : n = D.length) (hm : D.length + m ≤ c + 1) :
  SO P N E ⟨dst, .call ⟨.builtin .clear, #[x], #[t]⟩, ty, pos, af, gd⟩ f g s fun _ g' s' => g = g' ∧ s = s' :=
 SO.of_run fun a w ha hw => by
  subst hn
  obtain ⟨hxl, hform⟩ := row_is hw hi
  rcases hform with ⟨q, he, h0⟩ | ⟨b', cap, cur, he, hg, hle, hcm, hcs, htake⟩
  ·injection he with e1 e2 e3
   cases e3
  ·injection he with e1 e2 e3
   injection e1 with e1
   injection e1 with e1
   injection e3 with e3
   subst e1; subst e3
   have hfr := hw.fresh _ (List.mem_of_getElem? hi) b rfl
   by_cases hm0 : m = 0
   ·subst hm0
    refine ⟨.tuple #[], w, g, s, ?_, hw, rfl, rfl⟩
    simp [execOp, resolve, invoke, builtin, ha.ev hx, Builtin.clear_, run_underlying hT.und]
   ·have hlen : (Builtin.zeroCells z.cells m).toList.length = m * k := by simp [size_zeroCells, hT.zs]
    have hst := run_storeCells_at P b (D.length * k) T (Builtin.zeroCells z.cells m).toList 0 cur w hg (by rw [hlen, hcs, Nat.add_zero, ← Nat.add_mul]; exact Nat.mul_le_mul_right k hm) (fun v hv => mem_zeroCells hz hv)
    simp only [Nat.add_zero] at hst
    refine ⟨.tuple #[], w.setRow b (cur.toList.take (D.length * k) ++ (Builtin.zeroCells z.cells m).toList ++ cur.toList.drop (D.length * k + (Builtin.zeroCells z.cells m).toList.length)).toArray, g, s, ?_, ?_, rfl, rfl⟩
    ·cases m with
     | zero => exact absurd rfl hm0
     | succ m => simp [execOp, resolve, invoke, builtin, ha.ev hx, Builtin.clear_, run_underlying hT.und, hT.zero w]; simp only [Array.length_toList] at hst; rw [hst]; simp
    ·have h2 := hw.turn (w' := w.setRow b (cur.toList.take (D.length * k) ++ (Builtin.zeroCells z.cells m).toList ++ cur.toList.drop (D.length * k + (Builtin.zeroCells z.cells m).toList.length)).toArray) (e' := rowA e T (.slice (some ⟨b, 0, none⟩) D.length (c + 1)) D) hi rfl ⟨rfl, Nat.le_refl _⟩ rfl (by simp) (fun k' _ hk' => setRow_other w b k' _ (fun e1 => hk' (by simp [rowA, row, rblk, e1]))) (row_holds (by rw [e.length]) (setRow_heap w b cur _ T _ hg) hle hcm (by
       simp only [List.size_toArray, List.length_append, List.length_take, List.length_drop, Array.length_toList]
       have : D.length * k + m * k ≤ (c + 1) * k := by rw [← Nat.add_mul]; exact Nat.mul_le_mul_right k hm
       simp only [Array.length_toList] at hlen
       omega) (by
       have h3 : (cur.toList.take (D.length * k)).length = D.length * k := by
        have hcl : cur.toList.length = (c + 1) * k := by rw [Array.length_toList]; exact hcs
        rw [List.length_take, hcl]
        exact Nat.min_eq_left (Nat.mul_le_mul_right k hle)
       rw [List.append_assoc, List.take_append_of_le_length (by rw [h3]; exact Nat.le_refl _), List.take_of_length_le (by rw [h3]; exact Nat.le_refl _), htake])) (fun b' hb' => by
       simp only [rowA, row, rblk, Option.some.injEq] at hb'
       subst hb'
       exact ⟨by simpa using hfr.2, .inl rfl⟩)
     have hset : s.set i (rowA e T (.slice (some ⟨b, 0, none⟩) D.length (c + 1)) D) = s := by
      apply List.ext_getElem?
      intro q
      rw [List.getElem?_set]
      split
      ·rename_i e1; subst e1
       split
       ·exact hi.symm
       ·rename_i h2; rw [List.getElem?_eq_none oM]
      ·rfl
     rwa [hset] at h2
end
end Go.Sy
namespace Go.Sy
open Go
section
variable {α : Type} {k : Nat} {e : Enc α k} {P : Program} {N : Nat} {E : World} {f : Fr} {g : PH} {s : Own} {dst : Option Tmp} {ty : TypeId} {pos : String} {af : Array Edge} {gd : Option (Nat × Bool)}
theorem SO.appendZ {x y : Operand} {t tn T : TypeId} {kn : IntKind} {bytes n : Nat} {z : Value} (e : Enc α k) (hT : STy P t T k bytes z) (htn : P.underlying tn = some (.int kn)) (hx : ev f x = some (.slice none 0 0)) (hy : ev f y = some (vi n)) (h0 : 0 < n) (hb : n * bytes ≤ 140737488355328) (hlen : n ≤ 4611686018427387904) :
  SO P N E ⟨dst, .call ⟨.builtin .append, #[x, y], #[t, tn]⟩, ty, pos, af, gd⟩ f g s fun v' g' s' => ∃ b cap, v' = .slice (some ⟨b, 0, none⟩) n (cap + 1) ∧ n ≤ cap + 1 ∧ g = g' ∧ s' = rowA e T (.slice (some ⟨b, 0, none⟩) 0 (cap + 1)) [] :: s :=
 SO.of_run fun a w ha hw => by
  obtain ⟨ti, ht1, ht2, ht3, ht4⟩ := hT.info
  have h5 := Lib.run_append_nil_zeros (P := P) w t tn ty T ti z .i64 kn hT.und htn ht1 ht2 n h0 (by rw [ht3]; exact hT.pos) oM (by rw [ht4]; omega)
  have hge := grownCap_ge w n 0 T
  have hcm := grownCap_le_maxLen w n 0 T (by unfold maxLen; omega)
  obtain ⟨cap, hcap⟩ : ∃ cap, grownCap w n 0 T = cap + 1 := ⟨grownCap w n 0 T - 1, oM⟩
  rw [hcap] at h5 hge hcm
  have h6 := hw.emptyRow T k (none : Option Addr)
  have hrun : (execOp a.eval ⟨dst, .call ⟨.builtin .append, #[x, y], #[t, tn]⟩, ty, pos, af, gd⟩).run P w = .ok (.value (.slice (some ⟨w.heap.size, 0, none⟩) n (cap + 1))) (w.drew.alloc (.cells (Builtin.zeroCells z.cells n ++ Builtin.zeroCells z.cells (cap + 1 - n)) T)) := by
   simp [execOp, resolve, invoke, builtin, ha.ev hx, ha.ev hy, h5]
  refine ⟨_, _, g, _, hrun, ?_, _, _, rfl, hge, rfl, rfl⟩
  have hz : (Builtin.zeroCells z.cells n ++ Builtin.zeroCells z.cells (cap + 1 - n)).size = (cap + 1) * k := by
   rw [Array.size_append, size_zeroCells, size_zeroCells, hT.zs, ← Nat.add_mul]
   congr 1
   omega
  have hnew : (w.drew.alloc (.cells (Builtin.zeroCells z.cells n ++ Builtin.zeroCells z.cells (cap + 1 - n)) T)).heap[w.heap.size]? = some (.cells (Builtin.zeroCells z.cells n ++ Builtin.zeroCells z.cells (cap + 1 - n)) T (0, 0)) := heap_alloc_new w.drew _
  have h7 := h6.turn (i := 0) (w' := w.drew.alloc (.cells (Builtin.zeroCells z.cells n ++ Builtin.zeroCells z.cells (cap + 1 - n)) T)) (e' := rowA e T (.slice (some ⟨w.heap.size, 0, none⟩) 0 (cap + 1)) []) rfl rfl ⟨rfl, by exact Nat.le_add_right _ _⟩ rfl (by simp) (fun q hq _ => by (first | exact heap_alloc_old w.drew _ q hq | exact heap_alloc_old w.drew _ hq))
   (row_holds (by simp) hnew (Nat.zero_le _) hcm hz (by simp)) (fun b hb => by
    simp only [rowA, row, rblk, Option.some.injEq] at hb
    subst hb
    exact ⟨(Array.getElem?_eq_some_iff.1 hnew).1, .inr (Nat.le_refl _)⟩)
  simpa using h7
end
section
variable {α : Type} {k : Nat} {e : Enc α k} {P : Program} {N : Nat} {E : World} {f : Fr} {g : PH} {s : Own} {dst : Option Tmp} {ty : TypeId} {pos : String} {af : Array Edge} {gd : Option (Nat × Bool)}
theorem made_list {a : α} {zs : Array Value} (n : Nat) (hz : zs.toList = e.enc a) : (madeCells zs (n * k)).toList = (List.replicate n a).flatMap e.enc := by
 have hzs : zs.size = k := by rw [← Array.length_toList, hz, e.len]
 apply List.ext_getElem?
 intro q
 by_cases hq : q < n * k
 ·have hk : 0 < k := e.pos
  have hqk : q % k < k := Nat.mod_lt _ hk
  have hqd : q / k < n := (Nat.div_lt_iff_lt_mul hk).2 hq
  have hsz : q % k < zs.size := oM
  have h1 : (e.enc a)[q % k]? = some zs[q % k] := by rw [← hz]; simp [hsz]
  have h2 := e.get (l := List.replicate n a) (i := q / k) (j := q % k) (a := a) (by simp [hqd]) h1
  rw [show q / k * k + q % k = q by rw [Nat.mul_comm]; exact Nat.div_add_mod q k] at h2
  rw [h2]
  simp [madeCells, hq, hzs]
  rw [getElem!_pos zs _ hsz]
 ·rw [List.getElem?_eq_none (by simp [madeCells]; omega), List.getElem?_eq_none (by rw [e.length]; simp; omega)]
theorem SO.makeA {x y : Operand} {t T : TypeId} {bytes n : Nat} {z : Value} (e : Enc α k) (a : α) (hT : STy P t T k bytes z) (hz : z.cells.toList = e.enc a) (hx : ev f x = some (vi n)) (hy : ev f y = some (vi n)) (hb : n * bytes ≤ 140737488355328) (hlen : n ≤ 4611686018427387904) :
  SO P N E ⟨dst, .makeSlice t x y, ty, pos, af, gd⟩ f g s fun v' g' s' => ∃ b, v' = .slice (some ⟨b, 0, none⟩) n n ∧ g = g' ∧ s' = rowA e T (.slice (some ⟨b, 0, none⟩) n n) (List.replicate n a) :: s :=
 SO.of_run fun ac w ha hw => by
  obtain ⟨ti, ht1, ht2, ht3, ht4⟩ := hT.info
  have hbi : (ti.bytes : Int) * ((n : Nat) : Int) ≤ 281474976710656 := by
   rw [ht4, ← Int.natCast_mul, Nat.mul_comm]; omega
  have h5 := run_make (P := P) w t T ti z hT.und ht1 ht2 .i64 .i64 n n oM (Int.le_refl _) hbi oM
  simp only [Int.toNat_natCast] at h5
  rw [ht3] at h5
  have hrun : (execOp ac.eval ⟨dst, .makeSlice t x y, ty, pos, af, gd⟩).run P w = .ok (.value (.slice (some ⟨w.heap.size, 0, none⟩) n n)) (w.alloc (.cells (madeCells z.cells (n * k)) T)) := by
   simp [execOp, ha.ev hx, ha.ev hy, h5]
  have hnew : (w.alloc (.cells (madeCells z.cells (n * k)) T)).heap[w.heap.size]? = some (.cells (madeCells z.cells (n * k)) T (0, 0)) := heap_alloc_new w _
  refine ⟨_, _, g, _, hrun, ?_, _, rfl, rfl, rfl⟩
  have hml := made_list (e := e) (a := a) n hz
  cases n with
  | zero =>
   have h6 := hw.emptyRow T k (some ⟨w.heap.size, 0, none⟩)
   have h7 := h6.alloc (e := pt w.heap.size (.cells (madeCells z.cells (0 * k)) T (0, 0))) (o := .cells (madeCells z.cells (0 * k)) T (0, 0)) rfl rfl
   exact h7.sublist (List.sublist_cons_self _ _)
  | succ n =>
   have h6 := hw.alloc (e := pt w.heap.size (.cells (madeCells z.cells ((n + 1) * k)) T (0, 0))) (o := .cells (madeCells z.cells ((n + 1) * k)) T (0, 0)) rfl rfl
   exact h6.litRow hml (by simp) (by unfold maxLen; omega)
end
theorem SP.freeze {P : Program} {N : Nat} {E : World} {ops : Array Oper} {Q : Exit → Act → World → Prop} {g0 : PH} {s0 : Own} {tail : List Nat} {plan : List (Nat × Nat)} {f : Fr} {g : PH} {s : Own} {b : Nat} {o : Obj} (h : ∀ g', Le g g' → g' b = some o → SP P N E ops Q g0 s0 tail plan f g' s) : SP P N E ops Q g0 s0 tail plan f g (pt b o :: s) := fun L a w h1 hcl h2 ha hw hb => by
 have ho : w.heap[b]? = some o := by have := hw.own (pt b o) (by simp); simpa [pt] using this
 obtain ⟨h3, h4⟩ := hw.freeze (b := b) rfl ho
 exact h _ h4 (upd_self _ _ _) L a w h1 hcl h2 ha h3 hb
theorem SP.freezeRow {P : Program} {N : Nat} {E : World} {ops : Array Oper} {Q : Exit → Act → World → Prop} {g0 : PH} {s0 : Own} {tail : List Nat} {plan : List (Nat × Nat)} {f : Fr} {g : PH} {s : Own} {T : TypeId} {k n : Nat} {v : Value} {xs : List Value} (h : ∀ g', Le g g' → Sl g' k v n xs → SP P N E ops Q g0 s0 tail plan f g' s) : SP P N E ops Q g0 s0 tail plan f g (row T k v n xs :: s) := fun L a w h1 hcl h2 ha hw hb => by
 obtain ⟨g', h3, h4, h5⟩ := hw.freezeRow
 exact h g' h3 h5 L a w h1 hcl h2 ha h4 hb
end Go.Sy
