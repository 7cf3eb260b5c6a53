/- SyC2 SyC3 SoS SyS1 SyS2 -/
import Derived.Test.YtkdibcicncjpdaaGreatOw02
set_option linter.unusedSimpArgs false
set_option linter.unusedVariables false
namespace Go.Proofs.YtkdibcicncjpdaaGreat
open _root_.Go.Proofs.Tryz _root_.Go.Proofs.YtkdibcicncjpdaaGreat.Tryz
open Go Go.Sy Go.Pl Go.Proofs
set_option maxRecDepth 100000
def PTC (key : Rc → Int) (U V : List Rc) (i j : Int) : Prop := ∃ x y, U[i.toNat]? = some x ∧ V[j.toNat]? = some y ∧ key y < key x
def PFC (key : Rc → Int) (U V : List Rc) (i j : Int) : Prop := ∃ x y, U[i.toNat]? = some x ∧ V[j.toNat]? = some y ∧ key x ≤ key y
theorem srt_getC {key : Rc → Int} {l : List Rc} (hs : Srt key l) {i j : Nat} {x y : Rc} (hi : l[i]? = some x) (hj : l[j]? = some y) (h : i ≤ j) : key x ≤ key y := by
 obtain ⟨h1, rfl⟩ := List.getElem?_eq_some_iff.1 hi
 obtain ⟨h2, rfl⟩ := List.getElem?_eq_some_iff.1 hj
 rcases Nat.lt_or_eq_of_le h with h3 | h3
 ·exact List.pairwise_iff_getElem.1 hs i j h1 h2 h3
 ·subst h3; exact Int.le_refl _
theorem sym_geC {key : Rc → Int} {U V : List Rc} (hU : Srt key U) (hV : Srt key V) {i j : Nat} (h : PTC key U V i (j - 1)) (hj : 0 < j) : ∀ x ∈ U.drop i, ∀ y ∈ V.take j, key y < key x := by
 obtain ⟨x0, y0, h1, h2, h3⟩ := h
 intro x hx y hy
 obtain ⟨k1, hk1⟩ := List.mem_iff_getElem?.1 hx
 obtain ⟨k2, hk2⟩ := List.mem_iff_getElem?.1 hy
 rw [List.getElem?_drop] at hk1
 rw [List.getElem?_take] at hk2
 split at hk2
 ·have e1 := srt_getC hU h1 hk1 oM
  have e2 := srt_getC hV hk2 h2 oM
  omega
 ·cases hk2
theorem sym_leC {key : Rc → Int} {U V : List Rc} (hU : Srt key U) (hV : Srt key V) {i j : Nat} (h : PFC key U V (i - 1) j) (hi : 0 < i) : ∀ x ∈ U.take i, ∀ y ∈ V.drop j, key x ≤ key y := by
 obtain ⟨x0, y0, h1, h2, h3⟩ := h
 intro x hx y hy
 obtain ⟨k1, hk1⟩ := List.mem_iff_getElem?.1 hx
 obtain ⟨k2, hk2⟩ := List.mem_iff_getElem?.1 hy
 rw [List.getElem?_drop] at hk2
 rw [List.getElem?_take] at hk1
 split at hk1
 ·have e1 := srt_getC hU hk1 h1 oM
  have e2 := srt_getC hV h2 hk2 oM
  omega
 ·cases hk1
set_option maxHeartbeats 1000000 in
theorem symMergeC (E : World) (g : PH) (v cv : Value) (key : Rc → Int) (hc : CmpOk E cv encCell key g) : ∀ (n : Nat) (s : Own) (p U V q : List Rc) (_ : U.length + V.length = n) (hsU : Srt key U) (hsV : Srt key V) (hU0 : 0 < U.length) (hV0 : 0 < V.length) (hn : (p ++ U ++ V ++ q).length < 2305843009213693952)
  (a m b : Int) (ha : a = p.length) (hm : m = p.length + U.length) (hb : b = p.length + U.length + V.length),
  Ctr Tryz.prog E 146 #[v, vi a, vi m, vi b, cv] g (rowA encCell 51 v (p ++ U ++ V ++ q) :: s) (fun _ g' s' => g = g' ∧ ∃ W, Stab key (U ++ V) W ∧ Srt key W ∧ s' = rowA encCell 51 v (p ++ W ++ q) :: s) := by
 intro n
 induction n using Nat.strongRecOn with
 | _ n ih =>
 intro s p U V q hnn hsU hsV hU0 hV0 hn a m b ha hm hb
 by_cases hU1 : U.length = 1
 ·obtain ⟨x, rfl⟩ := List.length_eq_one_iff.1 hU1
  exact symOneC E g s v cv key hc p V q x hsV hn a m b ha hm hb
 by_cases hV1 : V.length = 1
 ·obtain ⟨y, rfl⟩ := List.length_eq_one_iff.1 hV1
  exact symLastC E g s v cv key hc p U q y hsU oM hn a m b ha hm hb
 refine Ctr.facts fun ⟨w0, hw0⟩ => ?_
 have hbs : based v = true := by
  obtain ⟨b0, c0, he⟩ := rowA_based (i := 0) hw0 rfl lN
  rw [he]; rfl
 have hsl : slen v = (p ++ U ++ V ++ q).length := by
  obtain ⟨pp0, cc0, he⟩ := rowA_form (i := 0) hw0 rfl
  rw [he]; rfl
 clear hw0 w0
 simp only [List.length_append] at hn hsl
 have hgU : ∀ (c : Int) (x : Rc), 0 ≤ c → U[c.toNat]? = some x → (p ++ U ++ V ++ q)[(a + c).toNat]? = some x := fun c x h0 hx => by
  have hlt := (List.getElem?_eq_some_iff.1 hx).1
  rw [List.append_assoc, List.append_assoc, List.getElem?_append_right oM, List.getElem?_append_left oM, show (a + c).toNat - p.length = c.toNat by omega]
  exact hx
 have hgV : ∀ (c : Int) (x : Rc), 0 ≤ c → V[c.toNat]? = some x → (p ++ U ++ V ++ q)[(m + c).toNat]? = some x := fun c x h0 hx => by
  have hlt := (List.getElem?_eq_some_iff.1 hx).1
  rw [List.getElem?_append_left lN, List.getElem?_append_right lN, show (m + c).toNat - (p ++ U).length = c.toNat by exact lN]
  exact hx
 refine Ctr.of (args := [v, vi a, vi m, vi b, cv]) func146 rfl ntmps146 (Nat.le_of_ble_eq_true rfl) ?_
 refine SC.seq (SC.seq (SC.region (SL.M rfl (SL.M rfl (SL.U (SU.sub rfl rfl oM) (SL.U (SU.eql rfl rfl) (SL.nil (ST.thenN ?_))))))))
 refine SC.ifP rfl (fun h1 => ?_) (fun h1 => ?_)
 ·omega
 refine SC.skip (ST.thenN (SC.seq (SC.seq (SC.region (SL.M rfl (SL.M rfl (SL.U (SU.sub rfl rfl oM) (SL.U (SU.eql rfl rfl) (SL.nil (ST.thenN ?_))))))))))
 refine SC.ifP rfl (fun h2 => ?_) (fun h2 => ?_)
 ·omega
 refine SC.skip (ST.thenN (SC.seq (SC.region (SL.M rfl (SL.M rfl (SL.U (SU.add rfl rfl oM) (SL.U (SU.convert underlying3 underlying113 rfl) (SL.U (SU.shr rfl rfl dC) (SL.U (SU.eq (SU.convert underlying113 underlying3 rfl) (congrArg vi (half_int _ oM oM))) (SL.A rfl (SL.nil (ST.thenN (SC.seq (SC.region (SL.M rfl (SL.M rfl (SL.U (SU.add rfl rfl oM) (SL.A rfl (SL.nil (ST.thenN (SC.seq (SC.region (SL.A rfl (SL.A rfl (SL.nil (ST.thenN ?_))))))))))))))))))))))))))
 generalize hmid : (a + b) / 2 = mid
 refine SC.cut (ι := Int × Int) (fun i => [(0, v), (1, vi a), (2, vi m), (3, vi b), (4, cv), (18, vi mid), (19, vi (mid + m)), (20, vi i.1), (21, vi i.2)]) (fun _ => g) (fun _ => rowA encCell 51 v (p ++ U ++ V ++ q) :: s)
  (fun i => (mid < m → i.1 = mid + m - b ∧ i.2 = mid) ∧ (¬ mid < m → i.1 = a ∧ i.2 = m)) ?_ ?_
 ·refine SC.seq (SC.region (SL.M rfl (SL.M rfl (SL.U (SU.gtr rfl rfl) (SL.nil (ST.thenN ?_))))))
  refine SC.ifP rfl (fun h3 => ?_) (fun h3 => ?_)
  ·refine SC.seq (SC.region (SL.M rfl (SL.M rfl (SL.U (SU.sub rfl rfl oM) (SL.A rfl (SL.nil (ST.thenN (SC.region (SL.M rfl (SL.A rfl (SL.nil ?_)))))))))))
   exact ST.mid (mid + m - b, mid) ⟨rfl, rfl, rfl, rfl, rfl, rfl, rfl, rfl, rfl, trivial⟩ rfl rfl ⟨fun _ => ⟨rfl, rfl⟩, fun h => absurd h3 h⟩
  ·refine SC.seq (SC.region (SL.M rfl (SL.A rfl (SL.nil (ST.thenN (SC.region (SL.M rfl (SL.A rfl (SL.nil ?_)))))))))
   exact ST.mid (a, m) ⟨rfl, rfl, rfl, rfl, rfl, rfl, rfl, rfl, rfl, trivial⟩ rfl rfl ⟨fun h => absurd h h3, fun _ => ⟨rfl, rfl⟩⟩
 rintro ⟨st0, r0⟩ ⟨hc1, hc2⟩
 dsimp only at hc1 hc2 ⊢
 have hb0 : a ≤ st0 ∧ st0 ≤ r0 ∧ r0 ≤ m ∧ r0 ≤ mid ∧ mid - st0 ≤ V.length := by
  by_cases h : mid < m
  ·have := hc1 h; omega
  ·have := hc2 h; omega
 refine SC.seq (SC.region (SL.M rfl (SL.U (SU.sub rfl rfl oM) (SL.A rfl (SL.nil (ST.thenN ?_))))))
 refine SC.cut (ι := Int) (fun i => [(0, v), (1, vi a), (2, vi m), (3, vi b), (4, cv), (18, vi mid), (19, vi (mid + m)), (20, vi i)]) (fun _ => g) (fun _ => rowA encCell 51 v (p ++ U ++ V ++ q) :: s)
  (fun i => st0 ≤ i ∧ i ≤ r0 ∧ (i = st0 ∨ PFC key U V (i - 1 - a) (mid - i)) ∧ (i = r0 ∨ PTC key U V (i - a) (mid - 1 - i))) ?_ ?_
 ·refine SC.block ?_
  refine SC.loop (ι := Int × Int) (fun i => [(0, v), (1, vi a), (2, vi m), (3, vi b), (4, cv), (18, vi mid), (19, vi (mid + m)), (20, vi i.1), (21, vi i.2), (22, vi (mid + m - 1))]) (fun _ => g) (fun _ => rowA encCell 51 v (p ++ U ++ V ++ q) :: s)
   (fun i => st0 ≤ i.1 ∧ i.1 ≤ i.2 ∧ i.2 ≤ r0 ∧ (i.1 = st0 ∨ PFC key U V (i.1 - 1 - a) (mid - i.1)) ∧ (i.2 = r0 ∨ PTC key U V (i.2 - a) (mid - 1 - i.2))) (fun i => (i.2 - i.1).toNat) (st0, r0)
   ⟨rfl, rfl, rfl, rfl, rfl, rfl, rfl, rfl, rfl, rfl, trivial⟩ rfl rfl ⟨lN, lN, lN, .inl rfl, .inl rfl⟩ ?_
  rintro ⟨st, r⟩ ⟨hj1, hj2, hj3, hj4, hj5⟩
  dsimp only at hj1 hj2 hj3 hj4 hj5 ⊢
  refine SC.seq (SC.seq (SC.region (SL.M rfl (SL.M rfl (SL.U (SU.lss rfl rfl) (SL.nil (ST.thenN ?_)))))))
  refine SC.ifP rfl (fun hlt => ?_) (fun hlt => ?_)
  ·obtain ⟨x, hx⟩ : ∃ x, U[((st + r) / 2 - a).toNat]? = some x := ⟨_, List.getElem?_eq_getElem oM⟩
   obtain ⟨y, hy⟩ : ∃ y, V[(mid - 1 - (st + r) / 2).toNat]? = some y := ⟨_, List.getElem?_eq_getElem oM⟩
   have hgx := hgU _ x oM hx
   have hgy := hgV _ y oM hy
   rw [show a + ((st + r) / 2 - a) = (st + r) / 2 by omega] at hgx
   rw [show m + (mid - 1 - (st + r) / 2) = mid + m - 1 - (st + r) / 2 by omega] at hgy
   refine SC.skip (ST.thenN (SC.block (SC.seq (SC.region (SL.M rfl (SL.M rfl (SL.U (SU.add rfl rfl oM) (SL.U (SU.convert underlying3 underlying113 rfl) (SL.U (SU.shr rfl rfl dC) (SL.U (SU.eq (SU.convert underlying113 underlying3 rfl) (congrArg vi (half_int _ oM oM))) (SL.A rfl (SL.nil (ST.thenN (SC.seq ?_))))))))))))))
   refine SC.draw [] [(0, 2), (1, 2), (2, 2), (3, 2), (4, 2), (5, 2), (6, 1), (7, 2), (8, 2), (9, 2), (10, 1), (11, 0), (12, 2), (13, 2)] Tryz.mixed (by kernel_rfl) ?_
   refine SP.U (i := 0) rfl (SU.move rfl) (SP.U (i := 1) rfl (SU.move rfl) (SP.U (i := 2) rfl (SU.move rfl) (SP.U (i := 3) rfl (SU.move rfl) (SP.U (i := 4) rfl (SU.sub rfl rfl oM) (SP.U (i := 5) rfl (SU.indexAddr underlying25 sizeOf51 rfl rfl hbs oM (by rw [hsl]; omega)) ?_)))))
   refine SP.K (i := 6) rfl (SQ.elemA isAgg51 sizeOf51 rfl (Rd.rowA 0 rfl) hgy) (SP.U (i := 7) rfl (SU.move rfl) (SP.U (i := 8) rfl (SU.move rfl) (SP.U (i := 9) rfl (SU.indexAddr underlying25 sizeOf51 rfl rfl hbs oM (by rw [hsl]; omega)) ?_)))
   refine SP.K (i := 10) rfl (SQ.elemA isAgg51 sizeOf51 rfl (Rd.rowA 0 rfl) hgx) (SP.o (i := 11) rfl (SO.callV rfl rfl (hc _ _ _ _ (Le.refl _))) dC (.inr (by rintro _ _ _ ⟨rfl, rfl, rfl⟩; exact ⟨by exact Le.refl _, (by exact .refl _)⟩)) ?_)
   rintro _ _ _ ⟨rfl, rfl, rfl⟩
   refine SP.U (i := 12) rfl (SU.lss rfl rfl) (SP.U (i := 13) rfl (SU.notP rfl) (SP.nil (ST.thenN ?_)))
   refine SC.ifP rfl (fun hyx => ?_) (fun hyx => ?_)
   ·refine SC.region (SL.M rfl (SL.U (SU.add rfl rfl oM) (SL.A rfl (SL.nil (ST.blockN ?_)))))
    exact ST.again ((st + r) / 2 + 1, r) ⟨rfl, rfl, rfl, rfl, rfl, rfl, rfl, rfl, rfl, rfl, trivial⟩ rfl rfl ⟨lN, lN, lN, .inr ⟨x, y, by
     rw [show (st + r) / 2 + 1 - 1 - a = (st + r) / 2 - a by omega]; exact hx, by
     rw [show mid - ((st + r) / 2 + 1) = mid - 1 - (st + r) / 2 by omega]; exact hy, by have := mt cmpI_neg.2 hyx; omega⟩, hj5⟩ lN
   ·refine SC.region (SL.M rfl (SL.A rfl (SL.nil (ST.blockN ?_))))
    exact ST.again (st, (st + r) / 2) ⟨rfl, rfl, rfl, rfl, rfl, rfl, rfl, rfl, rfl, rfl, trivial⟩ rfl rfl ⟨lN, lN, lN, hj4, .inr ⟨x, y, hx, hy, cmpI_neg.1 (Decidable.of_not_not hyx)⟩⟩ lN
  ·refine SC.exit (ST.thenX (ST.thenX (ST.blockX ?_)))
   have hsr : st = r := oM
   subst hsr
   exact ST.mid st ⟨rfl, rfl, rfl, rfl, rfl, rfl, rfl, rfl, trivial⟩ rfl rfl ⟨hj1, hj3, hj4, hj5⟩
 rintro st ⟨hj1, hj2, hj4, hj5⟩
 try dsimp only
 -- the four pieces
 obtain ⟨i, hi⟩ : ∃ i : Nat, st = a + i := ⟨(st - a).toNat, oM⟩
 obtain ⟨j, hj⟩ : ∃ j : Nat, mid = st + j := ⟨(mid - st).toNat, oM⟩
 have H1 : ∀ x ∈ U.drop i, ∀ y ∈ V.take j, key y < key x := by
  rcases hj5 with h | h
  ·intro x hx y hy
   have e1 := List.length_pos_of_mem hx
   have e2 := List.length_pos_of_mem hy
   simp only [List.length_drop, List.length_take] at e1 e2
   exfalso
   by_cases hh : mid < m
   ·have := hc1 hh; omega
   ·have := hc2 hh; omega
  ·by_cases hj0 : 0 < j
   ·refine sym_geC hsU hsV ?_ hj0
    rw [show st - a = (i : Int) by omega, show mid - 1 - st = (j : Int) - 1 by omega] at h
    exact h
   ·intro x hx y hy
    have e2 := List.length_pos_of_mem hy
    simp only [List.length_take] at e2
    omega
 have H2 : ∀ x ∈ U.take i, ∀ y ∈ V.drop j, key x ≤ key y := by
  rcases hj4 with h | h
  ·intro x hx y hy
   have e1 := List.length_pos_of_mem hx
   have e2 := List.length_pos_of_mem hy
   simp only [List.length_drop, List.length_take] at e1 e2
   exfalso
   by_cases hh : mid < m
   ·have := hc1 hh; omega
   ·have := hc2 hh; omega
  ·by_cases hi0 : 0 < i
   ·refine sym_leC hsU hsV ?_ hi0
    rw [show st - 1 - a = (i : Int) - 1 by omega, show mid - st = (j : Int) by omega] at h
    exact h
   ·intro x hx y hy
    have e2 := List.length_pos_of_mem hx
    simp only [List.length_take] at e2
    omega
 have hil : i ≤ U.length := oM
 have hjl : j ≤ V.length := oM
 have hUe : U = U.take i ++ U.drop i := (List.take_append_drop i U).symm
 have hVe : V = V.take j ++ V.drop j := (List.take_append_drop j V).symm
 have l1 : (U.take i).length = i := lN
 have l2 : (U.drop i).length = U.length - i := lN
 have l3 : (V.take j).length = j := lN
 have l4 : (V.drop j).length = V.length - j := lN
 have hsU' := hsU
 have hsV' := hsV
 rw [hUe] at hsU'
 rw [hVe] at hsV'
 obtain ⟨su1, su2, su3⟩ := Srt.append_iff.1 hsU'
 obtain ⟨sv1, sv2, sv3⟩ := Srt.append_iff.1 hsV'
 have hrow : p ++ U ++ V ++ q = p ++ U.take i ++ U.drop i ++ V.take j ++ V.drop j ++ q := by
  conv => lhs; rw [hUe, hVe]
  simp
 have hst : Stab key (U ++ V) ((U.take i ++ V.take j) ++ (U.drop i ++ V.drop j)) := by
  have e : U ++ V = (U.take i ++ (U.drop i ++ V.take j)) ++ V.drop j := by
   rw [← List.append_assoc (U.take i), List.take_append_drop, List.append_assoc, List.take_append_drop]
  rw [e]
  have h := Stab.append (Stab.append (Stab.refl (key := key) (U.take i)) (Stab.swap (key := key) (a := U.drop i) (b := V.take j) (fun x hx y hy => by have := H1 x hx y hy; omega))) (Stab.refl (key := key) (V.drop j))
  simpa using h
 clear hsU' hsV'
 generalize U.take i = U1 at *
 generalize U.drop i = U2 at *
 generalize V.take j = V1 at *
 generalize V.drop j = V2 at *
 rw [hrow]
 refine SC.seq (SC.region (SL.M rfl (SL.M rfl (SL.U (SU.sub rfl rfl oM) (SL.A rfl (SL.nil (ST.thenN ?_)))))))
 refine SC.cut (ι := Unit) (fun _ => [(0, v), (1, vi a), (2, vi m), (3, vi b), (4, cv), (18, vi mid), (20, vi st), (24, vi (mid + m - st))]) (fun _ => g) (fun _ => rowA encCell 51 v (p ++ U1 ++ V1 ++ (U2 ++ V2 ++ q)) :: s) (fun _ => True) ?_ ?_
 ·refine SC.cutB 185 (decide (st < m ∧ m < mid + m - st)) ?_ ?_
  ·refine SC.region (SL.M rfl (SL.M rfl (SL.U (SU.lss rfl rfl) (SL.M rfl ?_))))
   refine SL.split ?_ ?_
   ·intro h181
    refine SL.Y rfl rfl rfl (SU.move rfl) (SL.Y rfl rfl rfl (SU.move rfl) (SL.Y rfl rfl rfl (SU.lss rfl rfl) (SL.U (SU.pickT rfl rfl) (SL.nil ?_))))
    exact ST.mid1 (by simp [get?, h181]) mI
   ·intro h181
    refine SL.Z rfl rfl rfl (SL.Z rfl rfl rfl (SL.Z rfl rfl rfl (SL.U (SU.pickF rfl rfl) (SL.nil ?_))))
    exact ST.mid1 (by simp [get?, h181]) mI
  refine SC.ifP rfl (fun h3 => ?_) (fun h3 => ?_)
  ·have e1 : p ++ U1 ++ U2 ++ V1 ++ V2 ++ q = p ++ U1 ++ U2 ++ V1 ++ (V2 ++ q) := by simp
   rw [e1]
   refine SC.region (SL.M rfl (SL.M rfl (SL.M rfl (SL.M rfl (SL.M rfl (SL.W (SO.call call151 rfl (rotateC E g s v cv (p ++ U1) U2 V1 (V2 ++ q) oM oM lN _ _ _ lN lN lN)) ?_))))))
   rintro _ _ _ ⟨rfl, rfl⟩
   refine SL.nil ?_
   exact ST.mid () ⟨rfl, rfl, rfl, rfl, rfl, rfl, rfl, rfl, trivial⟩ rfl (by simp) trivial
  ·refine SC.skip ?_
   exact ST.mid () ⟨rfl, rfl, rfl, rfl, rfl, rfl, rfl, rfl, trivial⟩ rfl (by
    have : U2 = [] ∨ V1 = [] := by
     by_cases h : st < m
     ·right; exact List.eq_nil_of_length_eq_zero oM
     ·left; exact List.eq_nil_of_length_eq_zero oM
    rcases this with h | h <;> simp [h]) trivial
 rintro ⟨⟩ -
 try dsimp only
 refine SC.cut (ι := List Rc) (fun _ => [(0, v), (1, vi a), (2, vi m), (3, vi b), (4, cv), (18, vi mid), (20, vi st), (24, vi (mid + m - st))]) (fun _ => g) (fun W1 => rowA encCell 51 v (p ++ W1 ++ U2 ++ V2 ++ q) :: s) (fun W1 => Stab key (U1 ++ V1) W1 ∧ Srt key W1) ?_ ?_
 ·refine SC.cutB 199 (decide (a < st ∧ st < mid)) ?_ ?_
  ·refine SC.region (SL.M rfl (SL.M rfl (SL.U (SU.lss rfl rfl) (SL.M rfl ?_))))
   refine SL.split ?_ ?_
   ·intro h195
    refine SL.Y rfl rfl rfl (SU.move rfl) (SL.Y rfl rfl rfl (SU.move rfl) (SL.Y rfl rfl rfl (SU.lss rfl rfl) (SL.U (SU.pickT rfl rfl) (SL.nil ?_))))
    exact ST.mid1 (by simp [get?, h195]) mI
   ·intro h195
    refine SL.Z rfl rfl rfl (SL.Z rfl rfl rfl (SL.Z rfl rfl rfl (SL.U (SU.pickF rfl rfl) (SL.nil ?_))))
    exact ST.mid1 (by simp [get?, h195]) mI
  refine SC.ifP rfl (fun h3 => ?_) (fun h3 => ?_)
  ·refine SC.region (SL.M rfl (SL.M rfl (SL.M rfl (SL.M rfl (SL.M rfl (SL.W (SO.call call146 rfl (ih (U1.length + V1.length) oM s p U1 V1 (U2 ++ V2 ++ q) rfl su1 sv1 oM oM lN _ _ _ lN lN lN)) ?_))))))
   rintro _ _ _ ⟨rfl, W1, hW1, hW2, rfl⟩
   refine SL.nil ?_
   exact ST.mid W1 ⟨rfl, rfl, rfl, rfl, rfl, rfl, rfl, rfl, trivial⟩ rfl (by simp) ⟨hW1, hW2⟩
  ·refine SC.skip ?_
   have he : U1 = [] ∨ V1 = [] := by
    by_cases h : a < st
    ·right; exact List.eq_nil_of_length_eq_zero oM
    ·left; exact List.eq_nil_of_length_eq_zero oM
   exact ST.mid (U1 ++ V1) ⟨rfl, rfl, rfl, rfl, rfl, rfl, rfl, rfl, trivial⟩ rfl (by simp) ⟨Stab.refl _, by rcases he with h | h <;> simpa [h]⟩
 rintro W1 ⟨hW1, hW2⟩
 try dsimp only
 have hW1l : W1.length = U1.length + V1.length := by have := hW1.1; simpa using this
 have hfin : ∀ W2, Stab key (U2 ++ V2) W2 → Srt key W2 → Stab key (U ++ V) (W1 ++ W2) ∧ Srt key (W1 ++ W2) := fun W2 h5 h6 => by
  refine ⟨hst.trans (hW1.append h5), Srt.append_iff.2 ⟨hW2, h6, fun x hx y hy => ?_⟩⟩
  have e1 := hW1.mem hx
  have e2 := h5.mem hy
  rcases List.mem_append.1 e1 with e1 | e1 <;> rcases List.mem_append.1 e2 with e2 | e2
  ·exact su3 x e1 y e2
  ·exact H2 x e1 y e2
  ·exact Int.le_of_lt (H1 y e2 x e1)
  ·exact sv3 x e1 y e2
 refine SC.cutB 213 (decide (mid < mid + m - st ∧ mid + m - st < b)) ?_ ?_
 ·refine SC.region (SL.M rfl (SL.M rfl (SL.U (SU.lss rfl rfl) (SL.M rfl ?_))))
  refine SL.split ?_ ?_
  ·intro h209
   refine SL.Y rfl rfl rfl (SU.move rfl) (SL.Y rfl rfl rfl (SU.move rfl) (SL.Y rfl rfl rfl (SU.lss rfl rfl) (SL.U (SU.pickT rfl rfl) (SL.nil ?_))))
   exact ST.mid1 (by simp [get?, h209]) mI
  ·intro h209
   refine SL.Z rfl rfl rfl (SL.Z rfl rfl rfl (SL.Z rfl rfl rfl (SL.U (SU.pickF rfl rfl) (SL.nil ?_))))
   exact ST.mid1 (by simp [get?, h209]) mI
 refine SC.ifP rfl (fun h3 => ?_) (fun h3 => ?_)
 ·refine SC.region (SL.M rfl (SL.M rfl (SL.M rfl (SL.M rfl (SL.M rfl (SL.W (SO.call call146 rfl (ih (U2.length + V2.length) oM s (p ++ W1) U2 V2 q rfl su2 sv2 oM oM lN _ _ _ lN lN lN)) ?_))))))
  rintro _ _ _ ⟨rfl, W2, hW3, hW4, rfl⟩
  refine SL.nil ?_
  obtain ⟨h5, h6⟩ := hfin W2 hW3 hW4
  exact ST.ret0 (.inr rfl) results146 ⟨rfl, W1 ++ W2, h5, h6, by simp⟩
 ·refine SC.skip ?_
  have he : U2 = [] ∨ V2 = [] := by
   by_cases h : mid < mid + m - st
   ·right; exact List.eq_nil_of_length_eq_zero oM
   ·left; exact List.eq_nil_of_length_eq_zero oM
  obtain ⟨h5, h6⟩ := hfin (U2 ++ V2) (Stab.refl _) (by rcases he with h | h <;> simpa [h])
  exact ST.ret0 (.inr rfl) results146 ⟨rfl, W1 ++ (U2 ++ V2), h5, h6, by simp⟩
theorem stableC (E : World) (g : PH) (s : Own) (v cv : Value) (key : Rc → Int) (hc : CmpOk E cv encCell key g) (l : List Rc) (hn : l.length < 1152921504606846976) (n : Int) (hnl : n = l.length) :
  Ctr Tryz.prog E 134 #[v, vi n, cv] g (rowA encCell 51 v l :: s) (fun _ g' s' => g = g' ∧ s' = rowA encCell 51 v (sortBy key l) :: s) := by
 refine Ctr.of (args := [v, vi n, cv]) func134 rfl ntmps134 (Nat.le_of_ble_eq_true rfl) ?_
 refine SC.seq (SC.region (SL.A rfl (SL.nil (ST.thenN (SC.seq (SC.region (SL.M rfl (SL.A rfl (SL.A rfl (SL.nil (ST.thenN ?_)))))))))))
 refine SC.cut (ι := List Rc × List Rc) (fun i => [(0, v), (1, vi n), (2, cv), (6, vi 20), (7, vi i.1.length)]) (fun _ => g) (fun i => rowA encCell 51 v (i.1 ++ i.2) :: s)
  (fun i => FC key 20 i.1 ∧ Stab key l (i.1 ++ i.2) ∧ i.2.length < 20) ?_ ?_
 ·refine SC.block ?_
  refine SC.loop (ι := List Rc × List Rc) (fun i => [(0, v), (1, vi n), (2, cv), (6, vi 20), (7, vi i.1.length), (8, vi (i.1.length + 20))]) (fun _ => g) (fun i => rowA encCell 51 v (i.1 ++ i.2) :: s)
   (fun i => FC key 20 i.1 ∧ Stab key l (i.1 ++ i.2)) (fun i => i.2.length) ([], l)
   ⟨rfl, rfl, rfl, rfl, rfl, rfl, trivial⟩ rfl rfl ⟨FC.nil, Stab.refl _⟩ ?_
  rintro ⟨d, r⟩ ⟨hd, hst⟩
  dsimp only at hd hst ⊢
  have hlen : d.length + r.length = l.length := by have := hst.1; simpa using this
  refine SC.seq (SC.seq (SC.region (SL.M rfl (SL.M rfl (SL.U (SU.leq rfl rfl) (SL.nil (ST.thenN ?_)))))))
  refine SC.ifP rfl (fun hle => ?_) (fun hle => ?_)
  ·obtain ⟨c, r', hr, hcl⟩ : ∃ c r', r = c ++ r' ∧ c.length = 20 := ⟨r.take 20, r.drop 20, by simp, lN⟩
   have hrl : r.length = 20 + r'.length := by rw [hr]; simp [hcl]
   have e1 : d ++ r = d ++ c ++ r' := by rw [hr]; simp
   rw [e1] at hst ⊢
   refine SC.skip (ST.thenN (SC.block (SC.seq (SC.region (SL.M rfl (SL.M rfl (SL.M rfl (SL.M rfl (SL.W (SO.call call145 rfl (insertionC E g s v cv key hc d c r' lN _ _ lN lN)) ?_)))))))))
   rintro _ _ _ ⟨rfl, c', hc1, hc2, rfl⟩
   refine SL.nil (ST.thenN (SC.seq (SC.region (SL.M rfl (SL.A rfl (SL.nil (ST.thenN (SC.region (SL.M rfl (SL.M rfl (SL.U (SU.add rfl rfl oM) (SL.A rfl (SL.nil (ST.blockN ?_))))))))))))))
   have hc'l : c'.length = 20 := by have := hc1.1; omega
   exact ST.again (d ++ c', r') ⟨rfl, rfl, rfl, rfl, vi_eq lN, vi_eq lN, trivial⟩ rfl rfl ⟨hd.snoc hc'l hc2, hst.trans (Stab.append (Stab.append (Stab.refl _) hc1) (Stab.refl _))⟩ lN
  ·refine SC.exit (ST.thenX (ST.thenX (ST.blockX ?_)))
   exact ST.mid (d, r) ⟨rfl, rfl, rfl, rfl, rfl, trivial⟩ rfl rfl ⟨hd, hst, lN⟩
 rintro ⟨d, r⟩ ⟨hd, hst, hr20⟩
 dsimp only at hd hst hr20 ⊢
 have hlen : d.length + r.length = l.length := by have := hst.1; simpa using this
 have e1 : d ++ r = d ++ r ++ [] := by simp
 rw [e1]
 refine SC.seq (SC.region (SL.M rfl (SL.M rfl (SL.M rfl (SL.M rfl (SL.W (SO.call call145 rfl (insertionC E g s v cv key hc d r [] lN _ _ lN lN)) ?_))))))
 rintro _ _ _ ⟨rfl, r', hr1, hr2, rfl⟩
 refine SL.nil (ST.thenN (SC.block ?_))
 refine SC.loop (ι := Nat × List Rc × List Rc) (fun i => [(0, v), (1, vi n), (2, cv), (6, vi i.1)]) (fun _ => g) (fun i => rowA encCell 51 v (i.2.1 ++ i.2.2) :: s)
  (fun i => FC key i.1 i.2.1 ∧ Stab key l (i.2.1 ++ i.2.2) ∧ i.2.2.length < i.1 ∧ Srt key i.2.2) (fun i => l.length - i.1) (20, d, r')
  ⟨rfl, rfl, rfl, rfl, trivial⟩ rfl (by simp) ⟨hd, hst.trans (Stab.append (Stab.refl _) hr1), by have := hr1.1; (first | with_reducible rfl | ((try dsimp only); (try simp only [List.length_append, List.length_cons, List.length_nil, List.length_singleton, List.length_take, List.length_drop]) <;> omega)), hr2⟩ ?_
 clear hr1 hr2 r' e1 hlen hr20 hst hd r d
 rintro ⟨B, d, r⟩ ⟨hd, hst, hrB, hsr⟩
 dsimp only at hd hst hrB hsr ⊢
 have hlen : d.length + r.length = l.length := by have := hst.1; simpa using this
 refine SC.seq (SC.seq (SC.region (SL.M rfl (SL.M rfl (SL.U (SU.lss rfl rfl) (SL.nil (ST.thenN ?_)))))))
 refine SC.ifP rfl (fun hlt => ?_) (fun hlt => ?_)
 ·refine SC.skip (ST.thenN (SC.block (SC.seq (SC.region (SL.M rfl (SL.U (SU.mul rfl rfl oM) (SL.A rfl (SL.A rfl (SL.nil (ST.thenN ?_))))))))))
  refine SC.cut (ι := List Rc × List Rc) (fun i => [(0, v), (1, vi n), (2, cv), (6, vi B), (7, vi i.1.length)]) (fun _ => g) (fun i => rowA encCell 51 v (i.1 ++ i.2 ++ r) :: s)
   (fun i => FC key (2 * B) i.1 ∧ FC key B i.2 ∧ Stab key l (i.1 ++ i.2 ++ r) ∧ i.2.length + r.length < 2 * B) ?_ ?_
  ·refine SC.block ?_
   refine SC.loop (ι := List Rc × List Rc) (fun i => [(0, v), (1, vi n), (2, cv), (6, vi B), (7, vi i.1.length), (8, vi (i.1.length + 2 * B))]) (fun _ => g) (fun i => rowA encCell 51 v (i.1 ++ i.2 ++ r) :: s)
    (fun i => FC key (2 * B) i.1 ∧ FC key B i.2 ∧ Stab key l (i.1 ++ i.2 ++ r)) (fun i => i.2.length) ([], d)
    ⟨rfl, rfl, rfl, rfl, rfl, vi_eq lN, trivial⟩ rfl (by simp) ⟨FC.nil, hd, by simpa using hst⟩ ?_
   rintro ⟨e, d1⟩ ⟨he, hd1, hst1⟩
   dsimp only at he hd1 hst1 ⊢
   have hlen1 : e.length + d1.length + r.length = l.length := by have := hst1.1; simp at this; omega
   refine SC.seq (SC.seq (SC.region (SL.M rfl (SL.M rfl (SL.U (SU.leq rfl rfl) (SL.nil (ST.thenN ?_)))))))
   refine SC.ifP rfl (fun hle => ?_) (fun hle => ?_)
   ·obtain ⟨c1, d2, hde, hc1l, hc1s, hd2⟩ := hd1.front oM
    have hd1l : d1.length = B + d2.length := by rw [hde]; simp [hc1l]
    obtain ⟨c2, d3, hde2, hc2l, hc2s, hd3⟩ := hd2.front oM
    have hd2l : d2.length = B + d3.length := by rw [hde2]; simp [hc2l]
    have e1 : e ++ d1 ++ r = e ++ c1 ++ c2 ++ (d3 ++ r) := by rw [hde, hde2]; simp
    rw [e1] at hst1 ⊢
    refine SC.skip (ST.thenN (SC.block (SC.seq (SC.region (SL.M rfl (SL.M rfl (SL.M rfl (SL.M rfl (SL.U (SU.add rfl rfl oM) (SL.M rfl (SL.M rfl (SL.W (SO.call call146 rfl (symMergeC E g v cv key hc _ s e c1 c2 (d3 ++ r) rfl hc1s hc2s oM oM lN _ _ _ lN lN lN)) ?_))))))))))))
    rintro _ _ _ ⟨rfl, W, hW1, hW2, rfl⟩
    refine SL.nil (ST.thenN (SC.seq (SC.region (SL.M rfl (SL.A rfl (SL.nil (ST.thenN (SC.region (SL.M rfl (SL.M rfl (SL.U (SU.mul rfl rfl oM) (SL.U (SU.add rfl rfl oM) (SL.A rfl (SL.nil (ST.blockN ?_)))))))))))))))
    have hWl : W.length = 2 * B := by have := hW1.1; simp at this; omega
    exact ST.again (e ++ W, d3) ⟨rfl, rfl, rfl, rfl, vi_eq lN, vi_eq lN, trivial⟩ rfl (by simp) ⟨he.snoc hWl hW2, hd3, hst1.trans (by
     have := Stab.append (Stab.append (Stab.refl (key := key) e) hW1) (Stab.refl (key := key) (d3 ++ r))
     simpa using this)⟩ lN
   ·refine SC.exit (ST.thenX (ST.thenX (ST.blockX ?_)))
    exact ST.mid (e, d1) ⟨rfl, rfl, rfl, rfl, rfl, trivial⟩ rfl rfl ⟨he, hd1, hst1, lN⟩
  rintro ⟨e, d1⟩ ⟨he, hd1, hst1, hlt2⟩
  dsimp only at he hd1 hst1 hlt2 ⊢
  have hlen1 : e.length + d1.length + r.length = l.length := by have := hst1.1; simp at this; omega
  refine SC.cut (ι := List Rc) (fun _ => [(0, v), (1, vi n), (2, cv), (6, vi B)]) (fun _ => g) (fun r' => rowA encCell 51 v (e ++ r') :: s) (fun r' => Stab key (d1 ++ r) r' ∧ Srt key r') ?_ ?_
  ·refine SC.seq (SC.region (SL.M rfl (SL.M rfl (SL.U (SU.add rfl rfl oM) (SL.A rfl (SL.nil (ST.thenN (SC.seq (SC.region (SL.M rfl (SL.M rfl (SL.U (SU.lss rfl rfl) (SL.nil (ST.thenN ?_))))))))))))))
   refine SC.ifP rfl (fun hmn => ?_) (fun hmn => ?_)
   ·obtain ⟨c, d2, hde, hcl, hcs, hd2⟩ := hd1.front oM
    have hd1l : d1.length = B + d2.length := by rw [hde]; simp [hcl]
    have hd2e : d2 = [] := by
     cases hd2 with
     | nil => rfl
     | cons h3 h4 h5 => simp [h3] at hd1l; omega
    have hd2z : d2.length = 0 := by rw [hd2e]; rfl
    have hdc : d1 = c := by rw [hde, hd2e]; simp
    have e1 : e ++ d1 ++ r = e ++ c ++ r ++ [] := by rw [hdc]; simp
    rw [e1]
    refine SC.region (SL.M rfl (SL.M rfl (SL.M rfl (SL.M rfl (SL.M rfl (SL.W (SO.call call146 rfl (symMergeC E g v cv key hc _ s e c r [] rfl hcs hsr oM oM lN _ _ _ lN lN lN)) ?_))))))
    rintro _ _ _ ⟨rfl, W, hW1, hW2, rfl⟩
    refine SL.nil ?_
    exact ST.mid W ⟨rfl, rfl, rfl, rfl, trivial⟩ rfl (by simp) ⟨by rw [hdc]; exact hW1, hW2⟩
   ·refine SC.skip ?_
    exact ST.mid (d1 ++ r) ⟨rfl, rfl, rfl, rfl, trivial⟩ rfl (by simp) ⟨Stab.refl _, by
     rcases Nat.eq_zero_or_pos d1.length with h0 | h0
     ·rw [List.eq_nil_of_length_eq_zero h0]; simpa using hsr
     ·obtain ⟨c, d2, hde, hcl, hcs, hd2⟩ := hd1.front h0
      have hd1l : d1.length = B + d2.length := by rw [hde]; simp [hcl]
      have h1 : d2 = [] := List.eq_nil_of_length_eq_zero oM
      have h2 : r = [] := List.eq_nil_of_length_eq_zero oM
      rw [hde, h1, h2]; simpa using hcs⟩
  rintro r' ⟨hr1, hr2⟩
  try dsimp only
  have hr'l : r'.length = d1.length + r.length := by have := hr1.1; simpa using this
  refine SC.region (SL.M rfl (SL.U (SU.mul rfl rfl oM) (SL.A rfl (SL.nil (ST.blockN ?_)))))
  exact ST.again (2 * B, e, r') ⟨rfl, rfl, rfl, vi_eq lN, trivial⟩ rfl rfl ⟨he, hst1.trans (by
   have := Stab.append (Stab.refl (key := key) e) hr1
   simpa using this), lN, hr2⟩ lN
 ·refine SC.exit (ST.thenX (ST.thenX (ST.blockX ?_)))
  have hfin : Srt key (d ++ r) := by
   rcases Nat.eq_zero_or_pos d.length with h0 | h0
   ·rw [List.eq_nil_of_length_eq_zero h0]; simpa using hsr
   ·obtain ⟨c, d2, hde, hcl, hcs, hd2⟩ := hd.front h0
    have hd1l : d.length = B + d2.length := by rw [hde]; simp [hcl]
    have h1 : d2 = [] := List.eq_nil_of_length_eq_zero oM
    have h2 : r = [] := List.eq_nil_of_length_eq_zero oM
    rw [hde, h1, h2]; simpa using hcs
  exact ST.ret0 (.inr rfl) results134 ⟨rfl, by rw [eq_sortBy hfin hst]⟩
theorem sortStableC (E : World) (g : PH) (s : Own) (v cv : Value) (key : Rc → Int) (hc : CmpOk E cv encCell key g) (l : List Rc) (hn : l.length < 1152921504606846976) :
  Ctr Tryz.prog E 105 #[v, cv] g (rowA encCell 51 v l :: s) (fun _ g' s' => g = g' ∧ s' = rowA encCell 51 v (sortBy key l) :: s) := by
 refine Ctr.facts fun ⟨w0, hw0⟩ => ?_
 obtain ⟨p, c, rfl⟩ := rowA_form (i := 0) hw0 rfl
 clear hw0 w0
 refine Ctr.of (args := [.slice p l.length c, cv]) func105 rfl ntmps105 (Nat.le_of_ble_eq_true rfl) ?_
 refine SC.region (SL.M rfl (SL.M rfl (SL.U (SU.lenN underlying25 rfl) (SL.M rfl (SL.W (SO.call call134 rfl (stableC E g s _ cv key hc l hn _ rfl)) ?_)))))
 rintro _ _ _ ⟨rfl, rfl⟩
 refine SL.nil ?_
 exact ST.ret0 (.inr rfl) results105 ⟨rfl, rfl⟩
def KeyOkC (E : World) (kv : Value) (key : Rc → Int) (g : PH) : Prop :=
 ∀ g' s a, Le g g' → CallV Tryz.prog E kv [.agg (encCell.enc a).toArray] g' s (fun r g'' s'' => r = vi (key a) ∧ g' = g'' ∧ s = s'')
theorem cmpByC (E : World) (g : PH) (b : Nat) (kv : Value) (key : Rc → Int) (hk : KeyOkC E kv key g) (hb : g b = some (.cells #[kv] 106 (0, 0))) : CmpOk E (.func (.func 106) #[] #[pp b 0]) encCell key g := by
 intro g s x y hle
 refine CallV.mk (cap := [pp b 0]) call106 ?_
 have hb' := hle _ _ hb
 refine Ctr.of (args := [.agg (encCell.enc x).toArray, .agg (encCell.enc y).toArray, pp b 0]) func106 rfl ntmps106 (Nat.le_of_ble_eq_true rfl) ?_
 refine SC.seq (SC.region (SL.W (SO.box rfl) ?_))
 rintro _ _ _ ⟨b3, rfl, rfl, rfl⟩
 refine SL.W (SO.box rfl) ?_
 rintro _ _ _ ⟨b4, rfl, rfl, rfl⟩
 refine SL.A rfl (SL.nil (ST.thenN (SC.seq ?_)))
 refine SC.draw [] [(0, 1), (1, 1), (3, 1), (4, 1), (2, 0), (5, 0), (6, 0), (7, 2)] Tryz.mixed (by kernel_rfl) ?_
 refine SP.K (i := 0) rfl (SQ.load isAgg106 rfl (CellAt.known hb' rfl)) (SP.K (i := 1) rfl (SQ.loadVarK 1 isAgg51 sizeOf51 rfl rfl rfl) (SP.K (i := 3) rfl (SQ.load isAgg106 rfl (CellAt.known hb' rfl)) (SP.K (i := 4) rfl (SQ.loadVarK 0 isAgg51 sizeOf51 rfl rfl rfl) (SP.o (i := 2) rfl (SO.callV rfl rfl (hk _ _ x hle)) dC (.inr (by rintro _ _ _ ⟨rfl, rfl, rfl⟩; exact ⟨by exact Le.refl _, (by exact .refl _)⟩)) ?_))))
 rintro _ _ _ ⟨rfl, rfl, rfl⟩
 refine SP.o (i := 5) rfl (SO.callV rfl rfl (hk _ _ y hle)) dC (.inr (by rintro _ _ _ ⟨rfl, rfl, rfl⟩; exact ⟨by exact Le.refl _, (by exact .refl _)⟩)) ?_
 rintro _ _ _ ⟨rfl, rfl, rfl⟩
 refine SP.o (i := 6) rfl (SO.call call89 rfl (compare_spec E g _ (key x) (key y))) dC (.inr (by rintro _ _ _ ⟨rfl, rfl, rfl⟩; exact ⟨by exact Le.refl _, (by exact .refl _)⟩)) ?_
 rintro _ _ _ ⟨rfl, rfl, rfl⟩
 refine SP.U (i := 7) rfl (SU.assign rfl) (SP.nil (ST.thenN (SC.ret (ST.drop (s' := s) (.cons _ (.cons _ (.refl _))) ?_))))
 exact ST.ret1 (.inl rfl) results106 rfl ⟨rfl, rfl, rfl⟩
theorem cloneC (E : World) (g : PH) (s : Own) (v : Value) (l : List Rc) (hv : SlA encCell g v l) (hn : l.length < 1099511627776) :
  Ctr Tryz.prog E 104 #[v] g s (fun r g' s' => g = g' ∧ s' = rowA encCell 51 r l :: s) := by
 obtain ⟨p, c, rfl⟩ := SlA.form hv
 refine Ctr.of (args := [.slice p l.length c]) func104 rfl ntmps104 (Nat.le_of_ble_eq_true rfl) ?_
 refine SC.seq (SC.region (SL.A rfl (SL.nil (ST.thenN (SC.seq (SC.seq (SC.region (SL.M rfl (SL.U (SU.eqlNil underlying25 rfl rfl) (SL.nil (ST.thenN ?_)))))))))))
 refine SC.ifB rfl (fun hp => ?_) (fun hp => ?_)
 ·refine SC.seq (SC.region (SL.A rfl (SL.nil (ST.thenN (SC.ret (ST.thenR ?_))))))
  have hl : l = [] := by
   cases l with
   | nil => rfl
   | cons x r =>
    have hb := SlA.based hv (by simp)
    cases p with
    | none => simp [based] at hb
    | some q => simp at hp
  subst hl
  refine ST.nilRow 51 3 ?_
  exact ST.ret1 (.inl rfl) results104 rfl ⟨rfl, rfl⟩
 ·refine SC.skip (ST.thenN (SC.seq (SC.region (SL.W (SO.buildSlice sty25 rfl rfl rfl (szs_mk trivial) dC) ?_))))
  rintro _ _ _ ⟨b5, rfl, rfl, rfl⟩
  refine SL.emptyRow 51 3 (some ⟨b5, 0, none⟩) (SL.M rfl (SL.W (SO.appendE (m := l.length) 0 l.length (l.flatMap encCell.enc) sty25 rfl rfl rfl rfl rfl (Sl.rd hv) (encCell.length l) (encCell.ones l) oM (by simp) oM oM) ?_))
  rintro r7 _ _ ⟨rfl, rfl⟩
  refine SL.A rfl (SL.nil (ST.thenN (SC.ret (ST.drop (s' := rowA encCell 51 r7 l :: s) (.cons_cons _ (.cons _ (.refl _))) ?_))))
  exact ST.ret1 (.inl rfl) results104 rfl ⟨rfl, rfl⟩
theorem sortedC (E : World) (g : PH) (s : Own) (v : Value) (kn : FuncId) (kc : Array Value) (key : Rc → Int) (hk : KeyOkC E (.func (.func kn) #[] kc) key g) (l : List Rc) (hv : SlA encCell g v l) (hn : l.length < 1099511627776) :
  Ctr Tryz.prog E 77 #[v, .func (.func kn) #[] kc] g s (fun r g' s' => g = g' ∧ s' = rowA encCell 51 r (sortBy key l) :: s) := by
 refine Ctr.of (args := [v, .func (.func kn) #[] kc]) func77 rfl ntmps77 (Nat.le_of_ble_eq_true rfl) ?_
 refine SC.seq (SC.region (SL.W (SO.box rfl) ?_))
 rintro _ _ _ ⟨b3, rfl, rfl, rfl⟩
 refine SL.freeze fun g1 hle hb => ?_
 refine SL.A rfl (SL.nil (ST.thenN (SC.seq (SC.region (SL.M rfl (SL.W (SO.call call104 rfl (cloneC E g1 s v l (hv.mono hle) hn)) ?_))))))
 rintro r7 _ _ ⟨rfl, rfl⟩
 refine SL.A rfl (SL.nil (ST.thenN (SC.seq (SC.region (SL.M rfl (SL.U (SU.mkFunc rfl) (SL.W (SO.call call105 rfl (sortStableC E g1 s r7 _ key (cmpByC E g1 b3 _ key (fun g' s a h => hk g' s a (hle.trans h)) hb) l oM)) ?_)))))))
 rintro _ _ _ ⟨rfl, rfl⟩
 refine SL.nil (ST.thenN (SC.seq (SC.region (SL.M rfl (SL.A rfl (SL.nil (ST.thenN (SC.ret (ST.less hle ?_)))))))))
 exact ST.ret1 (.inl rfl) results77 rfl ⟨rfl, rfl⟩
theorem swapRangeS (E : World) (g : PH) (s : Own) (v cv : Value) (p A x B q : List Side) (hAB : A.length = B.length) (hn : (p ++ A ++ x ++ B ++ q).length < 2305843009213693952) (a b n : Int) (ha : a = p.length) (hb : b = p.length + A.length + x.length) (hnn : n = A.length) :
  Ctr Tryz.prog E 154 #[v, vi a, vi b, vi n, cv] g (rowA encSide 55 v (p ++ A ++ x ++ B ++ q) :: s) (fun _ g' s' => g = g' ∧ s' = rowA encSide 55 v (p ++ B ++ x ++ A ++ q) :: s) := by
 subst ha hb hnn
 simp only [List.length_append] at hn
 refine Ctr.facts fun ⟨w0, hw0⟩ => ?_
 obtain ⟨pp0, cc0, rfl⟩ := rowA_form (i := 0) hw0 rfl
 have hbase : A ≠ [] → based (.slice pp0 (p ++ A ++ x ++ B ++ q).length cc0) = true := fun hne => by
  obtain ⟨b0, c0, he⟩ := rowA_based (i := 0) hw0 rfl (by simp; have := List.length_pos_iff.2 hne; omega)
  rw [he]; rfl
 clear hw0 w0
 generalize hL : (p ++ A ++ x ++ B ++ q).length = L at *
 generalize hvv : Value.slice pp0 L cc0 = v at *
 have hsl : slen v = L := by rw [← hvv]; rfl
 simp only [List.length_append] at hL
 refine Ctr.of (args := [v, vi p.length, vi (p.length + A.length + x.length), vi A.length, cv]) func154 rfl ntmps154 (Nat.le_of_ble_eq_true rfl) ?_
 refine SC.seq (SC.region (SL.A rfl (SL.nil (ST.thenN (SC.block ?_)))))
 refine SC.loop (ι := List Side × List Side × List Side × List Side) (fun i => [(0, v), (1, vi p.length), (2, vi (p.length + A.length + x.length)), (3, vi A.length), (4, cv), (10, vi i.1.length)]) (fun _ => g)
  (fun i => rowA encSide 55 v (p ++ i.2.2.1 ++ i.2.1 ++ x ++ i.1 ++ i.2.2.2 ++ q) :: s) (fun i => A = i.1 ++ i.2.1 ∧ B = i.2.2.1 ++ i.2.2.2 ∧ i.1.length = i.2.2.1.length) (fun i => i.2.1.length) ([], A, [], B)
  ⟨rfl, rfl, rfl, rfl, rfl, rfl, trivial⟩ rfl (by simp) ⟨rfl, rfl, rfl⟩ ?_
 rintro ⟨A1, A2, B1, B2⟩ ⟨hA, hB, h12⟩
 dsimp only at hA hB h12 ⊢
 have hlA : A.length = A1.length + A2.length := by rw [hA]; simp
 have hlB : B.length = B1.length + B2.length := by rw [hB]; simp
 refine SC.seq (SC.seq (SC.region (SL.M rfl (SL.M rfl (SL.U (SU.lss rfl rfl) (SL.nil (ST.thenN ?_)))))))
 refine SC.ifP rfl (fun hlt => ?_) (fun hlt => ?_)
 ·cases A2 with
  | nil => simp at hlA; omega
  | cons ea A2 =>
  cases B2 with
  | nil => simp at hlA hlB; omega
  | cons eb B2 =>
  simp only [List.length_cons] at hlA hlB
  have hbs := hbase (by rw [hA]; simp)
  have hga : (p ++ B1 ++ (ea :: A2) ++ x ++ A1 ++ (eb :: B2) ++ q)[((p.length : Int) + (A1.length : Int)).toNat]? = some ea := by
   have : p ++ B1 ++ (ea :: A2) ++ x ++ A1 ++ (eb :: B2) ++ q = (p ++ B1) ++ ea :: (A2 ++ x ++ A1 ++ (eb :: B2) ++ q) := by simp
   rw [this]; exact get_mid (by simp; omega)
  have hgb : (p ++ B1 ++ (ea :: A2) ++ x ++ A1 ++ (eb :: B2) ++ q)[((p.length : Int) + A.length + x.length + (A1.length : Int)).toNat]? = some eb := by
   have : p ++ B1 ++ (ea :: A2) ++ x ++ A1 ++ (eb :: B2) ++ q = (p ++ B1 ++ (ea :: A2) ++ x ++ A1) ++ eb :: (B2 ++ q) := by simp
   rw [this]; exact get_mid (by simp; omega)
  refine SC.skip (ST.thenN (SC.seq (SC.block ?_)))
  refine SC.draw [21, 23] [(0, 2), (1, 2), (2, 2), (3, 2), (4, 2), (5, 2), (6, 2), (7, 2), (8, 2), (9, 2), (10, 2), (11, 2), (12, 2), (13, 1), (14, 2), (15, 2), (16, 2), (17, 2), (18, 2), (19, 1), (20, 2), (21, 0), (22, 2), (23, 0)] Tryz.mixed (by kernel_rfl) ?_
  refine SP.U (i := 0) rfl (SU.move rfl) (SP.U (i := 1) rfl (SU.move rfl) (SP.U (i := 2) rfl (SU.move rfl) (SP.U (i := 3) rfl (SU.add rfl rfl oM) (SP.U (i := 4) rfl (SU.move rfl) (SP.U (i := 5) rfl (SU.move rfl) (SP.U (i := 6) rfl (SU.move rfl) (SP.U (i := 7) rfl (SU.add rfl rfl oM) (SP.U (i := 8) rfl (SU.move rfl) (SP.U (i := 9) rfl (SU.move rfl) (SP.U (i := 10) rfl (SU.move rfl) (SP.U (i := 11) rfl (SU.add rfl rfl oM) (SP.U (i := 12) rfl (SU.indexAddr underlying49 sizeOf55 rfl rfl hbs oM (by rw [hsl]; omega)) ?_))))))))))))
  refine SP.K (i := 13) rfl (SQ.elemA isAgg55 sizeOf55 rfl (Rd.rowA 0 rfl) hgb) (SP.U (i := 14) rfl (SU.move rfl) (SP.U (i := 15) rfl (SU.move rfl) (SP.U (i := 16) rfl (SU.move rfl) (SP.U (i := 17) rfl (SU.add rfl rfl oM) (SP.U (i := 18) rfl (SU.indexAddr underlying49 sizeOf55 rfl rfl hbs oM (by rw [hsl]; omega)) ?_)))))
  refine SP.K (i := 19) rfl (SQ.elemA isAgg55 sizeOf55 rfl (Rd.rowA 0 rfl) hga) (SP.U (i := 20) rfl (SU.indexAddr underlying49 sizeOf55 rfl rfl hbs oM (by rw [hsl]; omega)) ?_)
  refine SP.on (i := 21) rfl (SO.setA (a := eb) 0 sizeOf55 rfl rfl rfl (by simp; omega) rfl) (.inl dC) ?_
  rintro _ _ _ ⟨rfl, rfl⟩
  refine SP.U (i := 22) rfl (SU.indexAddr underlying49 sizeOf55 rfl rfl hbs oM (by rw [hsl]; omega)) ?_
  refine SP.on (i := 23) rfl (SO.setA (a := ea) 0 sizeOf55 rfl rfl rfl (by simp; omega) rfl) (.inl dC) ?_
  rintro _ _ _ ⟨rfl, rfl⟩
  refine SP.nil (ST.blockN (ST.thenN (SC.region (SL.M rfl (SL.U (SU.add rfl rfl oM) (SL.A rfl (SL.nil ?_)))))))
  have hset : ((p ++ B1 ++ (ea :: A2) ++ x ++ A1 ++ (eb :: B2) ++ q).set ((p.length : Int) + (A1.length : Int)).toNat eb).set ((p.length : Int) + A.length + x.length + (A1.length : Int)).toNat ea = p ++ (B1 ++ [eb]) ++ A2 ++ x ++ (A1 ++ [ea]) ++ B2 ++ q := by
   have h1 : p ++ B1 ++ (ea :: A2) ++ x ++ A1 ++ (eb :: B2) ++ q = (p ++ B1) ++ ea :: (A2 ++ x ++ A1 ++ (eb :: B2) ++ q) := by simp
   rw [h1, set_mid (by simp; omega)]
   have h2 : (p ++ B1) ++ eb :: (A2 ++ x ++ A1 ++ (eb :: B2) ++ q) = (p ++ B1 ++ eb :: (A2 ++ x ++ A1)) ++ eb :: (B2 ++ q) := by simp
   rw [h2, set_mid (by simp; omega)]
   simp
  exact ST.again (A1 ++ [ea], A2, B1 ++ [eb], B2) ⟨rfl, rfl, rfl, rfl, rfl, vi_eq (by simp), trivial⟩ rfl (by dsimp only; rw [← hset]; rfl) ⟨by simp [hA], by simp [hB], by simp [h12]⟩ (by simp)
 ·refine SC.exit (ST.thenX (ST.thenX (ST.blockX ?_)))
  cases A2 with
  | cons ea A2 => simp at hlA; omega
  | nil =>
  cases B2 with
  | cons ea A2 => simp at hlA hlB; omega
  | nil =>
  exact ST.ret0 (.inr rfl) results154 ⟨rfl, by simp [hA, hB]⟩
theorem rotateS (E : World) (g : PH) (s : Own) (v cv : Value) (p U V q : List Side) (hU : 0 < U.length) (hV : 0 < V.length) (hn : (p ++ U ++ V ++ q).length < 2305843009213693952) (a m b : Int) (ha : a = p.length) (hm : m = p.length + U.length) (hb : b = p.length + U.length + V.length) :
  Ctr Tryz.prog E 152 #[v, vi a, vi m, vi b, cv] g (rowA encSide 55 v (p ++ U ++ V ++ q) :: s) (fun _ g' s' => g = g' ∧ s' = rowA encSide 55 v (p ++ V ++ U ++ q) :: s) := by
 simp only [List.length_append] at hn
 refine Ctr.of (args := [v, vi a, vi m, vi b, cv]) func152 rfl ntmps152 (Nat.le_of_ble_eq_true rfl) ?_
 refine SC.seq (SC.region (SL.M rfl (SL.M rfl (SL.U (SU.sub rfl rfl oM) (SL.A rfl (SL.nil (ST.thenN (SC.seq (SC.region (SL.M rfl (SL.M rfl (SL.U (SU.sub rfl rfl oM) (SL.A rfl (SL.nil (ST.thenN ?_)))))))))))))))
 refine SC.cut (ι := List Side × List Side × List Side × List Side) (fun i => [(0, v), (1, vi a), (2, vi m), (3, vi b), (4, cv), (10, vi i.2.1.length), (11, vi i.2.2.1.length)]) (fun _ => g)
  (fun i => rowA encSide 55 v (i.1 ++ i.2.1 ++ i.2.2.1 ++ i.2.2.2) :: s) (fun i => p ++ V ++ U ++ q = i.1 ++ i.2.2.1 ++ i.2.1 ++ i.2.2.2 ∧ (m = i.1.length + i.2.1.length ∧ 0 < i.2.1.length ∧ i.2.1.length = i.2.2.1.length)) ?_ ?_
 ·refine SC.block ?_
  refine SC.loop (ι := List Side × List Side × List Side × List Side) (fun i => [(0, v), (1, vi a), (2, vi m), (3, vi b), (4, cv), (10, vi i.2.1.length), (11, vi i.2.2.1.length)]) (fun _ => g)
   (fun i => rowA encSide 55 v (i.1 ++ i.2.1 ++ i.2.2.1 ++ i.2.2.2) :: s) (fun i => p ++ V ++ U ++ q = i.1 ++ i.2.2.1 ++ i.2.1 ++ i.2.2.2 ∧ (m = i.1.length + i.2.1.length ∧ 0 < i.2.1.length ∧ 0 < i.2.2.1.length)) (fun i => i.2.1.length + i.2.2.1.length) (p, U, V, q)
   ⟨rfl, rfl, rfl, rfl, rfl, vi_eq lN, vi_eq lN, trivial⟩ rfl rfl ⟨rfl, lN, hU, hV⟩ ?_
  rintro ⟨p1, U1, V1, q1⟩ ⟨heq, hm1, hU1, hV1⟩
  dsimp only at heq hm1 hU1 hV1 ⊢
  have hlen : p.length + V.length + U.length + q.length = p1.length + V1.length + U1.length + q1.length := by have := congrArg List.length heq; simp at this; omega
  refine SC.seq (SC.seq (SC.region (SL.M rfl (SL.M rfl (SL.U (SU.neq rfl rfl) (SL.nil (ST.thenN ?_)))))))
  refine SC.ifP rfl (fun hne => ?_) (fun hne => ?_)
  ·refine SC.skip (ST.thenN (SC.block (SC.seq (SC.region (SL.M rfl (SL.M rfl (SL.U (SU.gtr rfl rfl) (SL.nil (ST.thenN ?_)))))))))
   refine SC.ifP rfl (fun hgt => ?_) (fun hgt => ?_)
   ·obtain ⟨Ua, Ub, hUe, hUa⟩ : ∃ Ua Ub, U1 = Ua ++ Ub ∧ Ua.length = V1.length := ⟨U1.take V1.length, U1.drop V1.length, by simp, lN⟩
    have hUl : U1.length = Ua.length + Ub.length := by rw [hUe]; simp
    have e1 : p1 ++ U1 ++ V1 ++ q1 = p1 ++ Ua ++ Ub ++ V1 ++ q1 := by rw [hUe]; simp
    rw [e1]
    refine SC.seq (SC.region (SL.M rfl (SL.M rfl (SL.M rfl (SL.U (SU.sub rfl rfl oM) (SL.M rfl (SL.M rfl (SL.M rfl (SL.W (SO.call call154 rfl (swapRangeS E g s v cv p1 Ua Ub V1 q1 hUa lN _ _ _ lN lN lN)) ?_)))))))))
    rintro _ _ _ ⟨rfl, rfl⟩
    refine SL.nil (ST.thenN (SC.region (SL.M rfl (SL.M rfl (SL.U (SU.sub rfl rfl oM) (SL.A rfl (SL.nil (ST.blockN ?_))))))))
    exact ST.again (p1 ++ V1, Ub, Ua, q1) ⟨rfl, rfl, rfl, rfl, rfl, vi_eq lN, vi_eq lN, trivial⟩ rfl (by simp) ⟨by rw [heq, hUe]; simp, lN, lN, lN⟩ lN
   ·obtain ⟨Va, Vb, hVe, hVb⟩ : ∃ Va Vb, V1 = Va ++ Vb ∧ Vb.length = U1.length := ⟨V1.take (V1.length - U1.length), V1.drop (V1.length - U1.length), by simp, lN⟩
    have hVl : V1.length = Va.length + Vb.length := by rw [hVe]; simp
    have e1 : p1 ++ U1 ++ V1 ++ q1 = p1 ++ U1 ++ Va ++ Vb ++ q1 := by rw [hVe]; simp
    rw [e1]
    refine SC.seq (SC.region (SL.M rfl (SL.M rfl (SL.M rfl (SL.U (SU.sub rfl rfl oM) (SL.M rfl (SL.M rfl (SL.U (SU.add rfl rfl oM) (SL.M rfl (SL.U (SU.sub rfl rfl oM) (SL.M rfl (SL.M rfl (SL.W (SO.call call154 rfl (swapRangeS E g s v cv p1 U1 Va Vb q1 hVb.symm lN _ _ _ lN lN lN)) ?_)))))))))))))
    rintro _ _ _ ⟨rfl, rfl⟩
    refine SL.nil (ST.thenN (SC.region (SL.M rfl (SL.M rfl (SL.U (SU.sub rfl rfl oM) (SL.A rfl (SL.nil (ST.blockN ?_))))))))
    exact ST.again (p1, Vb, Va, U1 ++ q1) ⟨rfl, rfl, rfl, rfl, rfl, vi_eq lN, vi_eq lN, trivial⟩ rfl (by simp) ⟨by rw [heq, hVe]; simp, lN, lN, lN⟩ lN
  ·refine SC.exit (ST.thenX (ST.thenX (ST.blockX ?_)))
   exact ST.mid (p1, U1, V1, q1) ⟨rfl, rfl, rfl, rfl, rfl, rfl, rfl, trivial⟩ rfl rfl ⟨heq, hm1, hU1, lN⟩
 ·rintro ⟨p1, U1, V1, q1⟩ ⟨heq, hm1, hU1, hUV⟩
  dsimp only at heq hm1 hU1 hUV ⊢
  have hlen : p.length + V.length + U.length + q.length = p1.length + V1.length + U1.length + q1.length := by have := congrArg List.length heq; simp at this; omega
  have e1 : p1 ++ U1 ++ V1 ++ q1 = p1 ++ U1 ++ [] ++ V1 ++ q1 := by simp
  rw [e1]
  refine SC.region (SL.M rfl (SL.M rfl (SL.M rfl (SL.U (SU.sub rfl rfl oM) (SL.M rfl (SL.M rfl (SL.M rfl (SL.W (SO.call call154 rfl (swapRangeS E g s v cv p1 U1 [] V1 q1 hUV lN _ _ _ lN lN lN)) ?_))))))))
  rintro _ _ _ ⟨rfl, rfl⟩
  refine SL.nil ?_
  exact ST.ret0 (.inr rfl) results152 ⟨rfl, by rw [heq]; simp⟩
theorem insertionS (E : World) (g : PH) (s : Own) (v cv : Value) (key : Side → Int) (hc : CmpOk E cv encSide key g) (p m q : List Side) (hn : (p ++ m ++ q).length < 2305843009213693952) (a b : Int) (ha : a = p.length) (hb : b = p.length + m.length) :
  Ctr Tryz.prog E 147 #[v, vi a, vi b, cv] g (rowA encSide 55 v (p ++ m ++ q) :: s) (fun _ g' s' => g = g' ∧ ∃ m', Stab key m m' ∧ Srt key m' ∧ s' = rowA encSide 55 v (p ++ m' ++ q) :: s) := by
 refine Ctr.facts fun ⟨w0, hw0⟩ => ?_
 have hbase : m ≠ [] → based v = true := fun hne => by
  obtain ⟨b0, c0, he⟩ := rowA_based (i := 0) hw0 rfl (by simp; have := List.length_pos_iff.2 hne; omega)
  rw [he]; rfl
 have hsl : slen v = (p ++ m ++ q).length := by
  obtain ⟨pp0, cc0, he⟩ := rowA_form (i := 0) hw0 rfl
  rw [he]; rfl
 clear hw0 w0
 simp only [List.length_append] at hn hsl
 refine Ctr.of (args := [v, vi a, vi b, cv]) func147 rfl ntmps147 (Nat.le_of_ble_eq_true rfl) ?_
 refine SC.seq (SC.region (SL.M rfl (SL.U (SU.add rfl rfl oM) (SL.A rfl (SL.nil (ST.thenN (SC.block ?_)))))))
 refine SC.loop (ι := List Side × List Side × List Side) (fun i => [(0, v), (1, vi a), (2, vi b), (3, cv), (8, vi (p.length + 1 + i.1.length))]) (fun _ => g)
  (fun i => rowA encSide 55 v (p ++ (i.2.1 ++ i.2.2) ++ q) :: s) (fun i => Srt key i.2.1 ∧ Stab key m (i.2.1 ++ i.2.2) ∧ (i.2.1.length = i.1.length + 1 ∨ (m = [] ∧ i.1 = []))) (fun i => i.2.2.length) ([], m.take 1, m.drop 1)
  ⟨rfl, rfl, rfl, rfl, vi_eq (by simp; omega), trivial⟩ rfl (by rw [List.take_append_drop]) ⟨by cases m with | nil => exact Srt.nil | cons x r => exact Srt.one x, by rw [List.take_append_drop]; exact Stab.refl m, by cases m with | nil => exact .inr ⟨rfl, rfl⟩ | cons x r => exact .inl (by simp)⟩ ?_
 rintro ⟨cn, S1, T1⟩ ⟨hs1, hst, hcn⟩
 dsimp only at hs1 hst hcn ⊢
 have hlm : S1.length + T1.length = m.length := by have := hst.1; simpa using this
 refine SC.seq (SC.seq (SC.region (SL.M rfl (SL.M rfl (SL.U (SU.lss rfl rfl) (SL.nil (ST.thenN ?_)))))))
 refine SC.ifP rfl (fun hlt => ?_) (fun hlt => ?_)
 ·have hcn1 : S1.length = cn.length + 1 := by
   rcases hcn with h | ⟨h, h'⟩
   ·exact h
   ·rw [h] at hb; simp at hb; omega
  cases T1 with
  | nil => simp at hlm; omega
  | cons x T1 =>
  simp only [List.length_cons] at hlm
  have hbs := hbase (by intro e; rw [e] at hlm; simp at hlm)
  refine SC.skip (ST.thenN ?_)
  refine SC.cut (ι := List Side × List Side) (fun i => [(0, v), (1, vi a), (2, vi b), (3, cv), (8, vi (p.length + 1 + cn.length))]) (fun _ => g)
   (fun i => rowA encSide 55 v (p ++ (i.1 ++ x :: i.2 ++ T1) ++ q) :: s) (fun i => S1 = i.1 ++ i.2 ∧ (∀ y ∈ i.1, key y ≤ key x) ∧ (∀ y ∈ i.2, key x < key y)) ?_ ?_
  ·refine SC.block (SC.seq (SC.region (SL.M rfl (SL.A rfl (SL.nil (ST.thenN (SC.block ?_)))))))
   refine SC.loop (ι := List Side × List Side) (fun i => [(0, v), (1, vi a), (2, vi b), (3, cv), (8, vi (p.length + 1 + cn.length)), (9, vi (p.length + i.1.length))]) (fun _ => g)
    (fun i => rowA encSide 55 v (p ++ (i.1 ++ x :: i.2 ++ T1) ++ q) :: s) (fun i => S1 = i.1 ++ i.2 ∧ (∀ y ∈ i.2, key x < key y)) (fun i => i.1.length) (S1, [])
    ⟨rfl, rfl, rfl, rfl, rfl, vi_eq (by rw [hcn1]; simp; omega), trivial⟩ rfl (by simp) ⟨by simp, by simp⟩ ?_
   rintro ⟨A, B⟩ ⟨hS, hB⟩
   dsimp only at hS hB ⊢
   have hlS : S1.length = A.length + B.length := by rw [hS]; simp
   have hgx : (p ++ (A ++ x :: B ++ T1) ++ q)[((p.length : Int) + A.length).toNat]? = some x := by
    have : p ++ (A ++ x :: B ++ T1) ++ q = (p ++ A) ++ x :: (B ++ T1 ++ q) := by simp
    rw [this]; exact get_mid (by simp; omega)
   rcases List.eq_nil_or_concat A with hA0 | ⟨A0, y, hA0⟩
   ·subst hA0
    refine SC.seq ?_
    refine SC.cutB 34 (false) ?_ ?_
    ·refine SC.draw [] [(0, 2), (1, 2), (2, 2), (3, 2), (4, 2), (5, 2), (6, 2), (7, 2), (8, 1), (9, 2), (10, 2), (11, 2), (12, 2), (13, 1), (14, 0), (15, 2), (16, 2)] Tryz.mixed (by kernel_rfl) ?_
     refine SP.U (i := 0) rfl (SU.move rfl) (SP.U (i := 1) rfl (SU.move rfl) (SP.U (i := 2) rfl (SU.gtr rfl rfl) (SP.U (i := 3) rfl (SU.move rfl) ?_)))
     refine SP.split ?_ ?_
     ·intro h21
      exfalso
      simp at h21; omega
     ·intro h21
      refine SP.off (i := 4) rfl (Gd.onF rfl rfl rfl dC) dC (SP.off (i := 5) rfl (Gd.onF rfl rfl rfl dC) dC (SP.off (i := 6) rfl (Gd.onF rfl rfl rfl dC) dC (SP.off (i := 7) rfl (Gd.onF rfl rfl rfl dC) dC (SP.off1 (i := 8) rfl (Gd.onF rfl rfl rfl dC) dC (SP.off (i := 9) rfl (Gd.onF rfl rfl rfl dC) dC (SP.off (i := 10) rfl (Gd.onF rfl rfl rfl dC) dC (SP.off (i := 11) rfl (Gd.onF rfl rfl rfl dC) dC (SP.off (i := 12) rfl (Gd.onF rfl rfl rfl dC) dC (SP.off1 (i := 13) rfl (Gd.onF rfl rfl rfl dC) dC (SP.offo (i := 14) rfl (Gd.onF rfl rfl rfl dC) dC ⟨by exact Le.refl _, (by exact .refl _)⟩ ?_))))))))))
      refine SP.off (i := 15) rfl (Gd.onF rfl rfl rfl dC) dC (SP.U (i := 16) rfl (SU.pickF rfl rfl) (SP.nil ?_))
      exact ST.mid1 (rfl) mI
    refine SC.condF rfl (SC.exit (ST.thenX (ST.thenX (ST.blockX (ST.blockN ?_)))))
    exact ST.mid ([], B) ⟨rfl, rfl, rfl, rfl, rfl, trivial⟩ rfl rfl ⟨hS, by simp, hB⟩
   ·rw [List.concat_eq_append] at hA0
    have hAl : A.length = A0.length + 1 := by rw [hA0]; simp
    have hgy : (p ++ (A ++ x :: B ++ T1) ++ q)[((p.length : Int) + A.length - 1).toNat]? = some y := by
     have : p ++ (A ++ x :: B ++ T1) ++ q = (p ++ A0) ++ y :: (x :: B ++ T1 ++ q) := by rw [hA0]; simp
     rw [this]; exact get_mid lN
    refine SC.seq ?_
    refine SC.cutB 34 (decide (key x < key y)) ?_ ?_
    ·refine SC.draw [] [(0, 2), (1, 2), (2, 2), (3, 2), (4, 2), (5, 2), (6, 2), (7, 2), (8, 1), (9, 2), (10, 2), (11, 2), (12, 2), (13, 1), (14, 0), (15, 2), (16, 2)] Tryz.mixed (by kernel_rfl) ?_
     refine SP.U (i := 0) rfl (SU.move rfl) (SP.U (i := 1) rfl (SU.move rfl) (SP.U (i := 2) rfl (SU.gtr rfl rfl) (SP.U (i := 3) rfl (SU.move rfl) ?_)))
     refine SP.split ?_ ?_
     ·intro h21
      refine SP.gu (i := 4) rfl (Gd.onT rfl rfl rfl dC) (SU.move rfl) dC (SP.gu (i := 5) rfl (Gd.onT rfl rfl rfl dC) (SU.move rfl) dC (SP.gu (i := 6) rfl (Gd.onT rfl rfl rfl dC) (SU.move rfl) dC (SP.gu (i := 7) rfl (Gd.onT rfl rfl rfl dC) (SU.indexAddr underlying49 sizeOf55 rfl rfl hbs oM (by rw [hsl]; omega)) dC ?_)))
      refine SP.gq (i := 8) rfl (Gd.onT rfl rfl rfl dC) (SQ.elemA isAgg55 sizeOf55 rfl (Rd.rowA 0 rfl) hgx) dC (SP.gu (i := 9) rfl (Gd.onT rfl rfl rfl dC) (SU.move rfl) dC (SP.gu (i := 10) rfl (Gd.onT rfl rfl rfl dC) (SU.move rfl) dC (SP.gu (i := 11) rfl (Gd.onT rfl rfl rfl dC) (SU.sub rfl rfl oM) dC (SP.gu (i := 12) rfl (Gd.onT rfl rfl rfl dC) (SU.indexAddr underlying49 sizeOf55 rfl rfl hbs oM (by rw [hsl]; omega)) dC ?_))))
      refine SP.gq (i := 13) rfl (Gd.onT rfl rfl rfl dC) (SQ.elemA isAgg55 sizeOf55 rfl (Rd.rowA 0 rfl) hgy) dC (SP.go (i := 14) rfl (Gd.onT rfl rfl rfl dC) (SO.callV rfl rfl (hc _ _ _ _ (Le.refl _))) dC (.inr (by rintro _ _ _ ⟨rfl, rfl, rfl⟩; exact ⟨by exact Le.refl _, (by exact .refl _)⟩)) ?_)
      rintro _ _ _ ⟨rfl, rfl, rfl⟩
      refine SP.gu (i := 15) rfl (Gd.onT rfl rfl rfl dC) (SU.lss rfl rfl) dC (SP.U (i := 16) rfl (SU.pickT rfl rfl) (SP.nil ?_))
      exact ST.mid1 (by rw [decide_eq_decide.2 (cmpI_neg (x := key x) (y := key y))]; rfl) mI
     ·intro h21
      exfalso
      omega
    refine SC.ifP rfl (fun hxy => ?_) (fun hxy => ?_)
    ·refine SC.skip (ST.thenN (SC.seq (SC.block ?_)))
     refine SC.draw [15, 17] [(0, 2), (1, 2), (2, 2), (3, 2), (4, 2), (5, 2), (6, 2), (7, 2), (8, 2), (9, 1), (10, 2), (11, 2), (12, 2), (13, 1), (14, 2), (15, 0), (16, 2), (17, 0)] Tryz.mixed (by kernel_rfl) ?_
     refine SP.U (i := 0) rfl (SU.move rfl) (SP.U (i := 1) rfl (SU.move rfl) (SP.U (i := 2) rfl (SU.move rfl) (SP.U (i := 3) rfl (SU.move rfl) (SP.U (i := 4) rfl (SU.sub rfl rfl oM) (SP.U (i := 5) rfl (SU.move rfl) (SP.U (i := 6) rfl (SU.move rfl) (SP.U (i := 7) rfl (SU.sub rfl rfl oM) (SP.U (i := 8) rfl (SU.indexAddr underlying49 sizeOf55 rfl rfl hbs oM (by rw [hsl]; omega)) ?_))))))))
     refine SP.K (i := 9) rfl (SQ.elemA isAgg55 sizeOf55 rfl (Rd.rowA 0 rfl) hgy) (SP.U (i := 10) rfl (SU.move rfl) (SP.U (i := 11) rfl (SU.move rfl) (SP.U (i := 12) rfl (SU.indexAddr underlying49 sizeOf55 rfl rfl hbs oM (by rw [hsl]; omega)) ?_)))
     refine SP.K (i := 13) rfl (SQ.elemA isAgg55 sizeOf55 rfl (Rd.rowA 0 rfl) hgx) (SP.U (i := 14) rfl (SU.indexAddr underlying49 sizeOf55 rfl rfl hbs oM (by rw [hsl]; omega)) ?_)
     refine SP.on (i := 15) rfl (SO.setA (a := y) 0 sizeOf55 rfl rfl rfl lN rfl) (.inl dC) ?_
     rintro _ _ _ ⟨rfl, rfl⟩
     refine SP.U (i := 16) rfl (SU.indexAddr underlying49 sizeOf55 rfl rfl hbs oM (by rw [hsl]; omega)) ?_
     refine SP.on (i := 17) rfl (SO.setA (a := x) 0 sizeOf55 rfl rfl rfl (by rw [List.length_set]; (first | with_reducible rfl | ((try dsimp only); (try simp only [List.length_append, List.length_cons, List.length_nil, List.length_singleton, List.length_take, List.length_drop]) <;> omega))) rfl) (.inl dC) ?_
     rintro _ _ _ ⟨rfl, rfl⟩
     refine SP.nil (ST.blockN (ST.thenN (SC.region (SL.M rfl (SL.U (SU.sub rfl rfl oM) (SL.A rfl (SL.nil ?_)))))))
     have hset : ((p ++ (A ++ x :: B ++ T1) ++ q).set ((p.length : Int) + A.length).toNat y).set ((p.length : Int) + A.length - 1).toNat x = p ++ (A0 ++ x :: (y :: B) ++ T1) ++ q := by
      have h1 : p ++ (A ++ x :: B ++ T1) ++ q = (p ++ A) ++ x :: (B ++ T1 ++ q) := by simp
      rw [h1, set_mid lN]
      have h2 : (p ++ A) ++ y :: (B ++ T1 ++ q) = (p ++ A0) ++ y :: (y :: B ++ T1 ++ q) := by rw [hA0]; simp
      rw [h2, set_mid lN]
      simp
     exact ST.again (A0, y :: B) ⟨rfl, rfl, rfl, rfl, rfl, vi_eq lN, trivial⟩ rfl (by dsimp only; rw [← hset]; rfl) ⟨by rw [hS, hA0]; simp, by simpa using ⟨hxy, hB⟩⟩ lN
    ·refine SC.exit (ST.thenX (ST.thenX (ST.blockX (ST.blockN ?_))))
     exact ST.mid (A, B) ⟨rfl, rfl, rfl, rfl, rfl, trivial⟩ rfl rfl ⟨hS, by
      intro z hz
      rw [hA0] at hz hS
      rw [hS] at hs1
      have h1 := (Srt.append_iff.1 (Srt.append_iff.1 hs1).1).2.2
      rcases List.mem_append.1 hz with h2 | h2
      ·exact Int.le_trans (h1 z h2 y (by simp)) oM
      ·simp at h2; rw [h2]; omega, hB⟩
  ·rintro ⟨A, B⟩ ⟨hS, hA, hB⟩
   dsimp only at hS hA hB ⊢
   refine SC.region (SL.M rfl (SL.U (SU.add rfl rfl oM) (SL.A rfl (SL.nil ?_))))
   have hlS : S1.length = A.length + B.length := by rw [hS]; simp
   rw [hS] at hs1 hst
   exact ST.again (x :: cn, A ++ x :: B, T1) ⟨rfl, rfl, rfl, rfl, vi_eq lN, trivial⟩ rfl rfl ⟨by
     have h1 := Srt.append_iff.1 hs1
     refine Srt.append_iff.2 ⟨h1.1, Srt.cons_iff.2 ⟨fun z hz => Int.le_of_lt (hB z hz), h1.2.1⟩, fun z hz u hu => ?_⟩
     rcases List.mem_cons.1 hu with h2 | h2
     ·rw [h2]; exact hA z hz
     ·exact h1.2.2 z hz u h2, by
     refine hst.trans ?_
     have h1 : Stab key (B ++ [x]) ([x] ++ B) := Stab.swap (fun z hz u hu => by simp at hu; subst hu; have := hB z hz; omega)
     have h2 := Stab.append (Stab.append (Stab.refl (key := key) A) h1) (Stab.refl (key := key) T1)
     simpa using h2, .inl lN⟩ lN
 ·refine SC.exit (ST.thenX (ST.thenX (ST.blockX ?_)))
  have hT : T1 = [] := by
   rcases hcn with h | ⟨h, h'⟩
   ·exact List.eq_nil_of_length_eq_zero oM
   ·subst h; simp at hlm; exact hlm.2
  subst hT
  exact ST.ret0 (.inr rfl) results147 ⟨rfl, S1, by simpa using hst, hs1, by simp⟩
theorem sym_leftS {key : Side → Int} {V1 M1 M2 V2 : List Side} {x y : Side} (hs : Srt key (V1 ++ (M1 ++ y :: M2) ++ V2)) (h1 : ∀ z ∈ V1, key z < key x) (hy : key y < key x) : ∀ z ∈ V1 ++ M1 ++ [y], key z < key x := by
 intro z hz
 have h2 := (Srt.append_iff.1 (Srt.append_iff.1 (Srt.append_iff.1 hs).1).2.1).2.2
 simp only [List.mem_append, List.mem_singleton] at hz
 rcases hz with (hz | hz) | hz
 ·exact h1 z hz
 ·have := h2 z hz y (by simp); omega
 ·rw [hz]; exact hy
theorem sym_rightS {key : Side → Int} {V1 M1 M2 V2 : List Side} {x y : Side} (hs : Srt key (V1 ++ (M1 ++ y :: M2) ++ V2)) (h1 : ∀ z ∈ V2, key x ≤ key z) (hy : key x ≤ key y) : ∀ z ∈ (y :: M2) ++ V2, key x ≤ key z := by
 intro z hz
 have h2 := (Srt.append_iff.1 (Srt.append_iff.1 (Srt.append_iff.1 hs).1).2.1).2.1
 simp only [List.mem_append, List.mem_cons] at hz
 rcases hz with (hz | hz) | hz
 ·rw [hz]; exact hy
 ·have := (Srt.cons_iff.1 h2).1 z hz; omega
 ·exact h1 z hz
theorem half_splitS {α : Type} (M : List α) (h : M ≠ []) : ∃ M1 y M2, M = M1 ++ y :: M2 ∧ M1.length = M.length / 2 := by
 have hl := List.length_pos_iff.2 h
 have hlt : M.length / 2 < M.length := oM
 exact ⟨M.take (M.length / 2), M[M.length / 2], M.drop (M.length / 2 + 1), by simp, by rw [List.length_take]; omega⟩
set_option maxHeartbeats 1000000 in
theorem symOneS (E : World) (g : PH) (s : Own) (v cv : Value) (key : Side → Int) (hc : CmpOk E cv encSide key g) (p V q : List Side) (x : Side) (hsV : Srt key V) (hn : (p ++ [x] ++ V ++ q).length < 2305843009213693952)
  (a m b : Int) (ha : a = p.length) (hm : m = p.length + 1) (hb : b = p.length + 1 + V.length) :
  Ctr Tryz.prog E 148 #[v, vi a, vi m, vi b, cv] g (rowA encSide 55 v (p ++ [x] ++ V ++ q) :: s) (fun _ g' s' => g = g' ∧ ∃ W, Stab key ([x] ++ V) W ∧ Srt key W ∧ s' = rowA encSide 55 v (p ++ W ++ q) :: s) := by
 refine Ctr.facts fun ⟨w0, hw0⟩ => ?_
 have hbs : based v = true := by
  obtain ⟨b0, c0, he⟩ := rowA_based (i := 0) hw0 rfl lN
  rw [he]; rfl
 have hsl : slen v = (p ++ [x] ++ V ++ q).length := by
  obtain ⟨pp0, cc0, he⟩ := rowA_form (i := 0) hw0 rfl
  rw [he]; rfl
 clear hw0 w0
 simp only [List.length_append, List.length_singleton] at hn hsl
 have hgx : (p ++ [x] ++ V ++ q)[a.toNat]? = some x := by
  have : p ++ [x] ++ V ++ q = p ++ x :: (V ++ q) := by simp
  rw [this]; exact get_mid oM
 refine Ctr.of (args := [v, vi a, vi m, vi b, cv]) func148 rfl ntmps148 (Nat.le_of_ble_eq_true rfl) ?_
 refine SC.seq (SC.seq (SC.region (SL.M rfl (SL.M rfl (SL.U (SU.sub rfl rfl oM) (SL.U (SU.eql rfl rfl) (SL.nil (ST.thenN ?_))))))))
 refine SC.ifP rfl (fun h1 => ?_) (fun h1 => ?_)
 ·refine SC.seq (SC.region (SL.M rfl (SL.A rfl (SL.nil (ST.thenN (SC.seq (SC.region (SL.M rfl (SL.A rfl (SL.nil (ST.thenN ?_)))))))))))
  refine SC.cut (ι := List Side × List Side) (fun i => [(0, v), (1, vi a), (2, vi m), (3, vi b), (4, cv), (10, vi (m + i.1.length))]) (fun _ => g) (fun _ => rowA encSide 55 v (p ++ [x] ++ V ++ q) :: s)
   (fun i => V = i.1 ++ i.2 ∧ (∀ y ∈ i.1, key y < key x) ∧ (∀ y ∈ i.2, key x ≤ key y)) ?_ ?_
  ·refine SC.block ?_
   refine SC.loop (ι := List Side × List Side × List Side) (fun i => [(0, v), (1, vi a), (2, vi m), (3, vi b), (4, cv), (10, vi (m + i.1.length)), (11, vi (m + i.1.length + i.2.1.length))]) (fun _ => g) (fun _ => rowA encSide 55 v (p ++ [x] ++ V ++ q) :: s)
    (fun i => V = i.1 ++ i.2.1 ++ i.2.2 ∧ (∀ y ∈ i.1, key y < key x) ∧ (∀ y ∈ i.2.2, key x ≤ key y)) (fun i => i.2.1.length) ([], V, [])
    ⟨rfl, rfl, rfl, rfl, rfl, vi_eq lN, vi_eq lN, trivial⟩ rfl rfl ⟨by simp, by simp, by simp⟩ ?_
   rintro ⟨V1, M, V2⟩ ⟨hV, hlo, hhi⟩
   dsimp only at hV hlo hhi ⊢
   have hVl : V.length = V1.length + M.length + V2.length := by rw [hV]; (first | with_reducible rfl | ((try dsimp only); (try simp only [List.length_append, List.length_cons, List.length_nil, List.length_singleton, List.length_take, List.length_drop]) <;> omega))
   refine SC.seq (SC.seq (SC.region (SL.M rfl (SL.M rfl (SL.U (SU.lss rfl rfl) (SL.nil (ST.thenN ?_)))))))
   refine SC.ifP rfl (fun hlt => ?_) (fun hlt => ?_)
   ·obtain ⟨M1, y, M2, hM, hM1⟩ := half_splitS M (by intro e; rw [e] at hlt; simp at hlt)
    have hMl : M.length = M1.length + 1 + M2.length := by rw [hM]; simp; omega
    have hgy : (p ++ [x] ++ V ++ q)[((m + V1.length + (m + V1.length + M.length)) / 2).toNat]? = some y := by
     have : p ++ [x] ++ V ++ q = (p ++ [x] ++ V1 ++ M1) ++ y :: (M2 ++ V2 ++ q) := by rw [hV, hM]; simp
     rw [this]; exact get_mid lN
    rw [hM] at hV
    rw [hV] at hsV
    refine SC.skip (ST.thenN (SC.block (SC.seq (SC.region (SL.M rfl (SL.M rfl (SL.U (SU.add rfl rfl oM) (SL.U (SU.convert underlying3 underlying113 rfl) (SL.U (SU.shr rfl rfl dC) (SL.U (SU.eq (SU.convert underlying113 underlying3 rfl) (congrArg vi (half_int _ oM oM))) (SL.A rfl (SL.nil (ST.thenN (SC.seq ?_))))))))))))))
    refine SC.draw [] [(0, 2), (1, 2), (2, 2), (3, 2), (4, 1), (5, 2), (6, 2), (7, 2), (8, 1), (9, 0), (10, 2)] Tryz.mixed (by kernel_rfl) ?_
    refine SP.U (i := 0) rfl (SU.move rfl) (SP.U (i := 1) rfl (SU.move rfl) (SP.U (i := 2) rfl (SU.move rfl) (SP.U (i := 3) rfl (SU.indexAddr underlying49 sizeOf55 rfl rfl hbs oM (by rw [hsl]; omega)) ?_)))
    refine SP.K (i := 4) rfl (SQ.elemA isAgg55 sizeOf55 rfl (Rd.rowA 0 rfl) hgy) (SP.U (i := 5) rfl (SU.move rfl) (SP.U (i := 6) rfl (SU.move rfl) (SP.U (i := 7) rfl (SU.indexAddr underlying49 sizeOf55 rfl rfl hbs oM (by rw [hsl]; omega)) ?_)))
    refine SP.K (i := 8) rfl (SQ.elemA isAgg55 sizeOf55 rfl (Rd.rowA 0 rfl) hgx) (SP.o (i := 9) rfl (SO.callV rfl rfl (hc _ _ _ _ (Le.refl _))) dC (.inr (by rintro _ _ _ ⟨rfl, rfl, rfl⟩; exact ⟨by exact Le.refl _, (by exact .refl _)⟩)) ?_)
    rintro _ _ _ ⟨rfl, rfl, rfl⟩
    refine SP.U (i := 10) rfl (SU.lss rfl rfl) (SP.nil (ST.thenN ?_))
    refine SC.ifP rfl (fun hyx => ?_) (fun hyx => ?_)
    ·refine SC.region (SL.M rfl (SL.U (SU.add rfl rfl oM) (SL.A rfl (SL.nil (ST.blockN ?_)))))
     exact ST.again (V1 ++ M1 ++ [y], M2, V2) ⟨rfl, rfl, rfl, rfl, rfl, vi_eq lN, vi_eq lN, trivial⟩ rfl rfl ⟨by rw [hV]; simp, sym_leftS hsV hlo (cmpI_neg.1 hyx), hhi⟩ lN
    ·refine SC.region (SL.M rfl (SL.A rfl (SL.nil (ST.blockN ?_))))
     exact ST.again (V1, M1, (y :: M2) ++ V2) ⟨rfl, rfl, rfl, rfl, rfl, rfl, vi_eq lN, trivial⟩ rfl rfl ⟨by rw [hV]; simp, hlo, sym_rightS hsV hhi (by have := mt cmpI_neg.2 hyx; omega)⟩ lN
   ·refine SC.exit (ST.thenX (ST.thenX (ST.blockX ?_)))
    have hM : M = [] := List.eq_nil_of_length_eq_zero oM
    subst hM
    exact ST.mid (V1, V2) ⟨rfl, rfl, rfl, rfl, rfl, rfl, trivial⟩ rfl rfl ⟨by simpa using hV, hlo, hhi⟩
  ·rintro ⟨V1, V2⟩ ⟨hV, hlo, hhi⟩
   dsimp only at hV hlo hhi ⊢
   have hVl : V.length = V1.length + V2.length := by rw [hV]; simp
   refine SC.seq (SC.seq (SC.region (SL.M rfl (SL.A rfl (SL.nil (ST.thenN (SC.block ?_)))))))
   refine SC.loop (ι := List Side × List Side) (fun i => [(0, v), (1, vi a), (2, vi m), (3, vi b), (4, cv), (10, vi (m + V1.length)), (13, vi (a + i.1.length))]) (fun _ => g) (fun i => rowA encSide 55 v (p ++ i.1 ++ x :: i.2 ++ V2 ++ q) :: s)
    (fun i => V1 = i.1 ++ i.2) (fun i => i.2.length) ([], V1)
    ⟨rfl, rfl, rfl, rfl, rfl, rfl, vi_eq lN, trivial⟩ rfl (by rw [hV]; simp) (by simp) ?_
   rintro ⟨A, B⟩ hA
   dsimp only at hA ⊢
   have hAl : V1.length = A.length + B.length := by rw [hA]; simp
   refine SC.seq (SC.seq (SC.region (SL.M rfl (SL.M rfl (SL.U (SU.sub rfl rfl oM) (SL.U (SU.lss rfl rfl) (SL.nil (ST.thenN ?_))))))))
   refine SC.ifP rfl (fun hlt => ?_) (fun hlt => ?_)
   ·cases B with
    | nil => simp at hAl; omega
    | cons y B =>
    simp only [List.length_cons] at hAl
    have hg1 : (p ++ A ++ x :: (y :: B) ++ V2 ++ q)[(a + A.length).toNat]? = some x := by
     have : p ++ A ++ x :: (y :: B) ++ V2 ++ q = (p ++ A) ++ x :: (y :: B ++ V2 ++ q) := by simp
     rw [this]; exact get_mid lN
    have hg2 : (p ++ A ++ x :: (y :: B) ++ V2 ++ q)[(a + A.length + 1).toNat]? = some y := by
     have : p ++ A ++ x :: (y :: B) ++ V2 ++ q = (p ++ A ++ [x]) ++ y :: (B ++ V2 ++ q) := by simp
     rw [this]; exact get_mid lN
    refine SC.skip (ST.thenN (SC.seq (SC.block ?_)))
    refine SC.draw [15, 17] [(0, 2), (1, 2), (2, 2), (3, 2), (4, 2), (5, 2), (6, 2), (7, 2), (8, 2), (9, 1), (10, 2), (11, 2), (12, 2), (13, 1), (14, 2), (15, 0), (16, 2), (17, 0)] Tryz.mixed (by kernel_rfl) ?_
    refine SP.U (i := 0) rfl (SU.move rfl) (SP.U (i := 1) rfl (SU.move rfl) (SP.U (i := 2) rfl (SU.move rfl) (SP.U (i := 3) rfl (SU.move rfl) (SP.U (i := 4) rfl (SU.add rfl rfl oM) (SP.U (i := 5) rfl (SU.move rfl) (SP.U (i := 6) rfl (SU.move rfl) (SP.U (i := 7) rfl (SU.add rfl rfl oM) (SP.U (i := 8) rfl (SU.indexAddr underlying49 sizeOf55 rfl rfl hbs oM (by rw [hsl]; omega)) ?_))))))))
    refine SP.K (i := 9) rfl (SQ.elemA isAgg55 sizeOf55 rfl (Rd.rowA 0 rfl) hg2) (SP.U (i := 10) rfl (SU.move rfl) (SP.U (i := 11) rfl (SU.move rfl) (SP.U (i := 12) rfl (SU.indexAddr underlying49 sizeOf55 rfl rfl hbs oM (by rw [hsl]; omega)) ?_)))
    refine SP.K (i := 13) rfl (SQ.elemA isAgg55 sizeOf55 rfl (Rd.rowA 0 rfl) hg1) (SP.U (i := 14) rfl (SU.indexAddr underlying49 sizeOf55 rfl rfl hbs oM (by rw [hsl]; omega)) ?_)
    refine SP.on (i := 15) rfl (SO.setA (a := y) 0 sizeOf55 rfl rfl rfl lN rfl) (.inl dC) ?_
    rintro _ _ _ ⟨rfl, rfl⟩
    refine SP.U (i := 16) rfl (SU.indexAddr underlying49 sizeOf55 rfl rfl hbs oM (by rw [hsl]; omega)) ?_
    refine SP.on (i := 17) rfl (SO.setA (a := x) 0 sizeOf55 rfl rfl rfl (by rw [List.length_set]; (first | with_reducible rfl | ((try dsimp only); (try simp only [List.length_append, List.length_cons, List.length_nil, List.length_singleton, List.length_take, List.length_drop]) <;> omega))) rfl) (.inl dC) ?_
    rintro _ _ _ ⟨rfl, rfl⟩
    refine SP.nil (ST.blockN (ST.thenN (SC.region (SL.M rfl (SL.U (SU.add rfl rfl oM) (SL.A rfl (SL.nil ?_)))))))
    have hset : ((p ++ A ++ x :: (y :: B) ++ V2 ++ q).set (a + A.length).toNat y).set (a + A.length + 1).toNat x = p ++ (A ++ [y]) ++ x :: B ++ V2 ++ q := by
     have e1 : p ++ A ++ x :: (y :: B) ++ V2 ++ q = (p ++ A) ++ x :: (y :: B ++ V2 ++ q) := by simp
     rw [e1, set_mid lN]
     have e2 : (p ++ A) ++ y :: (y :: B ++ V2 ++ q) = (p ++ A ++ [y]) ++ y :: (B ++ V2 ++ q) := by simp
     rw [e2, set_mid lN]
     simp
    exact ST.again (A ++ [y], B) ⟨rfl, rfl, rfl, rfl, rfl, rfl, vi_eq lN, trivial⟩ rfl (by dsimp only; rw [← hset]; rfl) (by rw [hA]; simp) lN
   ·refine SC.exit (ST.thenX (ST.thenX (ST.blockX (ST.thenN (SC.ret (ST.thenR ?_))))))
    have hB : B = [] := List.eq_nil_of_length_eq_zero oM
    subst hB
    have hA' : A = V1 := by simpa using hA.symm
    subst hA'
    exact ST.ret0 (.inl rfl) results148 ⟨rfl, A ++ x :: V2, by
     rw [hV]
     have h1 := Stab.append (Stab.swap (key := key) (a := [x]) (b := A) (fun z hz u hu => by simp at hz; subst hz; have := hlo u hu; omega)) (Stab.refl (key := key) V2)
     simpa using h1, by
     rw [hV] at hsV
     obtain ⟨h1, h2, h3⟩ := Srt.append_iff.1 hsV
     exact Srt.append_iff.2 ⟨h1, Srt.cons_iff.2 ⟨hhi, h2⟩, fun z hz u hu => by
      rcases List.mem_cons.1 hu with e | e
      ·rw [e]; exact Int.le_of_lt (hlo z hz)
      ·exact h3 z hz u e⟩, by simp⟩
 ·omega
set_option maxHeartbeats 1000000 in
theorem symLastS (E : World) (g : PH) (s : Own) (v cv : Value) (key : Side → Int) (hc : CmpOk E cv encSide key g) (p U q : List Side) (y : Side) (hsU : Srt key U) (hU1 : 1 < U.length) (hn : (p ++ U ++ [y] ++ q).length < 2305843009213693952)
  (a m b : Int) (ha : a = p.length) (hm : m = p.length + U.length) (hb : b = p.length + U.length + 1) :
  Ctr Tryz.prog E 148 #[v, vi a, vi m, vi b, cv] g (rowA encSide 55 v (p ++ U ++ [y] ++ q) :: s) (fun _ g' s' => g = g' ∧ ∃ W, Stab key (U ++ [y]) W ∧ Srt key W ∧ s' = rowA encSide 55 v (p ++ W ++ q) :: s) := by
 refine Ctr.facts fun ⟨w0, hw0⟩ => ?_
 have hbs : based v = true := by
  obtain ⟨b0, c0, he⟩ := rowA_based (i := 0) hw0 rfl lN
  rw [he]; rfl
 have hsl : slen v = (p ++ U ++ [y] ++ q).length := by
  obtain ⟨pp0, cc0, he⟩ := rowA_form (i := 0) hw0 rfl
  rw [he]; rfl
 clear hw0 w0
 simp only [List.length_append, List.length_singleton] at hn hsl
 have hgy : (p ++ U ++ [y] ++ q)[m.toNat]? = some y := by
  have : p ++ U ++ [y] ++ q = (p ++ U) ++ y :: q := by simp
  rw [this]; exact get_mid lN
 refine Ctr.of (args := [v, vi a, vi m, vi b, cv]) func148 rfl ntmps148 (Nat.le_of_ble_eq_true rfl) ?_
 refine SC.seq (SC.seq (SC.region (SL.M rfl (SL.M rfl (SL.U (SU.sub rfl rfl oM) (SL.U (SU.eql rfl rfl) (SL.nil (ST.thenN ?_))))))))
 refine SC.ifP rfl (fun h1 => ?_) (fun h1 => ?_)
 ·omega
 ·refine SC.skip (ST.thenN (SC.seq (SC.seq (SC.region (SL.M rfl (SL.M rfl (SL.U (SU.sub rfl rfl oM) (SL.U (SU.eql rfl rfl) (SL.nil (ST.thenN ?_))))))))))
  refine SC.ifP rfl (fun h2 => ?_) (fun h2 => ?_)
  ·refine SC.seq (SC.region (SL.M rfl (SL.A rfl (SL.nil (ST.thenN (SC.seq (SC.region (SL.M rfl (SL.A rfl (SL.nil (ST.thenN ?_)))))))))))
   refine SC.cut (ι := List Side × List Side) (fun i => [(0, v), (1, vi a), (2, vi m), (3, vi b), (4, cv), (14, vi (a + i.1.length))]) (fun _ => g) (fun _ => rowA encSide 55 v (p ++ U ++ [y] ++ q) :: s)
    (fun i => U = i.1 ++ i.2 ∧ (∀ z ∈ i.1, key z ≤ key y) ∧ (∀ z ∈ i.2, key y < key z)) ?_ ?_
   ·refine SC.block ?_
    refine SC.loop (ι := List Side × List Side × List Side) (fun i => [(0, v), (1, vi a), (2, vi m), (3, vi b), (4, cv), (14, vi (a + i.1.length)), (15, vi (a + i.1.length + i.2.1.length))]) (fun _ => g) (fun _ => rowA encSide 55 v (p ++ U ++ [y] ++ q) :: s)
     (fun i => U = i.1 ++ i.2.1 ++ i.2.2 ∧ (∀ z ∈ i.1, key z ≤ key y) ∧ (∀ z ∈ i.2.2, key y < key z)) (fun i => i.2.1.length) ([], U, [])
     ⟨rfl, rfl, rfl, rfl, rfl, vi_eq lN, vi_eq lN, trivial⟩ rfl rfl ⟨by simp, by simp, by simp⟩ ?_
    rintro ⟨U1, M, U2⟩ ⟨hU, hlo, hhi⟩
    dsimp only at hU hlo hhi ⊢
    have hUl : U.length = U1.length + M.length + U2.length := by rw [hU]; (first | with_reducible rfl | ((try dsimp only); (try simp only [List.length_append, List.length_cons, List.length_nil, List.length_singleton, List.length_take, List.length_drop]) <;> omega))
    refine SC.seq (SC.seq (SC.region (SL.M rfl (SL.M rfl (SL.U (SU.lss rfl rfl) (SL.nil (ST.thenN ?_)))))))
    refine SC.ifP rfl (fun hlt => ?_) (fun hlt => ?_)
    ·obtain ⟨M1, z, M2, hM, hM1⟩ := half_splitS M (by intro e; rw [e] at hlt; simp at hlt)
     have hMl : M.length = M1.length + 1 + M2.length := by rw [hM]; simp; omega
     have hgz : (p ++ U ++ [y] ++ q)[((a + U1.length + (a + U1.length + M.length)) / 2).toNat]? = some z := by
      have : p ++ U ++ [y] ++ q = (p ++ U1 ++ M1) ++ z :: (M2 ++ U2 ++ [y] ++ q) := by rw [hU, hM]; simp
      rw [this]; exact get_mid lN
     rw [hM] at hU
     rw [hU] at hsU
     have hs3 := Srt.append_iff.1 (Srt.append_iff.1 (Srt.append_iff.1 hsU).1).2.1
     refine SC.skip (ST.thenN (SC.block (SC.seq (SC.region (SL.M rfl (SL.M rfl (SL.U (SU.add rfl rfl oM) (SL.U (SU.convert underlying3 underlying113 rfl) (SL.U (SU.shr rfl rfl dC) (SL.U (SU.eq (SU.convert underlying113 underlying3 rfl) (congrArg vi (half_int _ oM oM))) (SL.A rfl (SL.nil (ST.thenN (SC.seq ?_))))))))))))))
     refine SC.draw [] [(0, 2), (1, 2), (2, 2), (3, 2), (4, 1), (5, 2), (6, 2), (7, 2), (8, 1), (9, 0), (10, 2), (11, 2)] Tryz.mixed (by kernel_rfl) ?_
     refine SP.U (i := 0) rfl (SU.move rfl) (SP.U (i := 1) rfl (SU.move rfl) (SP.U (i := 2) rfl (SU.move rfl) (SP.U (i := 3) rfl (SU.indexAddr underlying49 sizeOf55 rfl rfl hbs oM (by rw [hsl]; omega)) ?_)))
     refine SP.K (i := 4) rfl (SQ.elemA isAgg55 sizeOf55 rfl (Rd.rowA 0 rfl) hgy) (SP.U (i := 5) rfl (SU.move rfl) (SP.U (i := 6) rfl (SU.move rfl) (SP.U (i := 7) rfl (SU.indexAddr underlying49 sizeOf55 rfl rfl hbs oM (by rw [hsl]; omega)) ?_)))
     refine SP.K (i := 8) rfl (SQ.elemA isAgg55 sizeOf55 rfl (Rd.rowA 0 rfl) hgz) (SP.o (i := 9) rfl (SO.callV rfl rfl (hc _ _ _ _ (Le.refl _))) dC (.inr (by rintro _ _ _ ⟨rfl, rfl, rfl⟩; exact ⟨by exact Le.refl _, (by exact .refl _)⟩)) ?_)
     rintro _ _ _ ⟨rfl, rfl, rfl⟩
     refine SP.U (i := 10) rfl (SU.lss rfl rfl) (SP.U (i := 11) rfl (SU.notP rfl) (SP.nil (ST.thenN ?_)))
     refine SC.ifP rfl (fun hyz => ?_) (fun hyz => ?_)
     ·refine SC.region (SL.M rfl (SL.U (SU.add rfl rfl oM) (SL.A rfl (SL.nil (ST.blockN ?_)))))
      have hzy : key z ≤ key y := by have := mt cmpI_neg.2 hyz; omega
      exact ST.again (U1 ++ M1 ++ [z], M2, U2) ⟨rfl, rfl, rfl, rfl, rfl, vi_eq lN, vi_eq lN, trivial⟩ rfl rfl ⟨by rw [hU]; simp, by
       intro u hu
       simp only [List.mem_append, List.mem_singleton] at hu
       rcases hu with (hu | hu) | hu
       ·exact hlo u hu
       ·have := hs3.2.2 u hu z (by simp); omega
       ·rw [hu]; exact hzy, hhi⟩ lN
     ·refine SC.region (SL.M rfl (SL.A rfl (SL.nil (ST.blockN ?_))))
      have hzy : key y < key z := cmpI_neg.1 (Decidable.of_not_not hyz)
      exact ST.again (U1, M1, (z :: M2) ++ U2) ⟨rfl, rfl, rfl, rfl, rfl, rfl, vi_eq lN, trivial⟩ rfl rfl ⟨by rw [hU]; simp, hlo, by
       intro u hu
       simp only [List.mem_append, List.mem_cons] at hu
       rcases hu with (hu | hu) | hu
       ·rw [hu]; exact hzy
       ·have := (Srt.cons_iff.1 hs3.2.1).1 u hu; omega
       ·exact hhi u hu⟩ lN
    ·refine SC.exit (ST.thenX (ST.thenX (ST.blockX ?_)))
     have hM : M = [] := List.eq_nil_of_length_eq_zero oM
     subst hM
     exact ST.mid (U1, U2) ⟨rfl, rfl, rfl, rfl, rfl, rfl, trivial⟩ rfl rfl ⟨by simpa using hU, hlo, hhi⟩
   ·rintro ⟨U1, U2⟩ ⟨hU, hlo, hhi⟩
    dsimp only at hU hlo hhi ⊢
    have hUl : U.length = U1.length + U2.length := by rw [hU]; simp
    refine SC.seq (SC.seq (SC.region (SL.M rfl (SL.A rfl (SL.nil (ST.thenN (SC.block ?_)))))))
    refine SC.loop (ι := List Side × List Side) (fun i => [(0, v), (1, vi a), (2, vi m), (3, vi b), (4, cv), (14, vi (a + U1.length)), (17, vi (a + U1.length + i.1.length))]) (fun _ => g) (fun i => rowA encSide 55 v (p ++ U1 ++ i.1 ++ y :: i.2 ++ q) :: s)
     (fun i => U2 = i.1 ++ i.2) (fun i => i.1.length) (U2, [])
     ⟨rfl, rfl, rfl, rfl, rfl, rfl, vi_eq lN, trivial⟩ rfl (by rw [hU]; simp) (by simp) ?_
    rintro ⟨A, B⟩ hA
    dsimp only at hA ⊢
    have hAl : U2.length = A.length + B.length := by rw [hA]; simp
    refine SC.seq (SC.seq (SC.region (SL.M rfl (SL.M rfl (SL.U (SU.gtr rfl rfl) (SL.nil (ST.thenN ?_)))))))
    refine SC.ifP rfl (fun hlt => ?_) (fun hlt => ?_)
    ·rcases List.eq_nil_or_concat A with hA0 | ⟨A0, z, hA0⟩
     ·rw [hA0] at hlt; simp at hlt
     rw [List.concat_eq_append] at hA0
     have hA0l : A.length = A0.length + 1 := by rw [hA0]; simp
     have hg1 : (p ++ U1 ++ A ++ y :: B ++ q)[(a + U1.length + A.length).toNat]? = some y := by
      have : p ++ U1 ++ A ++ y :: B ++ q = (p ++ U1 ++ A) ++ y :: (B ++ q) := by simp
      rw [this]; exact get_mid lN
     have hg2 : (p ++ U1 ++ A ++ y :: B ++ q)[(a + U1.length + A.length - 1).toNat]? = some z := by
      have : p ++ U1 ++ A ++ y :: B ++ q = (p ++ U1 ++ A0) ++ z :: (y :: B ++ q) := by rw [hA0]; simp
      rw [this]; exact get_mid lN
     refine SC.skip (ST.thenN (SC.seq (SC.block ?_)))
     refine SC.draw [15, 17] [(0, 2), (1, 2), (2, 2), (3, 2), (4, 2), (5, 2), (6, 2), (7, 2), (8, 2), (9, 1), (10, 2), (11, 2), (12, 2), (13, 1), (14, 2), (15, 0), (16, 2), (17, 0)] Tryz.mixed (by kernel_rfl) ?_
     refine SP.U (i := 0) rfl (SU.move rfl) (SP.U (i := 1) rfl (SU.move rfl) (SP.U (i := 2) rfl (SU.move rfl) (SP.U (i := 3) rfl (SU.move rfl) (SP.U (i := 4) rfl (SU.sub rfl rfl oM) (SP.U (i := 5) rfl (SU.move rfl) (SP.U (i := 6) rfl (SU.move rfl) (SP.U (i := 7) rfl (SU.sub rfl rfl oM) (SP.U (i := 8) rfl (SU.indexAddr underlying49 sizeOf55 rfl rfl hbs oM (by rw [hsl]; omega)) ?_))))))))
     refine SP.K (i := 9) rfl (SQ.elemA isAgg55 sizeOf55 rfl (Rd.rowA 0 rfl) hg2) (SP.U (i := 10) rfl (SU.move rfl) (SP.U (i := 11) rfl (SU.move rfl) (SP.U (i := 12) rfl (SU.indexAddr underlying49 sizeOf55 rfl rfl hbs oM (by rw [hsl]; omega)) ?_)))
     refine SP.K (i := 13) rfl (SQ.elemA isAgg55 sizeOf55 rfl (Rd.rowA 0 rfl) hg1) (SP.U (i := 14) rfl (SU.indexAddr underlying49 sizeOf55 rfl rfl hbs oM (by rw [hsl]; omega)) ?_)
     refine SP.on (i := 15) rfl (SO.setA (a := z) 0 sizeOf55 rfl rfl rfl lN rfl) (.inl dC) ?_
     rintro _ _ _ ⟨rfl, rfl⟩
     refine SP.U (i := 16) rfl (SU.indexAddr underlying49 sizeOf55 rfl rfl hbs oM (by rw [hsl]; omega)) ?_
     refine SP.on (i := 17) rfl (SO.setA (a := y) 0 sizeOf55 rfl rfl rfl (by rw [List.length_set]; (first | with_reducible rfl | ((try dsimp only); (try simp only [List.length_append, List.length_cons, List.length_nil, List.length_singleton, List.length_take, List.length_drop]) <;> omega))) rfl) (.inl dC) ?_
     rintro _ _ _ ⟨rfl, rfl⟩
     refine SP.nil (ST.blockN (ST.thenN (SC.region (SL.M rfl (SL.U (SU.sub rfl rfl oM) (SL.A rfl (SL.nil ?_)))))))
     have hset : ((p ++ U1 ++ A ++ y :: B ++ q).set (a + U1.length + A.length).toNat z).set (a + U1.length + A.length - 1).toNat y = p ++ U1 ++ A0 ++ y :: (z :: B) ++ q := by
      have e1 : p ++ U1 ++ A ++ y :: B ++ q = (p ++ U1 ++ A) ++ y :: (B ++ q) := by simp
      rw [e1, set_mid lN]
      have e2 : (p ++ U1 ++ A) ++ z :: (B ++ q) = (p ++ U1 ++ A0) ++ z :: (z :: B ++ q) := by rw [hA0]; simp
      rw [e2, set_mid lN]
      simp
     exact ST.again (A0, z :: B) ⟨rfl, rfl, rfl, rfl, rfl, rfl, vi_eq lN, trivial⟩ rfl (by dsimp only; rw [← hset]; rfl) (by rw [hA, hA0]; simp) lN
    ·refine SC.exit (ST.thenX (ST.thenX (ST.blockX (ST.thenN (SC.ret (ST.thenR ?_))))))
     have hA0 : A = [] := List.eq_nil_of_length_eq_zero oM
     subst hA0
     have hB' : B = U2 := by simpa using hA.symm
     subst hB'
     exact ST.ret0 (.inl rfl) results148 ⟨rfl, U1 ++ y :: B, by
      rw [hU]
      have h1 := Stab.append (Stab.refl (key := key) U1) (Stab.swap (key := key) (a := B) (b := [y]) (fun z hz u hu => by simp at hu; subst hu; have := hhi z hz; omega))
      simpa using h1, by
      rw [hU] at hsU
      obtain ⟨h1, h2, h3⟩ := Srt.append_iff.1 hsU
      exact Srt.append_iff.2 ⟨h1, Srt.cons_iff.2 ⟨fun z hz => Int.le_of_lt (hhi z hz), h2⟩, fun z hz u hu => by
       rcases List.mem_cons.1 hu with e | e
       ·rw [e]; exact hlo z hz
       ·exact h3 z hz u e⟩, by simp⟩
  ·omega
def PTS (key : Side → Int) (U V : List Side) (i j : Int) : Prop := ∃ x y, U[i.toNat]? = some x ∧ V[j.toNat]? = some y ∧ key y < key x
def PFS (key : Side → Int) (U V : List Side) (i j : Int) : Prop := ∃ x y, U[i.toNat]? = some x ∧ V[j.toNat]? = some y ∧ key x ≤ key y
theorem srt_getS {key : Side → Int} {l : List Side} (hs : Srt key l) {i j : Nat} {x y : Side} (hi : l[i]? = some x) (hj : l[j]? = some y) (h : i ≤ j) : key x ≤ key y := by
 obtain ⟨h1, rfl⟩ := List.getElem?_eq_some_iff.1 hi
 obtain ⟨h2, rfl⟩ := List.getElem?_eq_some_iff.1 hj
 rcases Nat.lt_or_eq_of_le h with h3 | h3
 ·exact List.pairwise_iff_getElem.1 hs i j h1 h2 h3
 ·subst h3; exact Int.le_refl _
theorem sym_geS {key : Side → Int} {U V : List Side} (hU : Srt key U) (hV : Srt key V) {i j : Nat} (h : PTS key U V i (j - 1)) (hj : 0 < j) : ∀ x ∈ U.drop i, ∀ y ∈ V.take j, key y < key x := by
 obtain ⟨x0, y0, h1, h2, h3⟩ := h
 intro x hx y hy
 obtain ⟨k1, hk1⟩ := List.mem_iff_getElem?.1 hx
 obtain ⟨k2, hk2⟩ := List.mem_iff_getElem?.1 hy
 rw [List.getElem?_drop] at hk1
 rw [List.getElem?_take] at hk2
 split at hk2
 ·have e1 := srt_getS hU h1 hk1 oM
  have e2 := srt_getS hV hk2 h2 oM
  omega
 ·cases hk2
theorem sym_leS {key : Side → Int} {U V : List Side} (hU : Srt key U) (hV : Srt key V) {i j : Nat} (h : PFS key U V (i - 1) j) (hi : 0 < i) : ∀ x ∈ U.take i, ∀ y ∈ V.drop j, key x ≤ key y := by
 obtain ⟨x0, y0, h1, h2, h3⟩ := h
 intro x hx y hy
 obtain ⟨k1, hk1⟩ := List.mem_iff_getElem?.1 hx
 obtain ⟨k2, hk2⟩ := List.mem_iff_getElem?.1 hy
 rw [List.getElem?_drop] at hk2
 rw [List.getElem?_take] at hk1
 split at hk1
 ·have e1 := srt_getS hU hk1 h1 oM
  have e2 := srt_getS hV h2 hk2 oM
  omega
 ·cases hk1
set_option maxHeartbeats 1000000 in
theorem symMergeS (E : World) (g : PH) (v cv : Value) (key : Side → Int) (hc : CmpOk E cv encSide key g) : ∀ (n : Nat) (s : Own) (p U V q : List Side) (_ : U.length + V.length = n) (hsU : Srt key U) (hsV : Srt key V) (hU0 : 0 < U.length) (hV0 : 0 < V.length) (hn : (p ++ U ++ V ++ q).length < 2305843009213693952)
  (a m b : Int) (ha : a = p.length) (hm : m = p.length + U.length) (hb : b = p.length + U.length + V.length),
  Ctr Tryz.prog E 148 #[v, vi a, vi m, vi b, cv] g (rowA encSide 55 v (p ++ U ++ V ++ q) :: s) (fun _ g' s' => g = g' ∧ ∃ W, Stab key (U ++ V) W ∧ Srt key W ∧ s' = rowA encSide 55 v (p ++ W ++ q) :: s) := by
 intro n
 induction n using Nat.strongRecOn with
 | _ n ih =>
 intro s p U V q hnn hsU hsV hU0 hV0 hn a m b ha hm hb
 by_cases hU1 : U.length = 1
 ·obtain ⟨x, rfl⟩ := List.length_eq_one_iff.1 hU1
  exact symOneS E g s v cv key hc p V q x hsV hn a m b ha hm hb
 by_cases hV1 : V.length = 1
 ·obtain ⟨y, rfl⟩ := List.length_eq_one_iff.1 hV1
  exact symLastS E g s v cv key hc p U q y hsU oM hn a m b ha hm hb
 refine Ctr.facts fun ⟨w0, hw0⟩ => ?_
 have hbs : based v = true := by
  obtain ⟨b0, c0, he⟩ := rowA_based (i := 0) hw0 rfl lN
  rw [he]; rfl
 have hsl : slen v = (p ++ U ++ V ++ q).length := by
  obtain ⟨pp0, cc0, he⟩ := rowA_form (i := 0) hw0 rfl
  rw [he]; rfl
 clear hw0 w0
 simp only [List.length_append] at hn hsl
 have hgU : ∀ (c : Int) (x : Side), 0 ≤ c → U[c.toNat]? = some x → (p ++ U ++ V ++ q)[(a + c).toNat]? = some x := fun c x h0 hx => by
  have hlt := (List.getElem?_eq_some_iff.1 hx).1
  rw [List.append_assoc, List.append_assoc, List.getElem?_append_right oM, List.getElem?_append_left oM, show (a + c).toNat - p.length = c.toNat by omega]
  exact hx
 have hgV : ∀ (c : Int) (x : Side), 0 ≤ c → V[c.toNat]? = some x → (p ++ U ++ V ++ q)[(m + c).toNat]? = some x := fun c x h0 hx => by
  have hlt := (List.getElem?_eq_some_iff.1 hx).1
  rw [List.getElem?_append_left lN, List.getElem?_append_right lN, show (m + c).toNat - (p ++ U).length = c.toNat by exact lN]
  exact hx
 refine Ctr.of (args := [v, vi a, vi m, vi b, cv]) func148 rfl ntmps148 (Nat.le_of_ble_eq_true rfl) ?_
 refine SC.seq (SC.seq (SC.region (SL.M rfl (SL.M rfl (SL.U (SU.sub rfl rfl oM) (SL.U (SU.eql rfl rfl) (SL.nil (ST.thenN ?_))))))))
 refine SC.ifP rfl (fun h1 => ?_) (fun h1 => ?_)
 ·omega
 refine SC.skip (ST.thenN (SC.seq (SC.seq (SC.region (SL.M rfl (SL.M rfl (SL.U (SU.sub rfl rfl oM) (SL.U (SU.eql rfl rfl) (SL.nil (ST.thenN ?_))))))))))
 refine SC.ifP rfl (fun h2 => ?_) (fun h2 => ?_)
 ·omega
 refine SC.skip (ST.thenN (SC.seq (SC.region (SL.M rfl (SL.M rfl (SL.U (SU.add rfl rfl oM) (SL.U (SU.convert underlying3 underlying113 rfl) (SL.U (SU.shr rfl rfl dC) (SL.U (SU.eq (SU.convert underlying113 underlying3 rfl) (congrArg vi (half_int _ oM oM))) (SL.A rfl (SL.nil (ST.thenN (SC.seq (SC.region (SL.M rfl (SL.M rfl (SL.U (SU.add rfl rfl oM) (SL.A rfl (SL.nil (ST.thenN (SC.seq (SC.region (SL.A rfl (SL.A rfl (SL.nil (ST.thenN ?_))))))))))))))))))))))))))
 generalize hmid : (a + b) / 2 = mid
 refine SC.cut (ι := Int × Int) (fun i => [(0, v), (1, vi a), (2, vi m), (3, vi b), (4, cv), (18, vi mid), (19, vi (mid + m)), (20, vi i.1), (21, vi i.2)]) (fun _ => g) (fun _ => rowA encSide 55 v (p ++ U ++ V ++ q) :: s)
  (fun i => (mid < m → i.1 = mid + m - b ∧ i.2 = mid) ∧ (¬ mid < m → i.1 = a ∧ i.2 = m)) ?_ ?_
 ·refine SC.seq (SC.region (SL.M rfl (SL.M rfl (SL.U (SU.gtr rfl rfl) (SL.nil (ST.thenN ?_))))))
  refine SC.ifP rfl (fun h3 => ?_) (fun h3 => ?_)
  ·refine SC.seq (SC.region (SL.M rfl (SL.M rfl (SL.U (SU.sub rfl rfl oM) (SL.A rfl (SL.nil (ST.thenN (SC.region (SL.M rfl (SL.A rfl (SL.nil ?_)))))))))))
   exact ST.mid (mid + m - b, mid) ⟨rfl, rfl, rfl, rfl, rfl, rfl, rfl, rfl, rfl, trivial⟩ rfl rfl ⟨fun _ => ⟨rfl, rfl⟩, fun h => absurd h3 h⟩
  ·refine SC.seq (SC.region (SL.M rfl (SL.A rfl (SL.nil (ST.thenN (SC.region (SL.M rfl (SL.A rfl (SL.nil ?_)))))))))
   exact ST.mid (a, m) ⟨rfl, rfl, rfl, rfl, rfl, rfl, rfl, rfl, rfl, trivial⟩ rfl rfl ⟨fun h => absurd h h3, fun _ => ⟨rfl, rfl⟩⟩
 rintro ⟨st0, r0⟩ ⟨hc1, hc2⟩
 dsimp only at hc1 hc2 ⊢
 have hb0 : a ≤ st0 ∧ st0 ≤ r0 ∧ r0 ≤ m ∧ r0 ≤ mid ∧ mid - st0 ≤ V.length := by
  by_cases h : mid < m
  ·have := hc1 h; omega
  ·have := hc2 h; omega
 refine SC.seq (SC.region (SL.M rfl (SL.U (SU.sub rfl rfl oM) (SL.A rfl (SL.nil (ST.thenN ?_))))))
 refine SC.cut (ι := Int) (fun i => [(0, v), (1, vi a), (2, vi m), (3, vi b), (4, cv), (18, vi mid), (19, vi (mid + m)), (20, vi i)]) (fun _ => g) (fun _ => rowA encSide 55 v (p ++ U ++ V ++ q) :: s)
  (fun i => st0 ≤ i ∧ i ≤ r0 ∧ (i = st0 ∨ PFS key U V (i - 1 - a) (mid - i)) ∧ (i = r0 ∨ PTS key U V (i - a) (mid - 1 - i))) ?_ ?_
 ·refine SC.block ?_
  refine SC.loop (ι := Int × Int) (fun i => [(0, v), (1, vi a), (2, vi m), (3, vi b), (4, cv), (18, vi mid), (19, vi (mid + m)), (20, vi i.1), (21, vi i.2), (22, vi (mid + m - 1))]) (fun _ => g) (fun _ => rowA encSide 55 v (p ++ U ++ V ++ q) :: s)
   (fun i => st0 ≤ i.1 ∧ i.1 ≤ i.2 ∧ i.2 ≤ r0 ∧ (i.1 = st0 ∨ PFS key U V (i.1 - 1 - a) (mid - i.1)) ∧ (i.2 = r0 ∨ PTS key U V (i.2 - a) (mid - 1 - i.2))) (fun i => (i.2 - i.1).toNat) (st0, r0)
   ⟨rfl, rfl, rfl, rfl, rfl, rfl, rfl, rfl, rfl, rfl, trivial⟩ rfl rfl ⟨lN, lN, lN, .inl rfl, .inl rfl⟩ ?_
  rintro ⟨st, r⟩ ⟨hj1, hj2, hj3, hj4, hj5⟩
  dsimp only at hj1 hj2 hj3 hj4 hj5 ⊢
  refine SC.seq (SC.seq (SC.region (SL.M rfl (SL.M rfl (SL.U (SU.lss rfl rfl) (SL.nil (ST.thenN ?_)))))))
  refine SC.ifP rfl (fun hlt => ?_) (fun hlt => ?_)
  ·obtain ⟨x, hx⟩ : ∃ x, U[((st + r) / 2 - a).toNat]? = some x := ⟨_, List.getElem?_eq_getElem oM⟩
   obtain ⟨y, hy⟩ : ∃ y, V[(mid - 1 - (st + r) / 2).toNat]? = some y := ⟨_, List.getElem?_eq_getElem oM⟩
   have hgx := hgU _ x oM hx
   have hgy := hgV _ y oM hy
   rw [show a + ((st + r) / 2 - a) = (st + r) / 2 by omega] at hgx
   rw [show m + (mid - 1 - (st + r) / 2) = mid + m - 1 - (st + r) / 2 by omega] at hgy
   refine SC.skip (ST.thenN (SC.block (SC.seq (SC.region (SL.M rfl (SL.M rfl (SL.U (SU.add rfl rfl oM) (SL.U (SU.convert underlying3 underlying113 rfl) (SL.U (SU.shr rfl rfl dC) (SL.U (SU.eq (SU.convert underlying113 underlying3 rfl) (congrArg vi (half_int _ oM oM))) (SL.A rfl (SL.nil (ST.thenN (SC.seq ?_))))))))))))))
   refine SC.draw [] [(0, 2), (1, 2), (2, 2), (3, 2), (4, 2), (5, 2), (6, 1), (7, 2), (8, 2), (9, 2), (10, 1), (11, 0), (12, 2), (13, 2)] Tryz.mixed (by kernel_rfl) ?_
   refine SP.U (i := 0) rfl (SU.move rfl) (SP.U (i := 1) rfl (SU.move rfl) (SP.U (i := 2) rfl (SU.move rfl) (SP.U (i := 3) rfl (SU.move rfl) (SP.U (i := 4) rfl (SU.sub rfl rfl oM) (SP.U (i := 5) rfl (SU.indexAddr underlying49 sizeOf55 rfl rfl hbs oM (by rw [hsl]; omega)) ?_)))))
   refine SP.K (i := 6) rfl (SQ.elemA isAgg55 sizeOf55 rfl (Rd.rowA 0 rfl) hgy) (SP.U (i := 7) rfl (SU.move rfl) (SP.U (i := 8) rfl (SU.move rfl) (SP.U (i := 9) rfl (SU.indexAddr underlying49 sizeOf55 rfl rfl hbs oM (by rw [hsl]; omega)) ?_)))
   refine SP.K (i := 10) rfl (SQ.elemA isAgg55 sizeOf55 rfl (Rd.rowA 0 rfl) hgx) (SP.o (i := 11) rfl (SO.callV rfl rfl (hc _ _ _ _ (Le.refl _))) dC (.inr (by rintro _ _ _ ⟨rfl, rfl, rfl⟩; exact ⟨by exact Le.refl _, (by exact .refl _)⟩)) ?_)
   rintro _ _ _ ⟨rfl, rfl, rfl⟩
   refine SP.U (i := 12) rfl (SU.lss rfl rfl) (SP.U (i := 13) rfl (SU.notP rfl) (SP.nil (ST.thenN ?_)))
   refine SC.ifP rfl (fun hyx => ?_) (fun hyx => ?_)
   ·refine SC.region (SL.M rfl (SL.U (SU.add rfl rfl oM) (SL.A rfl (SL.nil (ST.blockN ?_)))))
    exact ST.again ((st + r) / 2 + 1, r) ⟨rfl, rfl, rfl, rfl, rfl, rfl, rfl, rfl, rfl, rfl, trivial⟩ rfl rfl ⟨lN, lN, lN, .inr ⟨x, y, by
     rw [show (st + r) / 2 + 1 - 1 - a = (st + r) / 2 - a by omega]; exact hx, by
     rw [show mid - ((st + r) / 2 + 1) = mid - 1 - (st + r) / 2 by omega]; exact hy, by have := mt cmpI_neg.2 hyx; omega⟩, hj5⟩ lN
   ·refine SC.region (SL.M rfl (SL.A rfl (SL.nil (ST.blockN ?_))))
    exact ST.again (st, (st + r) / 2) ⟨rfl, rfl, rfl, rfl, rfl, rfl, rfl, rfl, rfl, rfl, trivial⟩ rfl rfl ⟨lN, lN, lN, hj4, .inr ⟨x, y, hx, hy, cmpI_neg.1 (Decidable.of_not_not hyx)⟩⟩ lN
  ·refine SC.exit (ST.thenX (ST.thenX (ST.blockX ?_)))
   have hsr : st = r := oM
   subst hsr
   exact ST.mid st ⟨rfl, rfl, rfl, rfl, rfl, rfl, rfl, rfl, trivial⟩ rfl rfl ⟨hj1, hj3, hj4, hj5⟩
 rintro st ⟨hj1, hj2, hj4, hj5⟩
 try dsimp only
 -- the four pieces
 obtain ⟨i, hi⟩ : ∃ i : Nat, st = a + i := ⟨(st - a).toNat, oM⟩
 obtain ⟨j, hj⟩ : ∃ j : Nat, mid = st + j := ⟨(mid - st).toNat, oM⟩
 have H1 : ∀ x ∈ U.drop i, ∀ y ∈ V.take j, key y < key x := by
  rcases hj5 with h | h
  ·intro x hx y hy
   have e1 := List.length_pos_of_mem hx
   have e2 := List.length_pos_of_mem hy
   simp only [List.length_drop, List.length_take] at e1 e2
   exfalso
   by_cases hh : mid < m
   ·have := hc1 hh; omega
   ·have := hc2 hh; omega
  ·by_cases hj0 : 0 < j
   ·refine sym_geS hsU hsV ?_ hj0
    rw [show st - a = (i : Int) by omega, show mid - 1 - st = (j : Int) - 1 by omega] at h
    exact h
   ·intro x hx y hy
    have e2 := List.length_pos_of_mem hy
    simp only [List.length_take] at e2
    omega
 have H2 : ∀ x ∈ U.take i, ∀ y ∈ V.drop j, key x ≤ key y := by
  rcases hj4 with h | h
  ·intro x hx y hy
   have e1 := List.length_pos_of_mem hx
   have e2 := List.length_pos_of_mem hy
   simp only [List.length_drop, List.length_take] at e1 e2
   exfalso
   by_cases hh : mid < m
   ·have := hc1 hh; omega
   ·have := hc2 hh; omega
  ·by_cases hi0 : 0 < i
   ·refine sym_leS hsU hsV ?_ hi0
    rw [show st - 1 - a = (i : Int) - 1 by omega, show mid - st = (j : Int) by omega] at h
    exact h
   ·intro x hx y hy
    have e2 := List.length_pos_of_mem hx
    simp only [List.length_take] at e2
    omega
 have hil : i ≤ U.length := oM
 have hjl : j ≤ V.length := oM
 have hUe : U = U.take i ++ U.drop i := (List.take_append_drop i U).symm
 have hVe : V = V.take j ++ V.drop j := (List.take_append_drop j V).symm
 have l1 : (U.take i).length = i := lN
 have l2 : (U.drop i).length = U.length - i := lN
 have l3 : (V.take j).length = j := lN
 have l4 : (V.drop j).length = V.length - j := lN
 have hsU' := hsU
 have hsV' := hsV
 rw [hUe] at hsU'
 rw [hVe] at hsV'
 obtain ⟨su1, su2, su3⟩ := Srt.append_iff.1 hsU'
 obtain ⟨sv1, sv2, sv3⟩ := Srt.append_iff.1 hsV'
 have hrow : p ++ U ++ V ++ q = p ++ U.take i ++ U.drop i ++ V.take j ++ V.drop j ++ q := by
  conv => lhs; rw [hUe, hVe]
  simp
 have hst : Stab key (U ++ V) ((U.take i ++ V.take j) ++ (U.drop i ++ V.drop j)) := by
  have e : U ++ V = (U.take i ++ (U.drop i ++ V.take j)) ++ V.drop j := by
   rw [← List.append_assoc (U.take i), List.take_append_drop, List.append_assoc, List.take_append_drop]
  rw [e]
  have h := Stab.append (Stab.append (Stab.refl (key := key) (U.take i)) (Stab.swap (key := key) (a := U.drop i) (b := V.take j) (fun x hx y hy => by have := H1 x hx y hy; omega))) (Stab.refl (key := key) (V.drop j))
  simpa using h
 clear hsU' hsV'
 generalize U.take i = U1 at *
 generalize U.drop i = U2 at *
 generalize V.take j = V1 at *
 generalize V.drop j = V2 at *
 rw [hrow]
 refine SC.seq (SC.region (SL.M rfl (SL.M rfl (SL.U (SU.sub rfl rfl oM) (SL.A rfl (SL.nil (ST.thenN ?_)))))))
 refine SC.cut (ι := Unit) (fun _ => [(0, v), (1, vi a), (2, vi m), (3, vi b), (4, cv), (18, vi mid), (20, vi st), (24, vi (mid + m - st))]) (fun _ => g) (fun _ => rowA encSide 55 v (p ++ U1 ++ V1 ++ (U2 ++ V2 ++ q)) :: s) (fun _ => True) ?_ ?_
 ·refine SC.cutB 185 (decide (st < m ∧ m < mid + m - st)) ?_ ?_
  ·refine SC.region (SL.M rfl (SL.M rfl (SL.U (SU.lss rfl rfl) (SL.M rfl ?_))))
   refine SL.split ?_ ?_
   ·intro h181
    refine SL.Y rfl rfl rfl (SU.move rfl) (SL.Y rfl rfl rfl (SU.move rfl) (SL.Y rfl rfl rfl (SU.lss rfl rfl) (SL.U (SU.pickT rfl rfl) (SL.nil ?_))))
    exact ST.mid1 (by simp [get?, h181]) mI
   ·intro h181
    refine SL.Z rfl rfl rfl (SL.Z rfl rfl rfl (SL.Z rfl rfl rfl (SL.U (SU.pickF rfl rfl) (SL.nil ?_))))
    exact ST.mid1 (by simp [get?, h181]) mI
  refine SC.ifP rfl (fun h3 => ?_) (fun h3 => ?_)
  ·have e1 : p ++ U1 ++ U2 ++ V1 ++ V2 ++ q = p ++ U1 ++ U2 ++ V1 ++ (V2 ++ q) := by simp
   rw [e1]
   refine SC.region (SL.M rfl (SL.M rfl (SL.M rfl (SL.M rfl (SL.M rfl (SL.W (SO.call call152 rfl (rotateS E g s v cv (p ++ U1) U2 V1 (V2 ++ q) oM oM lN _ _ _ lN lN lN)) ?_))))))
   rintro _ _ _ ⟨rfl, rfl⟩
   refine SL.nil ?_
   exact ST.mid () ⟨rfl, rfl, rfl, rfl, rfl, rfl, rfl, rfl, trivial⟩ rfl (by simp) trivial
  ·refine SC.skip ?_
   exact ST.mid () ⟨rfl, rfl, rfl, rfl, rfl, rfl, rfl, rfl, trivial⟩ rfl (by
    have : U2 = [] ∨ V1 = [] := by
     by_cases h : st < m
     ·right; exact List.eq_nil_of_length_eq_zero oM
     ·left; exact List.eq_nil_of_length_eq_zero oM
    rcases this with h | h <;> simp [h]) trivial
 rintro ⟨⟩ -
 try dsimp only
 refine SC.cut (ι := List Side) (fun _ => [(0, v), (1, vi a), (2, vi m), (3, vi b), (4, cv), (18, vi mid), (20, vi st), (24, vi (mid + m - st))]) (fun _ => g) (fun W1 => rowA encSide 55 v (p ++ W1 ++ U2 ++ V2 ++ q) :: s) (fun W1 => Stab key (U1 ++ V1) W1 ∧ Srt key W1) ?_ ?_
 ·refine SC.cutB 199 (decide (a < st ∧ st < mid)) ?_ ?_
  ·refine SC.region (SL.M rfl (SL.M rfl (SL.U (SU.lss rfl rfl) (SL.M rfl ?_))))
   refine SL.split ?_ ?_
   ·intro h195
    refine SL.Y rfl rfl rfl (SU.move rfl) (SL.Y rfl rfl rfl (SU.move rfl) (SL.Y rfl rfl rfl (SU.lss rfl rfl) (SL.U (SU.pickT rfl rfl) (SL.nil ?_))))
    exact ST.mid1 (by simp [get?, h195]) mI
   ·intro h195
    refine SL.Z rfl rfl rfl (SL.Z rfl rfl rfl (SL.Z rfl rfl rfl (SL.U (SU.pickF rfl rfl) (SL.nil ?_))))
    exact ST.mid1 (by simp [get?, h195]) mI
  refine SC.ifP rfl (fun h3 => ?_) (fun h3 => ?_)
  ·refine SC.region (SL.M rfl (SL.M rfl (SL.M rfl (SL.M rfl (SL.M rfl (SL.W (SO.call call148 rfl (ih (U1.length + V1.length) oM s p U1 V1 (U2 ++ V2 ++ q) rfl su1 sv1 oM oM lN _ _ _ lN lN lN)) ?_))))))
   rintro _ _ _ ⟨rfl, W1, hW1, hW2, rfl⟩
   refine SL.nil ?_
   exact ST.mid W1 ⟨rfl, rfl, rfl, rfl, rfl, rfl, rfl, rfl, trivial⟩ rfl (by simp) ⟨hW1, hW2⟩
  ·refine SC.skip ?_
   have he : U1 = [] ∨ V1 = [] := by
    by_cases h : a < st
    ·right; exact List.eq_nil_of_length_eq_zero oM
    ·left; exact List.eq_nil_of_length_eq_zero oM
   exact ST.mid (U1 ++ V1) ⟨rfl, rfl, rfl, rfl, rfl, rfl, rfl, rfl, trivial⟩ rfl (by simp) ⟨Stab.refl _, by rcases he with h | h <;> simpa [h]⟩
 rintro W1 ⟨hW1, hW2⟩
 try dsimp only
 have hW1l : W1.length = U1.length + V1.length := by have := hW1.1; simpa using this
 have hfin : ∀ W2, Stab key (U2 ++ V2) W2 → Srt key W2 → Stab key (U ++ V) (W1 ++ W2) ∧ Srt key (W1 ++ W2) := fun W2 h5 h6 => by
  refine ⟨hst.trans (hW1.append h5), Srt.append_iff.2 ⟨hW2, h6, fun x hx y hy => ?_⟩⟩
  have e1 := hW1.mem hx
  have e2 := h5.mem hy
  rcases List.mem_append.1 e1 with e1 | e1 <;> rcases List.mem_append.1 e2 with e2 | e2
  ·exact su3 x e1 y e2
  ·exact H2 x e1 y e2
  ·exact Int.le_of_lt (H1 y e2 x e1)
  ·exact sv3 x e1 y e2
 refine SC.cutB 213 (decide (mid < mid + m - st ∧ mid + m - st < b)) ?_ ?_
 ·refine SC.region (SL.M rfl (SL.M rfl (SL.U (SU.lss rfl rfl) (SL.M rfl ?_))))
  refine SL.split ?_ ?_
  ·intro h209
   refine SL.Y rfl rfl rfl (SU.move rfl) (SL.Y rfl rfl rfl (SU.move rfl) (SL.Y rfl rfl rfl (SU.lss rfl rfl) (SL.U (SU.pickT rfl rfl) (SL.nil ?_))))
   exact ST.mid1 (by simp [get?, h209]) mI
  ·intro h209
   refine SL.Z rfl rfl rfl (SL.Z rfl rfl rfl (SL.Z rfl rfl rfl (SL.U (SU.pickF rfl rfl) (SL.nil ?_))))
   exact ST.mid1 (by simp [get?, h209]) mI
 refine SC.ifP rfl (fun h3 => ?_) (fun h3 => ?_)
 ·refine SC.region (SL.M rfl (SL.M rfl (SL.M rfl (SL.M rfl (SL.M rfl (SL.W (SO.call call148 rfl (ih (U2.length + V2.length) oM s (p ++ W1) U2 V2 q rfl su2 sv2 oM oM lN _ _ _ lN lN lN)) ?_))))))
  rintro _ _ _ ⟨rfl, W2, hW3, hW4, rfl⟩
  refine SL.nil ?_
  obtain ⟨h5, h6⟩ := hfin W2 hW3 hW4
  exact ST.ret0 (.inr rfl) results148 ⟨rfl, W1 ++ W2, h5, h6, by simp⟩
 ·refine SC.skip ?_
  have he : U2 = [] ∨ V2 = [] := by
   by_cases h : mid < mid + m - st
   ·right; exact List.eq_nil_of_length_eq_zero oM
   ·left; exact List.eq_nil_of_length_eq_zero oM
  obtain ⟨h5, h6⟩ := hfin (U2 ++ V2) (Stab.refl _) (by rcases he with h | h <;> simpa [h])
  exact ST.ret0 (.inr rfl) results148 ⟨rfl, W1 ++ (U2 ++ V2), h5, h6, by simp⟩
end Go.Proofs.YtkdibcicncjpdaaGreat
