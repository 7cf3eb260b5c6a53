/- Set1 Set2 Set3 -/
import Derived.Test.YtkdibcicncjpdaaGreatOw10
set_option linter.unusedSimpArgs false
set_option linter.unusedVariables false
namespace Go.Proofs.YtkdibcicncjpdaaGreat
open _root_.Go.Proofs.Tryz _root_.Go.Proofs.YtkdibcicncjpdaaGreat.Tryz
open Go Go.Sy Go.Pl Go.Proofs
set_option maxRecDepth 100000
theorem compareC_len {a b : List Int} (h : a.length ≠ b.length) : decide (compareC a b < 0) = decide ((a.length : Int) < b.length) := by
 unfold compareC
 rcases cmpI_cases a.length b.length with ⟨h1, e⟩ | ⟨h1, e⟩ | ⟨h1, e⟩
 ·rw [e]; simp; omega
 ·omega
 ·rw [e]; simp; omega
theorem compareC_same {a b : List Int} (h : a.length = b.length) : compareC a b = cmpL a b := by
 unfold compareC
 rcases cmpI_cases a.length b.length with ⟨h1, e⟩ | ⟨h1, e⟩ | ⟨h1, e⟩
 ·omega
 ·rw [e]; simp
 ·omega
theorem cmpL_cons_ne {x y : Int} {a b : List Int} (h : x ≠ y) : decide (cmpL (x :: a) (y :: b) < 0) = decide (x < y) := by
 rw [decide_eq_decide]
 simp only [cmpL]
 rcases cmpI_cases x y with ⟨h1, e⟩ | ⟨h1, e⟩ | ⟨h1, e⟩
 ·rw [e]; simp; omega
 ·omega
 ·rw [e]; simp; omega
theorem cmpL_cons_eq {x y : Int} {a b : List Int} (h : x = y) : cmpL (x :: a) (y :: b) = cmpL a b := by
 simp only [cmpL]
 rcases cmpI_cases x y with ⟨h1, e⟩ | ⟨h1, e⟩ | ⟨h1, e⟩
 ·omega
 ·rw [e]; simp
 ·omega
theorem before_spec (E : World) (g : PH) (s : Own) (v u : Value) (a b : List Int) (hv : Ints g v a) (hu : Ints g u b) (hl : a.length < 1099511627776) :
  Ctr Tryz.prog E 93 #[v, u] g s (fun r g' s' => r = vb (decide (compareC a b < 0)) ∧ g = g' ∧ s = s') := by
 obtain ⟨p, c, rfl⟩ := SlA.form hv
 obtain ⟨q, d, rfl⟩ := SlA.form hu
 refine Ctr.of (args := [.slice p a.length c, .slice q b.length d]) func93 rfl ntmps93 (Nat.le_of_ble_eq_true rfl) ?_
 refine SC.seq (SC.region (SL.A rfl (SL.nil (ST.thenN (SC.seq (SC.seq (SC.region (SL.M rfl (SL.U (SU.lenN underlying45 rfl) (SL.M rfl (SL.U (SU.lenN underlying45 rfl) (SL.U (SU.neq rfl rfl) (SL.nil (ST.thenN ?_))))))))))))))
 refine SC.ifP rfl (fun hne => ?_) (fun hne => ?_)
 ·refine SC.seq (SC.region (SL.M rfl (SL.U (SU.lenN underlying45 rfl) (SL.M rfl (SL.U (SU.lenN underlying45 rfl) (SL.U (SU.lss rfl rfl) (SL.A rfl (SL.nil (ST.thenN (SC.ret (ST.thenR ?_)))))))))))
  exact ST.ret1 (.inl rfl) results93 rfl ⟨by rw [compareC_len oM], rfl, rfl⟩
 ·have hlen : a.length = b.length := oM
  have hcc := compareC_same hlen
  refine SC.skip (ST.thenN (SC.seq (SC.seq (SC.region (SL.A rfl (SL.nil (ST.thenN (SC.block ?_))))))))
  refine SC.loop (ι := Nat) (fun k => [(0, .slice p a.length c), (1, .slice q b.length d), (5, vi k)]) (fun _ => g) (fun _ => s) (fun k => k ≤ a.length ∧ cmpL a b = cmpL (a.drop k) (b.drop k)) (fun k => a.length - k) 0
   ⟨rfl, rfl, rfl, trivial⟩ rfl rfl ⟨Nat.zero_le _, by simp⟩ ?_
  rintro k ⟨hk, heq⟩
  refine SC.seq (SC.seq (SC.region (SL.M rfl (SL.M rfl (SL.U (SU.lenN underlying45 rfl) (SL.U (SU.lss rfl rfl) (SL.nil (ST.thenN ?_))))))))
  refine SC.ifP rfl (fun hlt => ?_) (fun hlt => ?_)
  ·have hka : k < a.length := oM
   have hkb : k < b.length := oM
   have hb1 := SlA.based hv oM
   have hb2 := SlA.based hu oM
   rw [List.drop_eq_getElem_cons hka, List.drop_eq_getElem_cons hkb] at heq
   refine SC.skip (ST.thenN (SC.seq (SC.block (SC.seq ?_))))
   refine SC.draw [] [(0, 2), (1, 2), (2, 2), (3, 1), (4, 2), (5, 2), (6, 2), (7, 1), (8, 2)] Tryz.mixed (by kernel_rfl) ?_
   refine SP.U (i := 0) rfl (SU.move rfl) (SP.U (i := 1) rfl (SU.move rfl) (SP.U (i := 2) rfl (SU.indexAddr underlying45 sizeOf3 rfl rfl (by assumption) oM (by (simp [slen]; omega))) ?_))
   refine SP.q (i := 3) rfl (SQ.elem1 isAgg3 rfl (SlA.rd hv) (List.getElem?_eq_getElem hka) rfl) dC ?_
   refine SP.U (i := 4) rfl (SU.move rfl) (SP.U (i := 5) rfl (SU.move rfl) (SP.U (i := 6) rfl (SU.indexAddr underlying45 sizeOf3 rfl rfl (by assumption) oM (by (simp [slen]; omega))) ?_))
   refine SP.q (i := 7) rfl (SQ.elem1 isAgg3 rfl (SlA.rd hu) (List.getElem?_eq_getElem hkb) rfl) dC ?_
   refine SP.U (i := 8) rfl (SU.neq rfl rfl) (SP.nil (ST.thenN ?_))
   refine SC.ifP rfl (fun hd => ?_) (fun hd => ?_)
   ·refine SC.seq ?_
    refine SC.draw [] [(0, 2), (1, 2), (2, 2), (3, 1), (4, 2), (5, 2), (6, 2), (7, 1), (8, 2), (9, 2)] Tryz.mixed (by kernel_rfl) ?_
    refine SP.U (i := 0) rfl (SU.move rfl) (SP.U (i := 1) rfl (SU.move rfl) (SP.U (i := 2) rfl (SU.indexAddr underlying45 sizeOf3 rfl rfl (by assumption) oM (by (simp [slen]; omega))) ?_))
    refine SP.q (i := 3) rfl (SQ.elem1 isAgg3 rfl (SlA.rd hv) (List.getElem?_eq_getElem hka) rfl) dC ?_
    refine SP.U (i := 4) rfl (SU.move rfl) (SP.U (i := 5) rfl (SU.move rfl) (SP.U (i := 6) rfl (SU.indexAddr underlying45 sizeOf3 rfl rfl (by assumption) oM (by (simp [slen]; omega))) ?_))
    refine SP.q (i := 7) rfl (SQ.elem1 isAgg3 rfl (SlA.rd hu) (List.getElem?_eq_getElem hkb) rfl) dC ?_
    refine SP.U (i := 8) rfl (SU.lss rfl rfl) (SP.U (i := 9) rfl (SU.assign rfl) (SP.nil (ST.thenN (SC.ret (ST.blockR (ST.thenR (ST.thenR (ST.blockR (ST.thenR ?_)))))))))
    exact ST.ret1 (.inl rfl) results93 rfl ⟨by rw [hcc, heq, cmpL_cons_ne hd], rfl, rfl⟩
   ·refine SC.skip (ST.blockN (ST.thenN (SC.region (SL.M rfl (SL.U (SU.add rfl rfl oM) (SL.A rfl (SL.nil ?_)))))))
    exact ST.again (k + 1) ⟨rfl, rfl, rfl, trivial⟩ rfl rfl ⟨oM, by rw [heq, cmpL_cons_eq (Decidable.of_not_not hd)]⟩ oM
  ·rw [List.drop_eq_nil_of_le oM, List.drop_eq_nil_of_le oM] at heq
   refine SC.exit (ST.thenX (ST.thenX (ST.blockX (ST.thenN (SC.seq (SC.region (SL.A rfl (SL.nil (ST.thenN (SC.ret ?_))))))))))
   exact ST.ret1 (.inl rfl) results93 rfl ⟨by rw [hcc, heq]; rfl, rfl, rfl⟩
theorem place_spec (E : World) (g : PH) (s : Own) (v u : Value) (ls : List (List Int)) (t : List Int) (hv : Lists g v ls) (hu : Ints g u t) (hl : ls.length < 1099511627776) (hll : ∀ x ∈ ls, x.length < 1099511627776) (htl : t.length < 1099511627776) (hs : SrtL ls) :
  Ctr Tryz.prog E 55 #[v, u] g s (fun r g' s' => r = .tuple #[vi (lbL ls t), vb (ls.contains t)] ∧ g = g' ∧ s = s') := by
 obtain ⟨rs, hrs, hall⟩ := hv
 have hlen := hall.length
 have hmono := srt_mono hs t
 obtain ⟨p, c, rfl⟩ := SlA.form hrs
 refine Ctr.of (args := [.slice p rs.length c, u]) func55 rfl ntmps55 (Nat.le_of_ble_eq_true rfl) ?_
 refine SC.seq (SC.region (SL.A rfl (SL.A rfl (SL.nil (ST.thenN (SC.seq (SC.region (SL.A rfl (SL.nil (ST.thenN (SC.seq (SC.region (SL.M rfl (SL.U (SU.lenN underlying22 rfl) (SL.A rfl (SL.nil (ST.thenN (SC.seq (SC.block ?_)))))))))))))))))))
 refine SC.loop (ι := Nat × Nat) (fun q => [(0, .slice p rs.length c), (1, u), (6, vi q.1), (7, vi q.2)]) (fun _ => g) (fun _ => s)
  (fun q => q.1 ≤ q.2 ∧ q.2 ≤ ls.length ∧ (∀ k (h : k < ls.length), k < q.1 → compareC ls[k] t < 0) ∧ ∀ k (h : k < ls.length), q.2 ≤ k → ¬ compareC ls[k] t < 0) (fun q => q.2 - q.1) (0, ls.length)
  ⟨rfl, rfl, rfl, vi_eq oM, trivial⟩ rfl rfl ⟨Nat.zero_le _, Nat.le_refl _, fun k _ h => absurd h oM, fun k h1 h2 => absurd h1 (by dsimp only at h2; omega)⟩ ?_
 rintro ⟨i, j⟩ ⟨hij, hj, hlo, hhi⟩
 dsimp only at hij hj hlo hhi ⊢
 refine SC.seq (SC.seq (SC.region (SL.M rfl (SL.M rfl (SL.U (SU.lss rfl rfl) (SL.nil (ST.thenN ?_)))))))
 refine SC.ifP rfl (fun hlt => ?_) (fun hlt => ?_)
 ·have hb1 := hrs.based oM
  have hml : (i + j) / 2 < ls.length := oM
  have hmr : (i + j) / 2 < rs.length := oM
  have hmx : rs[((((i + j) / 2 : Nat) : Int)).toNat]? = some rs[(i + j) / 2] := List.getElem?_eq_getElem hmr
  have hR := hall.get (List.getElem?_eq_getElem hml) (List.getElem?_eq_getElem hmr)
  have hxl := hll _ (List.getElem_mem hml)
  refine SC.skip (ST.thenN (SC.block (SC.seq (SC.region (SL.M rfl (SL.M rfl (SL.U (SU.add rfl rfl oM) (SL.U (SU.eq (v' := vi (((i + j) / 2 : Nat) : Int)) (SU.quo rfl rfl dC) (congrArg vi (by rw [← Int.natCast_add]; exact half_tdiv _ oM))) ?_))))))))
  refine SL.A rfl (SL.nil (ST.thenN (SC.seq (SC.region (SL.M rfl (SL.M rfl (SL.U (SU.indexAddr underlying22 sizeOf45 rfl rfl hb1 oM sL) (SL.K (SQ.elem1 isAgg45 rfl hrs.rd hmx rfl) (SL.M rfl (SL.W (SO.call call93 rfl (before_spec E g _ _ _ ls[(i + j) / 2] t hR hu hxl)) ?_))))))))))
  rintro _ _ _ ⟨rfl, rfl, rfl⟩
  refine SL.nil (ST.thenN ?_)
  refine SC.ifP rfl (fun hc => ?_) (fun hc => ?_)
  ·refine SC.region (SL.M rfl (SL.U (SU.add rfl rfl oM) (SL.A rfl (SL.nil (ST.blockN ?_)))))
   refine ST.again ((i + j) / 2 + 1, j) ⟨rfl, rfl, rfl, rfl, trivial⟩ rfl rfl ⟨lN, hj, fun k hk h => ?_, hhi⟩ lN
   dsimp only at h
   rcases Nat.eq_or_lt_of_le (show k ≤ (i + j) / 2 by omega) with rfl | h'
   ·exact hc
   ·exact hmono k ((i + j) / 2) hk hml h' hc
  ·refine SC.region (SL.M rfl (SL.A rfl (SL.nil (ST.blockN ?_))))
   refine ST.again (i, (i + j) / 2) ⟨rfl, rfl, rfl, rfl, trivial⟩ rfl rfl ⟨lN, lN, hlo, fun k hk h => ?_⟩ lN
   dsimp only at h
   rcases Nat.eq_or_lt_of_le (show (i + j) / 2 ≤ k by omega) with h' | h'
   ·subst h'; exact hc
   ·exact fun hx => hc (hmono ((i + j) / 2) k hml hk h' hx)
 ·have hie : i = j := oM
  subst hie
  have hlb : lbL ls t = i := lb_gen hj (fun k h h' => by simpa using hlo k h h') (fun k h h' => by simpa using hhi k h h')
  by_cases hin : (i : Int) < (rs.length : Int)
  ·have hil : i < ls.length := oM
   have hir : i < rs.length := oM
   have hb1 := hrs.based oM
   have hmx : rs[((i : Nat) : Int).toNat]? = some rs[i] := List.getElem?_eq_getElem hir
   have hR := hall.get (List.getElem?_eq_getElem hil) (List.getElem?_eq_getElem hir)
   have hfound : (!decide (compareC t ls[i] < 0)) = ls.contains t := by
    have h1 := hhi i hil (Nat.le_refl _)
    by_cases h2 : compareC t ls[i] < 0
    ·rw [decide_eq_true h2]
     symm
     rw [Bool.not_true, ← Bool.not_eq_true]
     intro hm
     have hm' : t ∈ ls := by simpa using hm
     obtain ⟨k, hk, rfl⟩ := List.getElem_of_mem hm'
     rcases Nat.lt_trichotomy k i with h3 | h3 | h3
     ·have := hlo k hk h3; rw [compareC_self] at this; omega
     ·subst h3; rw [compareC_self] at h2; omega
     ·exact List.pairwise_iff_getElem.1 hs i k hil hk h3 h2
    ·rw [decide_eq_false h2]
     have h3 : t = ls[i] := by
      rcases compareC_cases t ls[i] with h | h | h
      ·exact absurd h h2
      ·exact h
      ·exact absurd h h1
     symm
     rw [Bool.not_false]
     have : t ∈ ls := by rw [h3]; exact List.getElem_mem hil
     simpa using this
   refine SC.exit (ST.thenX (ST.thenX (ST.blockX (ST.thenN (SC.seq (SC.region (SL.M rfl (SL.M rfl (SL.M rfl (SL.U (SU.lenN underlying22 rfl) (SL.U (SU.eq (v' := vb true) (SU.lss rfl rfl) (congrArg vb (decide_eq_true hin))) (SL.M rfl (SL.Y rfl rfl rfl (SU.move rfl) (SL.Y rfl rfl rfl (SU.move rfl) (SL.Y rfl rfl rfl (SU.move rfl) (SL.Y rfl rfl rfl (SU.indexAddr underlying22 sizeOf45 rfl rfl hb1 oM sL) (SL.gq (Gd.onT rfl rfl rfl dC) (SQ.elem1 isAgg45 rfl hrs.rd hmx rfl) dC (SL.go (Gd.onT rfl rfl rfl dC) (SO.call call93 rfl (before_spec E g _ _ _ t ls[i] hu hR htl)) dC ?_))))))))))))))))))
   rintro _ _ _ ⟨rfl, rfl, rfl⟩
   refine SL.Y rfl rfl rfl (SU.not rfl) (SL.U (SU.pickT rfl rfl) (SL.A rfl (SL.A rfl (SL.nil (ST.thenN (SC.ret ?_))))))
   exact ST.ret2 (.inl rfl) results55 rfl rfl ⟨by rw [hlb, ← hfound], rfl, rfl⟩
  ·have hnf : ls.contains t = false := by
    rw [← Bool.not_eq_true]
    intro hm
    have hm' : t ∈ ls := by simpa using hm
    obtain ⟨k, hk, rfl⟩ := List.getElem_of_mem hm'
    have := hlo k hk oM
    rw [compareC_self] at this
    omega
   refine SC.exit (ST.thenX (ST.thenX (ST.blockX (ST.thenN (SC.seq (SC.region (SL.M rfl (SL.M rfl (SL.M rfl (SL.U (SU.lenN underlying22 rfl) (SL.U (SU.eq (v' := vb false) (SU.lss rfl rfl) (congrArg vb (decide_eq_false hin))) (SL.M rfl (SL.Z rfl rfl rfl (SL.Z rfl rfl rfl (SL.Z rfl rfl rfl (SL.Z rfl rfl rfl (SL.Z rfl rfl rfl (SL.Z rfl rfl rfl (SL.Z rfl rfl rfl (SL.U (SU.pickF rfl rfl) (SL.A rfl (SL.A rfl (SL.nil (ST.thenN (SC.ret ?_)))))))))))))))))))))))))
   exact ST.ret2 (.inl rfl) results55 rfl rfl ⟨by rw [hlb, hnf], rfl, rfl⟩
abbrev StrictI (l : List Int) : Prop := l.Pairwise (· < ·)
theorem strict_unique : ∀ {l m : List Int}, StrictI l → StrictI m → (∀ x, x ∈ l ↔ x ∈ m) → l = m
 | [], [], _, _, _ => rfl
 | [], y :: m, _, _, h => by have := (h y).2 (by simp); simp at this
 | x :: l, [], _, _, h => by have := (h x).1 (by simp); simp at this
 | x :: l, y :: m, hl, hm, h => by
  obtain ⟨h1, h2⟩ := List.pairwise_cons.1 hl
  obtain ⟨h3, h4⟩ := List.pairwise_cons.1 hm
  have hxy : x = y := by
   rcases List.mem_cons.1 ((h x).1 (by simp)) with e | hx
   ·exact e
   ·rcases List.mem_cons.1 ((h y).2 (by simp)) with e | hy
    ·exact e.symm
    ·have := h3 x hx; have := h1 y hy; omega
  subst hxy
  rw [strict_unique h2 h4 fun z => ?_]
  constructor
  ·intro hz
   rcases List.mem_cons.1 ((h z).1 (by simp [hz])) with e | hz'
   ·have := h1 z hz; omega
   ·exact hz'
  ·intro hz
   rcases List.mem_cons.1 ((h z).2 (by simp [hz])) with e | hz'
   ·have := h3 z hz; omega
   ·exact hz'
theorem uniqGo_strict : ∀ {x : Int} {l : List Int}, (x :: l).Pairwise (· ≤ ·) → StrictI (uniqGo (fun a b : Int => decide (a = b)) x l) ∧ (∀ y ∈ uniqGo (fun a b : Int => decide (a = b)) x l, x < y) ∧ ∀ y, y ∈ l → y = x ∨ y ∈ uniqGo (fun a b : Int => decide (a = b)) x l
 | x, [], _ => ⟨List.Pairwise.nil, by simp [uniqGo], by simp⟩
 | x, y :: r, h => by
  obtain ⟨h1, h2⟩ := List.pairwise_cons.1 h
  obtain ⟨i1, i2, i3⟩ := uniqGo_strict h2
  have hxy := h1 y (by simp)
  unfold uniqGo
  by_cases e : y = x
  ·subst e
   simp only [decide_true, if_true]
   refine ⟨i1, i2, fun z hz => ?_⟩
   rcases List.mem_cons.1 hz with rfl | hz
   ·exact .inl rfl
   ·exact i3 z hz
  ·simp only [e, decide_false]
   refine ⟨List.pairwise_cons.2 ⟨i2, i1⟩, fun z hz => ?_, fun z hz => ?_⟩
   ·rcases List.mem_cons.1 hz with rfl | hz
    ·omega
    ·have := i2 z hz; omega
   ·rcases List.mem_cons.1 hz with rfl | hz
    ·exact .inr (by simp)
    ·rcases i3 z hz with rfl | h
     ·exact .inr (by simp)
     ·exact .inr (by simp [h])
theorem sortI_sorted (l : List Int) : (sortI l).Pairwise (· ≤ ·) := by
 have := List.pairwise_mergeSort (le := fun x y : Int => decide (x ≤ y)) (fun a b c h1 h2 => by simp at *; omega) (fun a b => by simp; omega) l
 exact this.imp fun h => by simpa using h
theorem setC_strict (l : List Int) : StrictI (setC l) := by
 have hs := sortI_sorted l
 unfold setC
 cases h : sortI l with
 | nil => exact List.Pairwise.nil
 | cons x r =>
  rw [h] at hs
  obtain ⟨h1, h2, _⟩ := uniqGo_strict hs
  exact List.pairwise_cons.2 ⟨h2, h1⟩
theorem setC_mem (l : List Int) (y : Int) : y ∈ setC l ↔ y ∈ l := by
 have hs := sortI_sorted l
 have hp := sortI_perm l
 rw [← hp.mem_iff]
 unfold setC
 refine ⟨fun h => (uniq_sub _ _).subset h, fun h => ?_⟩
 cases hc : sortI l with
 | nil => rw [hc] at h; simp at h
 | cons x r =>
  rw [hc] at hs h
  rcases List.mem_cons.1 h with rfl | h
  ·simp [uniq]
  ·rcases (uniqGo_strict hs).2.2 y h with rfl | h
   ·simp [uniq]
   ·simp [uniq, h]
theorem setC_of {l out : List Int} (hs : StrictI out) (hm : ∀ x, x ∈ out ↔ x ∈ l) : out = setC l := strict_unique hs (setC_strict l) fun x => by rw [hm, setC_mem]
theorem strict_le {a b : List Int} (ha : StrictI a) (h : ∀ x ∈ a, x ∈ b) : a.length ≤ b.length := nodup_le (ha.imp fun h => by omega) h
def okS (l : List Int) : Bool := !(l.any fun x => decide (x < 0)) && decide ((setC l).length ≤ 9)
theorem okS_bad {l : List Int} (h : okS l = false) : badSet (setC l) = true := by
 unfold okS at h
 rw [Bool.and_eq_false_iff] at h
 cases hc : setC l with
 | nil => rfl
 | cons a r =>
  unfold badSet
  rcases h with h | h
  ·simp only [Bool.not_eq_false', List.any_eq_true, decide_eq_true_eq] at h
   obtain ⟨x, hx, hx0⟩ := h
   have h1 := (setC_mem l x).2 hx
   rw [hc] at h1
   have hs := setC_strict l
   rw [hc] at hs
   have : a ≤ x := by
    rcases List.mem_cons.1 h1 with rfl | h2
    ·omega
    ·have := (List.pairwise_cons.1 hs).1 x h2; omega
   simp
   omega
  ·rw [hc] at h
   simp at h ⊢
   omega
theorem okS_good {l : List Int} (h : okS l = true) : (setC l).length ≤ 9 ∧ (badSet (setC l) = true → setC l = []) := by
 unfold okS at h
 simp only [Bool.and_eq_true, Bool.not_eq_true', decide_eq_true_eq] at h
 refine ⟨h.2, fun hb => ?_⟩
 cases hc : setC l with
 | nil => rfl
 | cons a r =>
  rw [hc] at hb
  unfold badSet at hb
  rw [hc] at h
  simp at hb
  have ha : a ∈ l := (setC_mem l a).1 (by rw [hc]; simp)
  have h3 := List.any_eq_false.1 h.1 a ha
  simp at h3
  have h4 := h.2
  simp at h4
  omega
theorem ins_strict {out : List Int} {x : Int} {k : Nat} (hs : StrictI out) (h1 : ∀ y ∈ out.take k, y < x) (h2 : ∀ y ∈ out.drop k, x < y) : StrictI (out.take k ++ x :: out.drop k) := by
 have hs' : StrictI (out.take k ++ out.drop k) := by rw [List.take_append_drop]; exact hs
 have h3 := List.pairwise_append.1 hs'
 refine List.pairwise_append.2 ⟨h3.1, List.pairwise_cons.2 ⟨h2, h3.2.1⟩, fun y hy z hz => ?_⟩
 rcases List.mem_cons.1 hz with rfl | hz
 ·exact h1 y hy
 ·exact h3.2.2 y hy z hz
theorem mem_ins {α : Type} {out : List α} {x y : α} {k : Nat} : y ∈ out.take k ++ x :: out.drop k ↔ y = x ∨ y ∈ out := by
 rw [List.mem_append, List.mem_cons]
 constructor
 ·rintro (h | h | h)
  ·exact .inr (List.mem_of_mem_take h)
  ·exact .inl h
  ·exact .inr (List.mem_of_mem_drop h)
 ·rintro (h | h)
  ·exact .inr (.inl h)
  ·rw [← List.take_append_drop k out] at h
   rcases List.mem_append.1 h with h | h
   ·exact .inl h
   ·exact .inr (.inr h)
theorem strict_drop {out : List Int} {c : Int} {k : Nat} (hs : StrictI out) (hk : k < out.length) (h : c ≤ out[k]) : ∀ y ∈ out.drop k, c ≤ y := by
 rw [List.drop_eq_getElem_cons hk]
 intro y hy
 have h1 : StrictI (out.drop k) := List.Pairwise.sublist (List.drop_sublist k out) hs
 rw [List.drop_eq_getElem_cons hk] at h1
 rcases List.mem_cons.1 hy with rfl | hy
 ·exact h
 ·have := (List.pairwise_cons.1 h1).1 y hy
  omega
theorem set_spec (E : World) (g : PH) (s : Own) (v : Value) (l : List Int) (hv : Ints g v l) (hl : l.length < 17592186044416) :
  Ctr Tryz.prog E 54 #[v] g s (fun r g' s' => s = s' ∧ Le g g' ∧ ((okS l = true ∧ ∃ u, r = .tuple #[u, vb true] ∧ Ints g' u (setC l)) ∨ (okS l = false ∧ r = .tuple #[.slice none 0 0, vb false]))) := by
 obtain ⟨p, c, rfl⟩ := SlA.form hv
 refine Ctr.of (args := [.slice p l.length c]) func54 rfl ntmps54 (Nat.le_of_ble_eq_true rfl) ?_
 refine SC.seq (SC.region (SL.A rfl (SL.A rfl (SL.nil (ST.thenN (SC.seq (SC.region (SL.A rfl (SL.nil (ST.thenN (SC.seq (SC.seq (SC.region (SL.A rfl (SL.nil (ST.thenN (SC.block ?_)))))))))))))))))
 refine SC.loop (ι := PH × Value × List Int × Nat) (fun i => [(0, .slice p l.length c), (4, i.2.1), (5, vi i.2.2.2)]) (fun i => i.1) (fun _ => s)
  (fun i => Le g i.1 ∧ Ints i.1 i.2.1 i.2.2.1 ∧ i.2.2.2 ≤ l.length ∧ StrictI i.2.2.1 ∧ (∀ x, x ∈ i.2.2.1 ↔ x ∈ l.take i.2.2.2) ∧ ((l.take i.2.2.2).any (fun x => decide (x < 0)) = false ∧ i.2.2.1.length ≤ 9)) (fun i => l.length - i.2.2.2)
  (g, .slice none 0 0, [], 0) ⟨rfl, rfl, rfl, trivial⟩ rfl rfl ⟨Le.refl g, Sl.nil g _, Nat.zero_le _, List.Pairwise.nil, by simp, by simp, by simp⟩ ?_
 rintro ⟨g1, ov, out, i⟩ ⟨hle, hov, hi, hstr, hmem, hneg, h9⟩
 dsimp only at hle hov hi hstr hmem hneg h9 ⊢
 obtain ⟨q, d, rfl⟩ := SlA.form hov
 have hqc := (SlA.cap hov).2
 refine SC.seq (SC.seq (SC.region (SL.M rfl (SL.M rfl (SL.U (SU.lenN underlying45 rfl) (SL.U (SU.lss rfl rfl) (SL.nil (ST.thenN ?_))))))))
 refine SC.ifP rfl (fun hlt => ?_) (fun hlt => ?_)
 ·have hil : i < l.length := oM
  have hb1 := SlA.based (hv.mono hle) oM
  have hgi : l[((i : Nat) : Int).toNat]? = some l[i] := List.getElem?_eq_getElem hil
  have htk : l.take (i + 1) = l.take i ++ [l[i]] := List.take_succ_eq_append_getElem hil
  have hxm : l[i] ∈ l := List.getElem_mem hil
  generalize l[i] = x at *
  refine SC.skip (ST.thenN (SC.seq (SC.block (SC.seq (SC.region (SL.A rfl (SL.nil (ST.thenN ?_))))))))
  refine SC.cut (ι := Nat) (fun k => [(0, .slice p l.length c), (4, .slice q out.length d), (5, vi i), (6, vi k)]) (fun _ => g1) (fun _ => s) (fun k => k ≤ out.length ∧ (∀ y ∈ out.take k, y < x) ∧ ∀ y ∈ out.drop k, x ≤ y) ?_ ?_
  ·refine SC.block ?_
   refine SC.loop (ι := Nat) (fun k => [(0, .slice p l.length c), (4, .slice q out.length d), (5, vi i), (6, vi k)]) (fun _ => g1) (fun _ => s) (fun k => k ≤ out.length ∧ ∀ y ∈ out.take k, y < x) (fun k => out.length - k) 0
    ⟨rfl, rfl, rfl, rfl, trivial⟩ rfl rfl ⟨Nat.zero_le _, by simp⟩ ?_
   rintro k ⟨hk, htake⟩
   by_cases hin : (k : Int) < (out.length : Int)
   ·have hkl : k < out.length := oM
    have hb2 := SlA.based hov oM
    refine SC.seq (SC.seq ?_)
    refine SC.draw [] [(0, 2), (1, 2), (2, 2), (3, 2), (4, 2), (5, 2), (6, 2), (7, 2), (8, 1), (9, 2), (10, 2), (11, 2), (12, 1), (13, 2), (14, 2)] Tryz.mixed (by kernel_rfl) ?_
    refine SP.U (i := 0) rfl (SU.move rfl) (SP.U (i := 1) rfl (SU.move rfl) (SP.U (i := 2) rfl (SU.lenN underlying45 rfl) (SP.U (i := 3) rfl (SU.eq (v' := vb true) (SU.lss rfl rfl) (congrArg vb (decide_eq_true hin))) (SP.U (i := 4) rfl (SU.move rfl) (SP.gu (i := 5) rfl (Gd.onT rfl rfl rfl dC) (SU.move rfl) dC (SP.gu (i := 6) rfl (Gd.onT rfl rfl rfl dC) (SU.move rfl) dC (SP.gu (i := 7) rfl (Gd.onT rfl rfl rfl dC) (SU.indexAddr underlying45 sizeOf3 rfl rfl hb2 oM sL) dC ?_)))))))
    refine SP.gq (i := 8) rfl (Gd.onT rfl rfl rfl dC) (SQ.elem1 isAgg3 rfl (SlA.rd hov) (List.getElem?_eq_getElem hkl) rfl) dC ?_
    refine SP.gu (i := 9) rfl (Gd.onT rfl rfl rfl dC) (SU.move rfl) dC (SP.gu (i := 10) rfl (Gd.onT rfl rfl rfl dC) (SU.move rfl) dC (SP.gu (i := 11) rfl (Gd.onT rfl rfl rfl dC) (SU.indexAddr underlying45 sizeOf3 rfl rfl hb1 oM sL) dC (SP.gq (i := 12) rfl (Gd.onT rfl rfl rfl dC) (SQ.elem1 isAgg3 rfl (SlA.rd (hv.mono hle)) hgi rfl) dC (SP.gu (i := 13) rfl (Gd.onT rfl rfl rfl dC) (SU.lss rfl rfl) dC (SP.U (i := 14) rfl (SU.pickT rfl rfl) (SP.nil (ST.thenN ?_)))))))
    refine SC.ifP rfl (fun hc => ?_) (fun hc => ?_)
    ·refine SC.skip (ST.thenN (SC.block (SC.region (SL.M rfl (SL.U (SU.add rfl rfl oM) (SL.A rfl (SL.nil (ST.blockN ?_))))))))
     exact ST.again (k + 1) ⟨rfl, rfl, rfl, rfl, trivial⟩ rfl rfl ⟨oM, by
      rw [List.take_succ_eq_append_getElem hkl]
      intro y hy
      rcases List.mem_append.1 hy with h | h
      ·exact htake y h
      ·simp at h; subst h; exact hc⟩ oM
    ·refine SC.exit (ST.thenX (ST.thenX (ST.blockX ?_)))
     exact ST.mid k ⟨rfl, rfl, rfl, rfl, trivial⟩ rfl rfl ⟨hk, htake, strict_drop hstr hkl oM⟩
   ·refine SC.seq (SC.seq ?_)
    refine SC.draw [] [(0, 2), (1, 2), (2, 2), (3, 2), (4, 2), (5, 2), (6, 2), (7, 2), (8, 1), (9, 2), (10, 2), (11, 2), (12, 1), (13, 2), (14, 2)] Tryz.mixed (by kernel_rfl) ?_
    refine SP.U (i := 0) rfl (SU.move rfl) (SP.U (i := 1) rfl (SU.move rfl) (SP.U (i := 2) rfl (SU.lenN underlying45 rfl) (SP.U (i := 3) rfl (SU.eq (v' := vb false) (SU.lss rfl rfl) (congrArg vb (decide_eq_false hin))) (SP.U (i := 4) rfl (SU.move rfl) (SP.off (i := 5) rfl (Gd.onF rfl rfl rfl dC) dC (SP.off (i := 6) rfl (Gd.onF rfl rfl rfl dC) dC (SP.off (i := 7) rfl (Gd.onF rfl rfl rfl dC) dC (SP.off1 (i := 8) rfl (Gd.onF rfl rfl rfl dC) dC (SP.off (i := 9) rfl (Gd.onF rfl rfl rfl dC) dC (SP.off (i := 10) rfl (Gd.onF rfl rfl rfl dC) dC (SP.off (i := 11) rfl (Gd.onF rfl rfl rfl dC) dC (SP.off1 (i := 12) rfl (Gd.onF rfl rfl rfl dC) dC (SP.off (i := 13) rfl (Gd.onF rfl rfl rfl dC) dC (SP.U (i := 14) rfl (SU.pickF rfl rfl) (SP.nil (ST.thenN (SC.condF rfl (SC.exit (ST.thenX (ST.thenX (ST.blockX ?_)))))))))))))))))))))
    exact ST.mid k ⟨rfl, rfl, rfl, rfl, trivial⟩ rfl rfl ⟨hk, htake, by rw [List.drop_eq_nil_of_le oM]; simp⟩
  ·rintro k ⟨hk, hk1, hk2⟩
   have hskip : x ∈ out → ∀ y, y ∈ out ↔ y ∈ l.take (i + 1) := fun h y => by
    rw [htk, List.mem_append, ← hmem]
    constructor
    ·exact .inl
    ·rintro (h' | h')
     ·exact h'
     ·simp at h'; rw [h']; exact h
   have hxneg : x ∈ out → (l.take (i + 1)).any (fun x => decide (x < 0)) = false := fun h => by
    have h1 := List.any_eq_false.1 hneg x ((hmem x).1 h)
    rw [htk, List.any_append, hneg]
    simpa using h1
   have hins : (∀ y ∈ out.drop k, x < y) → StrictI (out.take k ++ x :: out.drop k) ∧ ∀ y, y ∈ out.take k ++ x :: out.drop k ↔ y ∈ l.take (i + 1) := fun h => ⟨ins_strict hstr hk1 h, fun y => by
    rw [mem_ins, htk, List.mem_append, ← hmem]
    simp
    exact or_comm⟩
   have hc1 := SlA.cut hov (l := k) (m := out.length) hk (Nat.le_refl _)
   have hc2 := SlA.cut hov (l := 0) (m := k) (Nat.zero_le _) hk
   rw [List.take_of_length_le (by rw [List.length_drop]; exact Nat.le_refl _)] at hc1
   rw [List.drop_zero, Nat.sub_zero] at hc2
   have hnl : (out.take k ++ x :: out.drop k).length = out.length + 1 := lN
   obtain ⟨nw, hnw⟩ : ∃ nw, nw = out.take k ++ x :: out.drop k := ⟨_, rfl⟩
   have hbad1 : x < 0 → okS l = false := fun h => by
    unfold okS
    have : l.any (fun x => decide (x < 0)) = true := List.any_eq_true.2 ⟨x, hxm, by simpa using h⟩
    rw [this]; rfl
   have hbad2 : (∀ y ∈ out.drop k, x < y) → 9 < (out.take k ++ x :: out.drop k).length → okS l = false := fun h h' => by
    obtain ⟨h1, h2⟩ := hins h
    have h3 := strict_le h1 (b := setC l) (fun y hy => by rw [setC_mem]; exact List.mem_of_mem_take ((h2 y).1 hy))
    unfold okS
    have : decide ((setC l).length ≤ 9) = false := decide_eq_false oM
    rw [this]; simp
   have hgo : ∀ g3 q3 d3, (∀ y ∈ out.drop k, x < y) → Le g g3 → Ints g3 (.slice q3 (out.take k ++ x :: out.drop k).length d3) (out.take k ++ x :: out.drop k) → ¬ x < 0 → (out.take k ++ x :: out.drop k).length ≤ 9 →
     Le g g3 ∧ Ints g3 (.slice q3 (out.take k ++ x :: out.drop k).length d3) (out.take k ++ x :: out.drop k) ∧ i + 1 ≤ l.length ∧ StrictI (out.take k ++ x :: out.drop k) ∧ (∀ y, y ∈ out.take k ++ x :: out.drop k ↔ y ∈ l.take (i + 1)) ∧ ((l.take (i + 1)).any (fun x => decide (x < 0)) = false ∧ (out.take k ++ x :: out.drop k).length ≤ 9) := fun g3 q3 d3 h1 h2 h3 h4 h5 =>
    ⟨h2, h3, oM, (hins h1).1, (hins h1).2, by rw [htk, List.any_append, hneg]; simpa using h4, h5⟩
   have hgt : out.contains x = false → ∀ y ∈ out.drop k, x < y := fun h y hy => by
    have h1 := hk2 y hy
    have h2 : y ≠ x := fun e => by
     have : out.contains x = true := by rw [← e]; simpa using List.mem_of_mem_drop hy
     rw [h] at this; cases this
    omega
   have hgetk : (k : Int) < (out.length : Int) → out[((k : Nat) : Int).toNat]? = some (out.getD k 0) := fun h => by
    have h2 : k < out.length := oM
    rw [show ((k : Nat) : Int).toNat = k by omega, List.getElem?_eq_getElem h2, List.getD_eq_getElem?_getD, List.getElem?_eq_getElem h2]; rfl
   have hA : (k : Int) < (out.length : Int) → out.contains x = decide (out.getD k 0 = x) := fun h => by
    have h2 : k < out.length := oM
    rw [List.getD_eq_getElem?_getD, List.getElem?_eq_getElem h2, Option.getD_some, Bool.eq_iff_iff, decide_eq_true_iff]
    constructor
    ·intro hm
     have hm' : x ∈ out := by simpa using hm
     rw [← List.take_append_drop k out] at hm'
     rcases List.mem_append.1 hm' with h3 | h3
     ·have := hk1 x h3; omega
     ·have h4 := hk2 _ (by rw [List.drop_eq_getElem_cons h2]; exact List.mem_cons_self : out[k] ∈ out.drop k)
      have h5 := strict_drop hstr h2 (Int.le_refl out[k]) x h3
      omega
    ·intro e
     rw [← e]
     simp
   have hB : ¬ (k : Int) < (out.length : Int) → out.contains x = false := fun h => by
    rw [← Bool.not_eq_true]
    intro hm
    have hm' : x ∈ out := by simpa using hm
    rw [← List.take_append_drop k out, List.drop_eq_nil_of_le oM, List.append_nil] at hm'
    have := hk1 x hm'
    omega
   have hb2 := fun h => SlA.based hov h
   generalize out.getD k 0 = yk at hgetk hA
   obtain ⟨nl, hnl2⟩ : ∃ nl, nl = (out.take k ++ x :: out.drop k).length := ⟨_, rfl⟩
   have f1 : x < 0 → (decide (x < 0) || decide ((((out.take k ++ x :: out.drop k).length : Nat) : Int) > 9)) = true := fun h => by simp [h]
   have f2 : ¬ x < 0 → (decide (x < 0) || decide ((((out.take k ++ x :: out.drop k).length : Nat) : Int) > 9)) = decide ((((out.take k ++ x :: out.drop k).length : Nat) : Int) > 9) := fun h => by simp only [h, decide_false, Bool.false_or]
   refine SC.seq ?_
   refine SC.cutB 45 ((out.contains x)) ?_ ?_
   ·refine SC.draw [] [(0, 2), (1, 2), (2, 2), (3, 2), (4, 2), (5, 2), (6, 2), (7, 2), (8, 1), (9, 2), (10, 2), (11, 2), (12, 1), (13, 2), (14, 2)] Tryz.mixed (by kernel_rfl) ?_
    refine SP.U (i := 0) rfl (SU.move rfl) (SP.U (i := 1) rfl (SU.move rfl) (SP.U (i := 2) rfl (SU.lenN underlying45 rfl) (SP.U (i := 3) rfl (SU.lss rfl rfl) (SP.U (i := 4) rfl (SU.move rfl) ?_))))
    refine SP.split ?_ ?_
    ·intro h35
     refine SP.gu (i := 5) rfl (Gd.onT rfl rfl rfl dC) (SU.move rfl) dC (SP.gu (i := 6) rfl (Gd.onT rfl rfl rfl dC) (SU.move rfl) dC (SP.gu (i := 7) rfl (Gd.onT rfl rfl rfl dC) (SU.indexAddr underlying45 sizeOf3 rfl rfl (hb2 oM) oM sL) dC (SP.gq (i := 8) rfl (Gd.onT rfl rfl rfl dC) (SQ.elem1 isAgg3 rfl (SlA.rd hov) (hgetk h35) rfl) dC (SP.gu (i := 9) rfl (Gd.onT rfl rfl rfl dC) (SU.move rfl) dC (SP.gu (i := 10) rfl (Gd.onT rfl rfl rfl dC) (SU.move rfl) dC (SP.gu (i := 11) rfl (Gd.onT rfl rfl rfl dC) (SU.indexAddr underlying45 sizeOf3 rfl rfl hb1 oM sL) dC (SP.gq (i := 12) rfl (Gd.onT rfl rfl rfl dC) (SQ.elem1 isAgg3 rfl (SlA.rd (hv.mono hle)) hgi rfl) dC (SP.gu (i := 13) rfl (Gd.onT rfl rfl rfl dC) (SU.eql rfl rfl) dC (SP.U (i := 14) rfl (SU.pickT rfl rfl) (SP.nil ?_))))))))))
     exact ST.mid1 (by (rw [hA h35]; rfl)) mI
    ·intro h35
     refine SP.off (i := 5) rfl (Gd.onF rfl rfl rfl dC) dC (SP.off (i := 6) rfl (Gd.onF rfl rfl rfl dC) dC (SP.off (i := 7) rfl (Gd.onF rfl rfl rfl dC) dC (SP.off1 (i := 8) rfl (Gd.onF rfl rfl rfl dC) dC (SP.off (i := 9) rfl (Gd.onF rfl rfl rfl dC) dC (SP.off (i := 10) rfl (Gd.onF rfl rfl rfl dC) dC (SP.off (i := 11) rfl (Gd.onF rfl rfl rfl dC) dC (SP.off1 (i := 12) rfl (Gd.onF rfl rfl rfl dC) dC (SP.off (i := 13) rfl (Gd.onF rfl rfl rfl dC) dC (SP.U (i := 14) rfl (SU.pickF rfl rfl) (SP.nil ?_))))))))))
     exact ST.mid1 (by (rw [hB h35]; rfl)) mI
   refine SC.ifB rfl (fun hthere => ?_) (fun hthere => ?_)
   ·have hxo : x ∈ out := by simpa using hthere
    refine SC.exit (ST.thenX (ST.blockX (ST.thenN (SC.region (SL.M rfl (SL.U (SU.add rfl rfl oM) (SL.A rfl (SL.nil ?_))))))))
    exact ST.again (g1, _, out, i + 1) ⟨rfl, rfl, rfl, trivial⟩ rfl rfl ⟨hle, hov, lN, hstr, hskip hxo, hxneg hxo, h9⟩ lN
   ·have hg := hgt hthere
    refine SC.skip (ST.thenN (SC.seq ?_))
    refine SC.draw [8] [(0, 2), (1, 2), (2, 2), (3, 1), (5, 2), (6, 2), (7, 2), (4, 0), (8, 0), (9, 2)] Tryz.mixed (by kernel_rfl) ?_
    refine SP.U (i := 0) rfl (SU.move rfl) (SP.U (i := 1) rfl (SU.move rfl) (SP.U (i := 2) rfl (SU.indexAddr underlying45 sizeOf3 rfl rfl hb1 oM sL) (SP.K (i := 3) rfl (SQ.elem1 isAgg3 rfl (SlA.rd (hv.mono hle)) hgi rfl) (SP.U (i := 5) rfl (SU.move rfl) (SP.U (i := 6) rfl (SU.move rfl) (SP.U (i := 7) rfl (SU.sliceL underlying45 sizeOf3 rfl rfl oM oM) (SP.o (i := 4) rfl (SO.buildSlice sty45 rfl rfl rfl (szs_mk ⟨rfl, trivial⟩) dC) dC (.inr (by rintro _ _ _ ⟨b50, rfl, rfl, rfl⟩; exact ⟨by exact Le.refl _, (by exact .cons _ (.refl _))⟩)) ?_)))))))
    rintro _ _ _ ⟨b50, rfl, rfl, rfl⟩
    refine SP.to (fun w hw => At.litRow (e := encInt) (l := [x]) (n := 0) hw rfl rfl dC) ?_
    refine SP.o (i := 8) rfl (SO.appA (e := encInt) 0 sty45 rfl rfl rfl hc1 (by rw [List.length_drop]; (first | with_reducible rfl | ((try dsimp only); (try simp only [List.length_append, List.length_cons, List.length_nil, List.length_singleton, List.length_take, List.length_drop]) <;> omega))) (by rw [List.length_drop]; (first | with_reducible rfl | ((try dsimp only); (try simp only [List.length_append, List.length_cons, List.length_nil, List.length_singleton, List.length_take, List.length_drop]) <;> omega)))) dC (.inl dC) ?_
    rintro v54 _ _ ⟨rfl, rfl⟩
    refine SP.U (i := 9) rfl (SU.assign rfl) (SP.nil (ST.thenN (SC.seq (SC.freezeRow fun g2 hle2 hs2 => ?_))))
    have hrest : Ints g2 v54 ([x] ++ out.drop k) := hs2
    refine SC.region (SL.W (SO.buildSlice sty45 rfl rfl rfl (szs_mk trivial) dC) ?_)
    rintro _ _ _ ⟨b55, rfl, rfl, rfl⟩
    refine SL.emptyRow 3 1 (some ⟨b55, 0, none⟩) (SL.M rfl (SL.M rfl (SL.U (SU.sliceH underlying45 sizeOf3 rfl rfl oM oM) (SL.W (SO.appA (e := encInt) (l := []) 0 sty45 rfl rfl rfl (hc2.mono hle2) (by rw [List.length_take]; (first | with_reducible rfl | ((try dsimp only); (try simp only [List.length_append, List.length_cons, List.length_nil, List.length_singleton, List.length_take, List.length_drop]) <;> omega))) (by rw [List.length_take]; (first | with_reducible rfl | ((try dsimp only); (try simp only [List.length_append, List.length_cons, List.length_nil, List.length_singleton, List.length_take, List.length_drop]) <;> omega)))) ?_))))
    rintro v59 _ _ ⟨rfl, rfl⟩
    refine SL.M rfl (SL.W (SO.appA (e := encInt) 0 sty45 rfl rfl rfl hrest lN lN) ?_)
    rintro v61 _ _ ⟨rfl, rfl⟩
    refine SL.A rfl (SL.nil (ST.thenN (SC.freezeRow fun g3 hle3 hs3 => ?_)))
    have hres : Ints g3 v61 (out.take k ++ x :: out.drop k) := (by have h : Ints g3 v61 ([] ++ out.take k ++ ([x] ++ out.drop k)) := hs3; simpa using h)
    refine SC.drop (s' := s) (.cons _ (.refl _)) ?_
    obtain ⟨q3, d3, rfl⟩ := SlA.form hres
    refine SC.sub (f' := [(0, .slice p l.length c), (4, .slice q3 (out.take k ++ x :: out.drop k).length d3), (5, vi i)]) ⟨rfl, rfl, rfl, trivial⟩ ?_
    refine SC.cutB 71 ((decide (x < 0) || decide ((((out.take k ++ x :: out.drop k).length : Nat) : Int) > 9))) ?_ ?_
    ·refine SC.region (SL.M rfl (SL.M rfl (SL.U (SU.indexAddr underlying45 sizeOf3 rfl rfl hb1 oM sL) (SL.K (SQ.elem1 isAgg3 rfl (SlA.rd (hv.mono (hle.trans (hle2.trans hle3)))) hgi rfl) (SL.U (SU.lss rfl rfl) (SL.M rfl ?_))))))
     refine SL.split ?_ ?_
     ·intro h67
      refine SL.Z rfl rfl rfl (SL.Z rfl rfl rfl (SL.Z rfl rfl rfl (SL.U (SU.pickT rfl rfl) (SL.nil ?_))))
      exact ST.mid1 (by (rw [f1 h67]; rfl)) mI
     ·intro h67
      refine SL.Y rfl rfl rfl (SU.move rfl) (SL.Y rfl rfl rfl (SU.lenN underlying45 rfl) (SL.Y rfl rfl rfl (SU.gtr rfl rfl) (SL.U (SU.pickF rfl rfl) (SL.nil ?_))))
      exact ST.mid1 (by (rw [f2 h67]; rfl)) mI
    refine SC.ifB rfl (fun hbad => ?_) (fun hbad => ?_)
    ·have hko : okS l = false := by
      rw [Bool.or_eq_true, decide_eq_true_iff, decide_eq_true_iff] at hbad
      rcases hbad with h | h
      ·exact hbad1 h
      ·exact hbad2 hg oM
     refine SC.seq (SC.region (SL.A rfl (SL.A rfl (SL.nil (ST.thenN (SC.ret (ST.blockR (ST.thenR (ST.thenR (ST.blockR (ST.thenR ?_)))))))))))
     exact ST.ret2 (.inl rfl) results54 rfl rfl ⟨rfl, hle.trans (hle2.trans hle3), .inr ⟨hko, rfl⟩⟩
    ·rw [Bool.or_eq_false_iff, decide_eq_false_iff_not, decide_eq_false_iff_not] at hbad
     refine SC.skip (ST.blockN (ST.thenN (SC.region (SL.M rfl (SL.U (SU.add rfl rfl oM) (SL.A rfl (SL.nil ?_)))))))
     exact ST.again (g3, _, out.take k ++ x :: out.drop k, i + 1) ⟨rfl, rfl, rfl, trivial⟩ rfl rfl (hgo g3 q3 d3 hg (hle.trans (hle2.trans hle3)) hres hbad.1 oM) lN
 ·have hii : l.take i = l := List.take_of_length_le oM
  rw [hii] at hmem hneg
  have hset := setC_of hstr hmem
  have hok : okS l = true := by unfold okS; rw [hneg, ← hset]; simpa using h9
  refine SC.exit (ST.thenX (ST.thenX (ST.blockX (ST.thenN (SC.seq (SC.region (SL.M rfl (SL.A rfl (SL.A rfl (SL.nil (ST.thenN (SC.ret ?_))))))))))))
  exact ST.ret2 (.inl rfl) results54 rfl rfl ⟨rfl, hle, .inl ⟨hok, _, rfl, by rw [← hset]; exact hov⟩⟩
abbrev StrictL (l : List (List Int)) : Prop := l.Pairwise fun a b => compareC a b < 0
theorem compareC_asymm {a b : List Int} (h : compareC a b < 0) : ¬ compareC b a < 0 := by have := compareC_antisymm a b; omega
theorem StrictL.srt {l : List (List Int)} (h : StrictL l) : SrtL l := h.imp fun h => compareC_asymm h
theorem strictL_unique : ∀ {l m : List (List Int)}, StrictL l → StrictL m → (∀ x, x ∈ l ↔ x ∈ m) → l = m
 | [], [], _, _, _ => rfl
 | [], y :: m, _, _, h => by have := (h y).2 (by simp); simp at this
 | x :: l, [], _, _, h => by have := (h x).1 (by simp); simp at this
 | x :: l, y :: m, hl, hm, h => by
  obtain ⟨h1, h2⟩ := List.pairwise_cons.1 hl
  obtain ⟨h3, h4⟩ := List.pairwise_cons.1 hm
  have hxy : x = y := by
   rcases List.mem_cons.1 ((h x).1 (by simp)) with e | hx
   ·exact e
   ·rcases List.mem_cons.1 ((h y).2 (by simp)) with e | hy
    ·exact e.symm
    ·exact absurd (h1 y hy) (compareC_asymm (h3 x hx))
  subst hxy
  have hself : ¬ compareC x x < 0 := by rw [compareC_self]; decide
  rw [strictL_unique h2 h4 fun z => ?_]
  constructor
  ·intro hz
   rcases List.mem_cons.1 ((h z).1 (by simp [hz])) with e | hz'
   ·subst e; exact absurd (h1 z hz) hself
   ·exact hz'
  ·intro hz
   rcases List.mem_cons.1 ((h z).2 (by simp [hz])) with e | hz'
   ·subst e; exact absurd (h3 z hz) hself
   ·exact hz'
theorem uniqGo_strictL : ∀ {x : List Int} {l : List (List Int)}, SrtL (x :: l) → StrictL (uniqGo eqL x l) ∧ (∀ y ∈ uniqGo eqL x l, compareC x y < 0) ∧ ∀ y, y ∈ l → y = x ∨ y ∈ uniqGo eqL x l
 | x, [], _ => ⟨List.Pairwise.nil, by simp [uniqGo], by simp⟩
 | x, y :: r, h => by
  obtain ⟨h1, h2⟩ := List.pairwise_cons.1 h
  obtain ⟨i1, i2, i3⟩ := uniqGo_strictL h2
  have hxy := h1 y (by simp)
  unfold uniqGo
  by_cases e : y = x
  ·subst e
   simp only [eqL, decide_true, if_true]
   refine ⟨i1, i2, fun z hz => ?_⟩
   rcases List.mem_cons.1 hz with rfl | hz
   ·exact .inl rfl
   ·exact i3 z hz
  ·have hlt : compareC x y < 0 := by
    rcases compareC_cases x y with h | h | h
    ·exact h
    ·exact absurd h.symm e
    ·exact absurd h hxy
   simp only [eqL, e, decide_false]
   refine ⟨List.pairwise_cons.2 ⟨i2, i1⟩, fun z hz => ?_, fun z hz => ?_⟩
   ·rcases List.mem_cons.1 hz with rfl | hz
    ·exact hlt
    ·exact compareC_trans _ _ _ hlt (i2 z hz)
   ·rcases List.mem_cons.1 hz with rfl | hz
    ·exact .inr (by simp)
    ·rcases i3 z hz with rfl | h
     ·exact .inr (by simp)
     ·refine .inr ?_
      simp
      exact .inr h
theorem addSets_strict (all : List (List Int)) (t : List Int) : StrictL (addSets all t) := by
 have hs := sortL_srt (all ++ subsetsC t)
 unfold addSets
 cases h : sortL (all ++ subsetsC t) with
 | nil => exact List.Pairwise.nil
 | cons x r =>
  rw [h] at hs
  obtain ⟨h1, h2, _⟩ := uniqGo_strictL hs
  exact List.pairwise_cons.2 ⟨h2, h1⟩
theorem addSets_iff (all : List (List Int)) (t x : List Int) : x ∈ addSets all t ↔ x ∈ all ∨ x ∈ subsetsC t := by
 refine ⟨addSets_mem, fun h => ?_⟩
 have hs := sortL_srt (all ++ subsetsC t)
 have hm : x ∈ sortL (all ++ subsetsC t) := (sortL_perm _).symm.subset (List.mem_append.2 h)
 unfold addSets
 cases hc : sortL (all ++ subsetsC t) with
 | nil => rw [hc] at hm; simp at hm
 | cons y r =>
  rw [hc] at hs hm
  rcases List.mem_cons.1 hm with rfl | hm
  ·simp [uniq]
  ·rcases (uniqGo_strictL hs).2.2 x hm with rfl | h
   ·simp [uniq]
   ·simp [uniq, h]
theorem lbL_split : ∀ {l : List (List Int)} (t : List Int), SrtL l → (∀ y ∈ l.take (lbL l t), compareC y t < 0) ∧ ∀ y ∈ l.drop (lbL l t), ¬ compareC y t < 0
 | [], t, _ => ⟨by simp, by simp⟩
 | a :: r, t, hs => by
  obtain ⟨h1, h2⟩ := List.pairwise_cons.1 hs
  obtain ⟨i1, i2⟩ := lbL_split t h2
  by_cases ha : compareC a t < 0
  ·have hl : lbL (a :: r) t = lbL r t + 1 := by simp [lbL, ha]
   rw [hl, List.take_succ_cons, List.drop_succ_cons]
   refine ⟨fun y hy => ?_, i2⟩
   rcases List.mem_cons.1 hy with rfl | hy
   ·exact ha
   ·exact i1 y hy
  ·have hall : ∀ y ∈ a :: r, ¬ compareC y t < 0 := fun y hy => by
    rcases List.mem_cons.1 hy with rfl | hy
    ·exact ha
    ·exact compareC_ntrans y a t (h1 y hy) ha
   have hz : lbL (a :: r) t = 0 := by
    unfold lbL
    rw [List.length_eq_zero_iff, List.filter_eq_nil_iff]
    intro y hy
    simpa using hall y hy
   rw [hz]
   exact ⟨by simp, by simpa using hall⟩
theorem insL_strict {l : List (List Int)} {t : List Int} (hs : StrictL l) (hn : l.contains t = false) : StrictL (l.take (lbL l t) ++ t :: l.drop (lbL l t)) := by
 obtain ⟨h1, h2⟩ := lbL_split t hs.srt
 have hs' : StrictL (l.take (lbL l t) ++ l.drop (lbL l t)) := by rw [List.take_append_drop]; exact hs
 have h3 := List.pairwise_append.1 hs'
 refine List.pairwise_append.2 ⟨h3.1, List.pairwise_cons.2 ⟨fun y hy => ?_, h3.2.1⟩, fun y hy z hz => ?_⟩
 ·rcases compareC_cases t y with h | h | h
  ·exact h
  ·have : l.contains t = true := by rw [h]; simpa using List.mem_of_mem_drop hy
   rw [hn] at this; cases this
  ·exact absurd h (h2 y hy)
 ·rcases List.mem_cons.1 hz with rfl | hz
  ·exact h1 y hy
  ·exact h3.2.2 y hy z hz
theorem simp_srt (all : List (List Int)) : Srt Cl.id (simpCells all) := by
 unfold Srt
 rw [List.pairwise_iff_getElem]
 intro i j hi hj hij
 simp [simpCells, simpCell]
 omega
theorem canon_simp (all : List (List Int)) : canonC (simpCells all) = (simpCells all).map normC := by
 unfold canonC
 rw [← eq_sortBy (simp_srt all) (Stab.refl _)]
theorem tmod_two (k : Nat) : ((k : Nat) : Int).tmod 2 = ((k : Nat) : Int) % 2 := Int.tmod_eq_emod_of_nonneg oM
theorem refSimplicial_spec (E : World) (g : PH) (s : Own) (v : Value) (ls : List (List Int)) (hv : Lists g v ls) (hn : ls.length < 1099511627776) (hl : ∀ x ∈ ls, x.length < 17592186044416) :
  Ctr Tryz.prog E 14 #[v] g s (fun r g' s' => s = s' ∧ Le g g' ∧ ∃ u, r = .agg #[u] ∧ Cells g' u (simpC ls)) := by
 obtain ⟨rs0, hrs0, hall0⟩ := hv
 have hlen0 := hall0.length
 obtain ⟨p, c, rfl⟩ := SlA.form hrs0
 refine Ctr.of (args := [.slice p rs0.length c]) func14 rfl ntmps14 (Nat.le_of_ble_eq_true rfl) ?_
 refine SC.seq (SC.region (SL.W (SO.alloc zeroValue27) ?_))
 rintro _ _ _ ⟨b2, rfl, rfl, rfl⟩
 refine SL.nil (ST.thenN (SC.seq (SC.region (SL.A rfl (SL.nil (ST.thenN (SC.seq (SC.seq (SC.region (SL.A rfl (SL.nil (ST.thenN (SC.block ?_)))))))))))))
 refine SC.loop (ι := PH × Value × List (List Int) × Nat) (fun i => [(0, .slice p rs0.length c), (2, pp b2 0), (3, i.2.1), (4, vi i.2.2.2)]) (fun i => i.1)
  (fun _ => pt b2 (.cells #[.slice none 0 0] 27 (0, 0)) :: s)
  (fun i => Le g i.1 ∧ i.2.2.2 ≤ rs0.length ∧ Lists i.1 i.2.1 i.2.2.1 ∧ (i.2.2.1.length ≤ 4000 ∧ ∀ x ∈ i.2.2.1, x.length ≤ 9) ∧ StrictL i.2.2.1 ∧ simpAll [] ls = simpAll i.2.2.1 (ls.drop i.2.2.2)) (fun i => rs0.length - i.2.2.2)
  (g, .slice none 0 0, [], 0) ⟨rfl, rfl, rfl, rfl, trivial⟩ rfl rfl ⟨Le.refl g, Nat.zero_le _, ⟨[], Sl.nil g _, trivial⟩, ⟨Nat.zero_le _, by simp⟩, List.Pairwise.nil, rfl⟩ ?_
 rintro ⟨g1, av, all, i⟩ ⟨hle, hi, hav, ⟨hal, has⟩, hstr, hsa⟩
 dsimp only at hle hi hav hal has hstr hsa ⊢
 refine SC.seq (SC.seq (SC.region (SL.M rfl (SL.M rfl (SL.U (SU.lenN underlying22 rfl) (SL.U (SU.lss rfl rfl) (SL.nil (ST.thenN ?_))))))))
 refine SC.ifP rfl (fun hlt => ?_) (fun hlt => ?_)
 ·have hkl : i < ls.length := oM
  have hkr : i < rs0.length := oM
  have hR := (hall0.get (List.getElem?_eq_getElem hkl) (List.getElem?_eq_getElem hkr)).mono hle
  have hxl := hl _ (List.getElem_mem hkl)
  have hb1 := hrs0.based oM
  have hdrop : ls.drop i = ls[i] :: ls.drop (i + 1) := List.drop_eq_getElem_cons hkl
  rw [hdrop] at hsa
  generalize hx : ls[i] = x at *
  generalize hr : rs0[i] = r at *
  have hgr : rs0[((i : Nat) : Int).toNat]? = some r := by rw [← hr]; exact List.getElem?_eq_getElem hkr
  refine SC.skip (ST.thenN (SC.seq (SC.block (SC.seq (SC.region (SL.M rfl (SL.M rfl (SL.U (SU.indexAddr underlying22 sizeOf45 rfl rfl hb1 oM sL) (SL.K (SQ.elem1 isAgg45 rfl (hrs0.mono hle).rd hgr rfl) (SL.W (SO.call call54 rfl (set_spec E g1 _ _ x hR hxl)) ?_))))))))))
  rintro v31 g2 _ ⟨rfl, hle2, hset⟩
  have hav2 := hav.mono hle2
  rcases hset with ⟨hok, u, rfl, hu⟩ | ⟨hok, rfl⟩
  ·obtain ⟨hs9, hsb⟩ := okS_good hok
   obtain ⟨q, d, rfl⟩ := SlA.form hu
   have hpow := pow_le (setC x).length hs9
   refine SL.M rfl (SL.U (SU.extract rfl rfl) (SL.U (SU.extract rfl rfl) (SL.A rfl (SL.A rfl (SL.nil (ST.thenN ?_))))))
   refine SC.cut (ι := PH × Value × List (List Int)) (fun j => [(0, .slice p rs0.length c), (2, pp b2 0), (3, j.2.1), (4, vi i)]) (fun j => j.1) (fun _ => pt b2 (.cells #[.slice none 0 0] 27 (0, 0)) :: s)
    (fun j => Le g j.1 ∧ Lists j.1 j.2.1 j.2.2 ∧ StrictL j.2.2 ∧ (∀ y, y ∈ j.2.2 ↔ y ∈ all ∨ y ∈ subsetsC (setC x)) ∧ j.2.2.length ≤ 4600) ?_ ?_
   ·refine SC.seq (SC.region (SL.A rfl (SL.nil (ST.thenN (SC.block ?_)))))
    refine SC.loop (ι := PH × Value × List (List Int) × Nat) (fun j => [(0, .slice p rs0.length c), (2, pp b2 0), (3, j.2.1), (4, vi i), (5, .slice q (setC x).length d), (6, vb true), (7, vi (j.2.2.2 + 1 : Nat))]) (fun j => j.1) (fun _ => pt b2 (.cells #[.slice none 0 0] 27 (0, 0)) :: s)
     (fun j => Le g2 j.1 ∧ j.2.2.2 + 1 ≤ 2 ^ (setC x).length ∧ Lists j.1 j.2.1 j.2.2.1 ∧ StrictL j.2.2.1 ∧ (∀ y, y ∈ j.2.2.1 ↔ y ∈ all ∨ y ∈ (List.range j.2.2.2).map fun m => pickB (m + 1) (setC x)) ∧ j.2.2.1.length ≤ 4000 + j.2.2.2) (fun j => 2 ^ (setC x).length - j.2.2.2)
     (g2, av, all, 0) ⟨rfl, rfl, rfl, rfl, rfl, rfl, rfl, trivial⟩ rfl rfl ⟨Le.refl g2, Nat.one_le_two_pow, hav2, hstr, by simp, lN⟩ ?_
    rintro ⟨g3, bv, al, b⟩ ⟨hle3, hb, hbv, hbs, hbm, hbl⟩
    dsimp only at hle3 hb hbv hbs hbm hbl ⊢
    have hals : ∀ y ∈ al, y.length ≤ 9 := fun y hy => by
     rcases (hbm y).1 hy with h | h
     ·exact has y h
     ·obtain ⟨m, _, rfl⟩ := List.mem_map.1 h
      exact Nat.le_trans (pickB_length _ _) hs9
    refine SC.seq (SC.seq (SC.region (SL.M rfl (SL.M rfl (SL.Y rfl rfl rfl (SU.move rfl) (SL.Y rfl rfl rfl (SU.move rfl) (SL.Y rfl rfl rfl (SU.lenN underlying45 rfl) (SL.Y rfl rfl rfl (SU.eq (v' := vi ((2 ^ (setC x).length : Nat) : Int)) (SU.shl rfl rfl oM) (congrArg vi (shl_one (setC x).length oM))) (SL.Y rfl rfl rfl (SU.lss rfl rfl) (SL.U (SU.pickT rfl rfl) (SL.nil (ST.thenN ?_))))))))))))
    refine SC.ifP rfl (fun hlt2 => ?_) (fun hlt2 => ?_)
    ·have hbl2 : b + 1 < 2 ^ (setC x).length := oM
     refine SC.skip (ST.thenN (SC.seq (SC.block (SC.seq (SC.region (SL.A rfl (SL.nil (ST.thenN (SC.seq (SC.seq (SC.nilRow 3 1 (SC.region (SL.A rfl (SL.nil (ST.thenN (SC.block ?_))))))))))))))))
     refine SC.loop (ι := Value × Nat) (fun k => [(0, .slice p rs0.length c), (2, pp b2 0), (3, bv), (4, vi i), (5, .slice q (setC x).length d), (6, vb true), (7, vi (b + 1 : Nat)), (8, k.1), (9, vi k.2)]) (fun _ => g3)
      (fun k => rowA encInt 3 k.1 (pickB (b + 1) ((setC x).take k.2)) :: pt b2 (.cells #[.slice none 0 0] 27 (0, 0)) :: s) (fun k => k.2 ≤ (setC x).length) (fun k => (setC x).length - k.2) (.slice none 0 0, 0)
      ⟨rfl, rfl, rfl, rfl, rfl, rfl, rfl, rfl, rfl, trivial⟩ rfl rfl (Nat.zero_le _) ?_
     rintro ⟨cv, k⟩ hk
     dsimp only at hk ⊢
     have hpl := pickB_length (b + 1) ((setC x).take k)
     rw [List.length_take] at hpl
     refine SC.seq (SC.seq (SC.region (SL.M rfl (SL.M rfl (SL.U (SU.lenN underlying45 rfl) (SL.U (SU.lss rfl rfl) (SL.nil (ST.thenN ?_))))))))
     refine SC.ifP rfl (fun hlt3 => ?_) (fun hlt3 => ?_)
     ·have hkl : k < (setC x).length := oM
      have hbu := SlA.based (hu.mono hle3) oM
      have hsucc := pickB_succ (bits := b + 1) hkl
      refine SC.skip (ST.thenN (SC.seq (SC.block (SC.seq (SC.region (SL.M rfl (SL.M rfl (SL.U (SU.shr rfl rfl oM) (SL.U (SU.eq (v' := vi (((b + 1) / 2 ^ k % 2 : Nat) : Int)) (SU.and rfl rfl) (congrArg vi ((and_one _).trans (shr_bit (b + 1) k oM)))) (SL.U (SU.eql rfl rfl) (SL.nil (ST.thenN ?_))))))))))))
      refine SC.ifP rfl (fun hbit => ?_) (fun hbit => ?_)
      ·refine SC.region (SL.M rfl (SL.M rfl (SL.M rfl (SL.U (SU.indexAddr underlying45 sizeOf3 rfl rfl hbu oM sL) ?_))))
       refine SL.q (SQ.elem1 isAgg3 rfl (SlA.rd (hu.mono hle3)) (List.getElem?_eq_getElem hkl) rfl) dC ?_
       refine SL.W (SO.buildSlice sty45 rfl rfl rfl (szs_mk (by exact ⟨rfl, trivial⟩)) dC) ?_
       rintro _ _ _ ⟨b60, rfl, rfl, rfl⟩
       refine SL.W (SO.app1A (e := encInt) 0 (setC x)[k] sty45 rfl rfl rfl rfl rfl oM oM) ?_
       rintro cv' _ _ ⟨rfl, rfl⟩
       refine SL.A rfl (SL.nil (ST.blockN (ST.thenN (SC.region (SL.M rfl (SL.U (SU.add rfl rfl oM) (SL.A rfl (SL.nil ?_))))))))
       refine ST.to (fun w hw => ?_) (g' := g3) (s' := rowA encInt 3 cv' (pickB (b + 1) ((setC x).take (k + 1))) :: pt b2 (.cells #[.slice none 0 0] 27 (0, 0)) :: s) ?_
       ·rw [hsucc, if_pos oM]; exact hw
       exact ST.again (cv', k + 1) ⟨rfl, rfl, rfl, rfl, rfl, rfl, rfl, rfl, rfl, trivial⟩ rfl rfl lN lN
      ·refine SC.skip (ST.blockN (ST.thenN (SC.region (SL.M rfl (SL.U (SU.add rfl rfl oM) (SL.A rfl (SL.nil ?_)))))))
       refine ST.to (fun w hw => ?_) (g' := g3) (s' := rowA encInt 3 cv (pickB (b + 1) ((setC x).take (k + 1))) :: pt b2 (.cells #[.slice none 0 0] 27 (0, 0)) :: s) ?_
       ·rw [hsucc, if_neg oM]; exact hw
       exact ST.again (cv, k + 1) ⟨rfl, rfl, rfl, rfl, rfl, rfl, rfl, rfl, rfl, trivial⟩ rfl rfl lN lN
     ·have hkk : (setC x).take k = setC x := List.take_of_length_le oM
      have htl := pickB_length (b + 1) (setC x)
      have hmem2 : ∀ nw : List (List Int), (∀ y, y ∈ nw ↔ y = pickB (b + 1) (setC x) ∨ y ∈ al) → ∀ y, y ∈ nw ↔ y ∈ all ∨ y ∈ (List.range (b + 1)).map fun m => pickB (m + 1) (setC x) := fun nw h y => by
       rw [h, hbm, List.range_succ, List.map_append, List.mem_append]
       simp
       constructor
       ·rintro (h | h | h)
        ·exact .inr (.inr h)
        ·exact .inl h
        ·exact .inr (.inl h)
       ·rintro (h | h | h)
        ·exact .inr (.inl h)
        ·exact .inr (.inr h)
        ·exact .inl h
      generalize hpk : pickB (b + 1) (setC x) = t at *
      refine SC.exit (ST.thenX (ST.thenX (ST.blockX (ST.thenN (SC.seq (SC.freezeRow fun g4 hle4 hs4 => ?_))))))
      rw [hkk, hpk] at hs4
      have ht : Ints g4 cv t := hs4
      have hbv4 := hbv.mono hle4
      refine SC.region (SL.M rfl (SL.M rfl (SL.W (SO.call call55 rfl (place_spec E g4 _ _ _ al t hbv4 ht oM (fun y hy => by have := hals y hy; omega) oM hbs.srt)) ?_)))
      rintro _ _ _ ⟨rfl, rfl, rfl⟩
      refine SL.M rfl (SL.U (SU.extract rfl rfl) (SL.U (SU.extract rfl rfl) (SL.A rfl (SL.A rfl (SL.nil (ST.thenN (SC.seq (SC.region (SL.M rfl (SL.U (SU.not rfl) (SL.nil (ST.thenN ?_))))))))))))
      refine SC.ifB rfl (fun hthere => ?_) (fun hthere => ?_)
      ·have hth : al.contains t = false := by simpa using hthere
       have hlb := lbL_le al t
       obtain ⟨ra, hra, halr⟩ := hbv4
       have hral := halr.length
       obtain ⟨qa, da, rfl⟩ := SlA.form hra
       have hcapa := (SlA.cap hra).2
       obtain ⟨qt, dt, rfl⟩ := SlA.form ht
       have hca := SlA.cut hra (l := lbL al t) (m := ra.length) oM (Nat.le_refl _)
       have hcb := SlA.cut hra (l := 0) (m := lbL al t) (Nat.zero_le _) oM
       rw [List.take_of_length_le (by rw [List.length_drop]; exact Nat.le_refl _)] at hca
       rw [List.drop_zero, Nat.sub_zero] at hcb
       refine SC.seq (SC.region (SL.M rfl (SL.W (SO.buildSlice sty22 rfl rfl rfl (szs_mk ⟨rfl, trivial⟩) dC) ?_)))
       rintro _ _ _ ⟨b71, rfl, rfl, rfl⟩
       refine SL.to (fun w hw => At.litRow (e := encSv) (l := [⟨qt, t.length, dt⟩]) (n := 0) hw rfl rfl dC) ?_
       refine SL.M rfl (SL.M rfl (SL.U (SU.sliceL underlying22 sizeOf45 rfl rfl oM oM) (SL.W (SO.appA (e := encSv) 0 sty22 rfl rfl rfl hca (by rw [List.length_drop]; (first | with_reducible rfl | ((try dsimp only); (try simp only [List.length_append, List.length_cons, List.length_nil, List.length_singleton, List.length_take, List.length_drop]) <;> omega))) (by rw [List.length_drop]; (first | with_reducible rfl | ((try dsimp only); (try simp only [List.length_append, List.length_cons, List.length_nil, List.length_singleton, List.length_take, List.length_drop]) <;> omega)))) ?_)))
       rintro v75 _ _ ⟨rfl, rfl⟩
       refine SL.A rfl (SL.nil (ST.thenN (SC.freezeRow fun g5 hle5 hs5 => ?_)))
       have hrest : SlA encSv g5 v75 ([⟨qt, t.length, dt⟩] ++ ra.drop (lbL al t)) := hs5
       refine SC.region (SL.W (SO.buildSlice sty22 rfl rfl rfl (szs_mk trivial) dC) ?_)
       rintro _ _ _ ⟨b76, rfl, rfl, rfl⟩
       refine SL.emptyRow 45 1 (some ⟨b76, 0, none⟩) (SL.M rfl (SL.M rfl (SL.U (SU.sliceH underlying22 sizeOf45 rfl rfl oM oM) (SL.W (SO.appA (e := encSv) (l := []) 0 sty22 rfl rfl rfl (hcb.mono hle5) (by rw [List.length_take]; (first | with_reducible rfl | ((try dsimp only); (try simp only [List.length_append, List.length_cons, List.length_nil, List.length_singleton, List.length_take, List.length_drop]) <;> omega))) (by rw [List.length_take]; (first | with_reducible rfl | ((try dsimp only); (try simp only [List.length_append, List.length_cons, List.length_nil, List.length_singleton, List.length_take, List.length_drop]) <;> omega)))) ?_))))
       rintro v80 _ _ ⟨rfl, rfl⟩
       refine SL.M rfl (SL.W (SO.appA (e := encSv) 0 sty22 rfl rfl rfl hrest lN lN) ?_)
       rintro v82 _ _ ⟨rfl, rfl⟩
       refine SL.A rfl (SL.nil (ST.blockN (ST.thenN (SC.region (SL.M rfl (SL.U (SU.add rfl rfl oM) (SL.A rfl (SL.nil (ST.freezeRow fun g6 hle6 hs6 => ?_)))))))))
       refine ST.drop (s' := pt b2 (.cells #[.slice none 0 0] 27 (0, 0)) :: s) (.cons _ (.refl _)) ?_
       have hres : Lists g6 v82 (al.take (lbL al t) ++ t :: al.drop (lbL al t)) := by
        refine ⟨ra.take (lbL al t) ++ ⟨qt, t.length, dt⟩ :: ra.drop (lbL al t), ?_, ?_⟩
        ·have h : SlA encSv g6 v82 ([] ++ ra.take (lbL al t) ++ ([⟨qt, t.length, dt⟩] ++ ra.drop (lbL al t))) := hs6
         simpa using h
        ·exact ((All2.take _ halr).mono fun _ _ => ListR.mono (hle5.trans hle6)).append ⟨ht.mono (hle5.trans hle6), (All2.drop _ halr).mono fun _ _ => ListR.mono (hle5.trans hle6)⟩
       exact ST.again (g6, v82, al.take (lbL al t) ++ t :: al.drop (lbL al t), b + 1) ⟨rfl, rfl, rfl, rfl, rfl, rfl, vi_eq (by simp), trivial⟩ rfl rfl ⟨hle3.trans (hle4.trans (hle5.trans hle6)), hbl2, hres, insL_strict hbs hth, hmem2 _ (fun y => mem_ins), lN⟩ lN
      ·have hth : t ∈ al := by simpa using hthere
       refine SC.skip (ST.blockN (ST.thenN (SC.region (SL.M rfl (SL.U (SU.add rfl rfl oM) (SL.A rfl (SL.nil ?_)))))))
       exact ST.again (g4, bv, al, b + 1) ⟨rfl, rfl, rfl, rfl, rfl, rfl, vi_eq (by simp), trivial⟩ rfl rfl ⟨hle3.trans hle4, hbl2, hbv4, hbs, hmem2 _ (fun y => ⟨.inr, fun h => h.elim (fun e => by rw [e]; exact hth) id⟩), lN⟩ lN
    ·have hbb : b = 2 ^ (setC x).length - 1 := oM
     refine SC.exit (ST.thenX (ST.thenX (ST.blockX ?_)))
     exact ST.mid (g3, bv, al) ⟨rfl, rfl, rfl, rfl, trivial⟩ rfl rfl ⟨hle.trans (hle2.trans hle3), hbv, hbs, fun y => by dsimp only; rw [hbm]; unfold subsetsC; rw [hbb], lN⟩
   ·rintro ⟨g3, bv, al⟩ ⟨hle3, hbv, hbs, hbm, hbl⟩
    dsimp only at hle3 hbv hbs hbm hbl ⊢
    have hals : ∀ y ∈ al, y.length ≤ 9 := fun y hy => by
     rcases (hbm y).1 hy with h | h
     ·exact has y h
     ·exact subsetsC_short hs9 y h
    have key : ((al.length : Int) > 4000 → simpAll [] ls = none) ∧ (¬ (al.length : Int) > 4000 → simpAll [] ls = simpAll al (ls.drop (i + 1))) := by
     by_cases hb : badSet (setC x) = true
     ·have he := hsb hb
      have hal2 : al = all := strictL_unique hbs hstr fun y => by rw [hbm, he]; simp [subsetsC]
      refine ⟨fun h => by rw [hal2] at h; omega, fun _ => by rw [hsa, simpAll, if_pos hb, hal2]⟩
     ·have hal2 : al = addSets all (setC x) := strictL_unique hbs (addSets_strict _ _) fun y => by rw [hbm, addSets_iff]
      refine ⟨fun h => by rw [hsa, simpAll, if_neg hb, if_pos (by rw [← hal2]; exact h)], fun h => by rw [hsa, simpAll, if_neg hb, if_neg (by rw [← hal2]; exact h), ← hal2]⟩
    obtain ⟨ra, hra, halr⟩ := hbv
    have hbv : Lists g3 bv al := ⟨ra, hra, halr⟩
    have hral := halr.length
    obtain ⟨qa, da, rfl⟩ := SlA.form hra
    refine SC.seq (SC.region (SL.M rfl (SL.U (SU.lenN underlying22 rfl) (SL.U (SU.gtr rfl rfl) (SL.nil (ST.thenN ?_))))))
    refine SC.ifP rfl (fun hmany => ?_) (fun hmany => ?_)
    ·refine SC.seq (SC.region (SL.U (SU.build rfl (buildE27)) (SL.on (SO.storeAllK 0 sizeOf27 rfl rfl rfl rfl rfl (by exact ⟨rfl, trivial⟩)) ?_)))
     rintro _ _ _ ⟨rfl, rfl⟩
     refine SL.nil (ST.thenN (SC.ret (ST.blockR (ST.thenR (ST.thenR (ST.blockR (ST.thenR ?_)))))))
     exact ST.retCD 0 s (.inl rfl) results14 rfl isAgg27 sizeOf27 rfl rfl (.cons _ (.refl _)) ⟨rfl, hle3, _, rfl, by simp only [simpC, key.1 oM]; exact ⟨[], Sl.nil _ _, trivial⟩⟩
    ·refine SC.skip (ST.blockN (ST.thenN (SC.region (SL.M rfl (SL.U (SU.add rfl rfl oM) (SL.A rfl (SL.nil ?_)))))))
     exact ST.again (g3, _, al, i + 1) ⟨rfl, rfl, rfl, rfl, trivial⟩ rfl rfl ⟨hle3, lN, hbv, ⟨lN, hals⟩, hbs, key.2 oM⟩ lN
  ·have hb := okS_bad hok
   obtain ⟨ra, hra, halr⟩ := hav2
   have hav2 : Lists g2 av all := ⟨ra, hra, halr⟩
   have hral := halr.length
   obtain ⟨qa, da, rfl⟩ := SlA.form hra
   refine SL.M rfl (SL.U (SU.extract rfl rfl) (SL.U (SU.extract rfl rfl) (SL.A rfl (SL.A rfl (SL.nil (ST.thenN (SC.seq (SC.seq (SC.region (SL.A rfl (SL.nil (ST.thenN (SC.block ?_)))))))))))))
   refine SC.loop (ι := Unit) (fun _ => [(0, .slice p rs0.length c), (2, pp b2 0), (3, .slice qa ra.length da), (4, vi i), (5, .slice none 0 0), (6, vb false), (7, vi 1)]) (fun _ => g2) (fun _ => pt b2 (.cells #[.slice none 0 0] 27 (0, 0)) :: s) (fun _ => True) (fun _ => 0) () ⟨rfl, rfl, rfl, rfl, rfl, rfl, rfl, trivial⟩ rfl rfl trivial ?_
   rintro ⟨⟩ -
   refine SC.seq (SC.seq (SC.region (SL.M rfl (SL.M rfl (SL.Z rfl rfl rfl (SL.Z rfl rfl rfl (SL.Z rfl rfl rfl (SL.Z rfl rfl rfl (SL.Z rfl rfl rfl (SL.U (SU.pickF rfl rfl) (SL.nil (ST.thenN (SC.condF rfl (SC.exit (ST.thenX (ST.thenX (ST.blockX (ST.thenN (SC.seq (SC.region (SL.M rfl (SL.U (SU.lenN underlying22 rfl) (SL.U (SU.gtr rfl rfl) (SL.nil (ST.thenN ?_)))))))))))))))))))))))))
   refine SC.ifP rfl (fun hmany => ?_) (fun hmany => ?_)
   ·exfalso
    omega
   ·refine SC.skip (ST.blockN (ST.thenN (SC.region (SL.M rfl (SL.U (SU.add rfl rfl oM) (SL.A rfl (SL.nil ?_)))))))
    exact ST.again (g2, _, all, i + 1) ⟨rfl, rfl, rfl, rfl, trivial⟩ rfl rfl ⟨hle.trans hle2, lN, hav2, ⟨hal, has⟩, hstr, by dsimp only; rw [hsa, simpAll, if_pos hb]⟩ lN
 ·have hk0 : i = rs0.length := oM
  have hsome : simpAll [] ls = some all := by rw [hsa, hk0, ← hlen0, List.drop_length]; rfl
  obtain ⟨rs, hrs, hall⟩ := hav
  have hav : Lists g1 av all := ⟨rs, hrs, hall⟩
  have hrl := hall.length
  obtain ⟨q, d, rfl⟩ := SlA.form hrs
  refine SC.exit (ST.thenX (ST.thenX (ST.blockX (ST.thenN (SC.seq (SC.region (SL.W (SO.alloc zeroValue27) ?_)))))))
  rintro _ _ _ ⟨b13, rfl, rfl, rfl⟩
  refine SL.nil (ST.thenN (SC.seq (SC.seq (SC.region (SL.A rfl (SL.nil (ST.thenN (SC.block (SC.nilRow 51 3 ?_)))))))))
  refine SC.loop (ι := PH × Value × List Rc × Nat) (fun i => [(2, pp b2 0), (3, .slice q rs.length d), (13, pp b13 0), (14, vi i.2.2.2)]) (fun i => i.1)
   (fun i => rowA encCell 51 i.2.1 i.2.2.1 :: pt b13 (.cells #[i.2.1] 27 (0, 0)) :: pt b2 (.cells #[.slice none 0 0] 27 (0, 0)) :: s)
   (fun i => Le g1 i.1 ∧ i.2.2.2 ≤ rs.length ∧ All2 (CellR i.1) (((simpCells all).take i.2.2.2).map normC) i.2.2.1) (fun i => rs.length - i.2.2.2)
   (g1, .slice none 0 0, [], 0) ⟨rfl, rfl, rfl, rfl, trivial⟩ rfl rfl ⟨Le.refl g1, Nat.zero_le _, trivial⟩ ?_
  rintro ⟨g3, ov, rcs, n⟩ ⟨hle3, hn3, hrcs⟩
  dsimp only at hle3 hn3 hrcs ⊢
  have hrcl := hrcs.length
  rw [List.length_map, List.length_take, simpCells_length] at hrcl
  refine SC.seq (SC.seq (SC.region (SL.M rfl (SL.M rfl (SL.U (SU.lenN underlying22 rfl) (SL.U (SU.lss rfl rfl) (SL.nil (ST.thenN ?_))))))))
  refine SC.ifP rfl (fun hlt2 => ?_) (fun hlt2 => ?_)
  ·have hnl : n < all.length := oM
   have hnr : n < rs.length := oM
   have hb1 := hrs.based oM
   have hR := (hall.get (List.getElem?_eq_getElem hnl) (List.getElem?_eq_getElem hnr)).mono hle3
   have hRl := hR.len
   have hx9 := has _ (List.getElem_mem hnl)
   have hget := simpCells_get hnl
   generalize hx : all[n] = x at *
   generalize hr : rs[n] = r at *
   obtain ⟨rp, rn, rc⟩ := r
   dsimp only at hRl
   subst hRl
   have hxs : Ints g3 (.slice rp x.length rc) x := hR
   have hgr : rs[((n : Nat) : Int).toNat]? = some ⟨rp, x.length, rc⟩ := by rw [← hr]; exact List.getElem?_eq_getElem hnr
   refine SC.skip (ST.thenN (SC.seq (SC.block (SC.seq (SC.region (SL.M rfl (SL.U (SU.add rfl rfl oM) (SL.M rfl (SL.M rfl (SL.U (SU.indexAddr underlying22 sizeOf45 rfl rfl hb1 oM sL) (SL.K (SQ.elem1 (u := .slice rp x.length rc) isAgg45 rfl (hrs.mono hle3).rd hgr rfl) (SL.U (SU.lenN underlying45 rfl) (SL.U (SU.sub rfl rfl oM) (SL.U (SU.build rfl (buildC51 _ _)) (SL.W (SO.alloc zeroValue51) ?_)))))))))))))))
   rintro _ _ _ ⟨b15, rfl, rfl, rfl⟩
   refine SL.on (SO.storeAllK 0 sizeOf51 rfl rfl rfl rfl rfl (by exact ⟨rfl, rfl, rfl, trivial⟩)) ?_
   rintro _ _ _ ⟨rfl, rfl⟩
   refine SL.nil (ST.thenN ?_)
   refine SC.cut (ι := PH × Value) (fun i => [(2, pp b2 0), (3, .slice q rs.length d), (13, pp b13 0), (14, vi n), (15, pp b15 0)]) (fun i => i.1)
    (fun i => rowA encSide 55 i.2 (simpSides all x x.length) :: pt b15 (.cells #[vi ((n : Int) + 1), vi ((x.length : Int) - 1), i.2] 51 (0, 0)) :: rowA encCell 51 ov rcs :: pt b13 (.cells #[ov] 27 (0, 0)) :: pt b2 (.cells #[.slice none 0 0] 27 (0, 0)) :: s)
    (fun i => Le g3 i.1) ?_ ?_
   ·refine SC.seq (SC.nilRow 55 2 (SC.region (SL.A rfl (SL.nil (ST.thenN (SC.block ?_))))))
    refine SC.loop (ι := PH × Value × Nat) (fun i => [(2, pp b2 0), (3, .slice q rs.length d), (13, pp b13 0), (14, vi n), (15, pp b15 0), (16, vi i.2.2)]) (fun i => i.1)
     (fun i => rowA encSide 55 i.2.1 (simpSides all x i.2.2) :: pt b15 (.cells #[vi ((n : Int) + 1), vi ((x.length : Int) - 1), i.2.1] 51 (0, 0)) :: rowA encCell 51 ov rcs :: pt b13 (.cells #[ov] 27 (0, 0)) :: pt b2 (.cells #[.slice none 0 0] 27 (0, 0)) :: s)
     (fun i => Le g3 i.1 ∧ i.2.2 ≤ x.length) (fun i => x.length - i.2.2)
     (g3, .slice none 0 0, 0) ⟨rfl, rfl, rfl, rfl, rfl, rfl, trivial⟩ rfl rfl ⟨Le.refl g3, Nat.zero_le _⟩ ?_
    rintro ⟨g4, sv, j⟩ ⟨hle4, hj⟩
    dsimp only at hle4 hj ⊢
    have hssl := simpSides_length all x j
    have hsucc := simpSides_succ all x j
    have hxs4 : Ints g4 (.slice rp x.length rc) x := hxs.mono hle4
    by_cases hjl : j < x.length
    ·have hjd : ((j : Nat) : Int) < ((x.length : Nat) : Int) := oM
     by_cases hdim : ((x.length : Int) - 1) > 0
     ·have hel : (x.eraseIdx j).length = x.length - 1 := by rw [List.length_eraseIdx]; simp [hjl]
      have hside : sideAt all x j = [⟨lbL all (x.eraseIdx j) + 1, signC j⟩] := by unfold sideAt; rw [if_pos oM]
      have hlb := lbL_le all (x.eraseIdx j)
      rw [hside] at hsucc
      have hcap := (SlA.cap hxs4).2
      have hc1 := SlA.cut hxs4 (l := 0) (m := j) oM oM
      have hc2 := SlA.cut hxs4 (l := j + 1) (m := x.length) oM oM
      have he1 : (x.drop 0).take (j - 0) = x.take j := by simp
      have he2 : (x.drop (j + 1)).take (x.length - (j + 1)) = x.drop (j + 1) := List.take_of_length_le (by rw [List.length_drop]; omega)
      rw [he1] at hc1
      rw [he2] at hc2
      have her : [] ++ x.take j ++ x.drop (j + 1) = x.eraseIdx j := by rw [List.eraseIdx_eq_take_drop_succ]; simp
      have hcl1 : ([] ++ x.take j).length = j := by simp; omega
      refine SC.seq (SC.seq (SC.region (SL.M rfl (SL.M rfl (SL.M rfl (SL.U (SU.indexAddr underlying22 sizeOf45 rfl rfl hb1 oM sL) (SL.K (SQ.elem1 (u := .slice rp x.length rc) isAgg45 rfl (hrs.mono (hle3.trans hle4)).rd hgr rfl) (SL.U (SU.lenN underlying45 rfl) (SL.U (SU.eq (v' := vb true) (SU.lss rfl rfl) (congrArg vb (decide_eq_true hjd))) (SL.M rfl (SL.Y rfl rfl rfl (SU.fieldAddr underlying51 rfl sizeOf3 rfl) (SL.gq (Gd.onT rfl rfl rfl dC) (SQ.load (v := vi ((x.length : Int) - 1)) isAgg3 rfl (CellAt.own 1 rfl rfl)) dC (SL.Y rfl rfl rfl (SU.eq (v' := vb true) (SU.gtr rfl rfl) (congrArg vb (decide_eq_true hdim))) (SL.U (SU.pickT rfl rfl) (SL.nil (ST.thenN (SC.condT rfl (SC.skip (ST.thenN (SC.seq (SC.block (SC.seq ?_))))))))))))))))))))))
      refine SC.draw [15] [(1, 2), (2, 2), (3, 2), (4, 1), (5, 2), (6, 2), (8, 2), (9, 2), (10, 2), (11, 1), (12, 2), (13, 2), (14, 2), (0, 0), (7, 0), (15, 0), (16, 2)] Tryz.mixed (by kernel_rfl) ?_
      refine SP.U (i := 1) rfl (SU.move rfl) (SP.U (i := 2) rfl (SU.move rfl) (SP.U (i := 3) rfl (SU.indexAddr underlying22 sizeOf45 rfl rfl hb1 oM sL) (SP.K (i := 4) rfl (SQ.elem1 (u := .slice rp x.length rc) isAgg45 rfl (hrs.mono (hle3.trans hle4)).rd hgr rfl) (SP.U (i := 5) rfl (SU.move rfl) (SP.U (i := 6) rfl (SU.sliceH underlying45 sizeOf3 rfl rfl oM oM) (SP.U (i := 8) rfl (SU.move rfl) (SP.U (i := 9) rfl (SU.move rfl) (SP.U (i := 10) rfl (SU.indexAddr underlying22 sizeOf45 rfl rfl hb1 oM sL) (SP.K (i := 11) rfl (SQ.elem1 (u := .slice rp x.length rc) isAgg45 rfl (hrs.mono (hle3.trans hle4)).rd hgr rfl) (SP.U (i := 12) rfl (SU.move rfl) (SP.U (i := 13) rfl (SU.add rfl rfl oM) (SP.U (i := 14) rfl (SU.eq (v' := sliced rp (j + 1) x.length rc 1) (SU.sliceL underlying45 sizeOf3 rfl rfl oM oM) (by rw [show ((j : Int) + 1).toNat = j + 1 by omega])) ?_))))))))))))
      refine SP.o (i := 0) rfl (SO.buildSlice sty45 rfl rfl rfl (szs_mk trivial) dC) dC (.inr (by rintro _ _ _ ⟨b116, rfl, rfl, rfl⟩; exact ⟨by exact Le.refl _, (by exact .cons _ (.refl _))⟩)) ?_
      rintro _ _ _ ⟨b116, rfl, rfl, rfl⟩
      refine SP.to (fun w hw => hw.emptyRow 3 1 (some ⟨b116, 0, none⟩)) ?_
      refine SP.o (i := 7) rfl (SO.appA (e := encInt) (l := []) 0 sty45 rfl rfl rfl hc1 (by rw [List.length_take]; (first | with_reducible rfl | ((try dsimp only); (try simp only [List.length_append, List.length_cons, List.length_nil, List.length_singleton, List.length_take, List.length_drop]) <;> omega))) (by rw [List.length_take]; (first | with_reducible rfl | ((try dsimp only); (try simp only [List.length_append, List.length_cons, List.length_nil, List.length_singleton, List.length_take, List.length_drop]) <;> omega)))) dC (.inr (by rintro v123 _ _ ⟨rfl, rfl⟩; exact ⟨by exact Le.refl _, (by exact .cons _ (.cons _ (.refl _)))⟩)) ?_
      rintro v123 _ _ ⟨rfl, rfl⟩
      refine SP.o (i := 15) rfl (SO.appA (e := encInt) 0 sty45 rfl rfl rfl hc2 (by rw [List.length_drop, hcl1]; omega) (by rw [List.length_drop, hcl1]; omega)) dC (.inl dC) ?_
      rintro v131 _ _ ⟨rfl, rfl⟩
      refine SP.U (i := 16) rfl (SU.assign rfl) (SP.nil (ST.thenN (SC.seq (SC.freezeRow fun g6 hle6 hs6 => ?_))))
      have hrest : Ints g6 v131 (x.eraseIdx j) := (by rw [← her]; exact hs6)
      refine SC.drop (s' := rowA encSide 55 sv (simpSides all x j) :: pt b15 (.cells #[vi ((n : Int) + 1), vi ((x.length : Int) - 1), sv] 51 (0, 0)) :: rowA encCell 51 ov rcs :: pt b13 (.cells #[ov] 27 (0, 0)) :: pt b2 (.cells #[.slice none 0 0] 27 (0, 0)) :: s) (.cons _ (.refl _)) (SC.region (SL.M rfl (SL.M rfl (SL.W (SO.call call55 rfl (place_spec E g6 _ _ _ all (x.eraseIdx j) (hav.mono (hle3.trans (hle4.trans hle6))) hrest oM (fun y hy => by have := has y hy; omega) oM hstr.srt)) ?_))))
      rintro _ _ _ ⟨rfl, rfl, rfl⟩
      refine SL.M rfl (SL.U (SU.extract rfl rfl) (SL.U (SU.extract rfl rfl) (SL.A rfl (SL.A rfl (SL.nil (ST.thenN (SC.region (SL.U (SU.fieldAddr underlying51 rfl sizeOf49 rfl) (SL.K (SQ.load (v := sv) isAgg49 rfl (CellAt.own 1 rfl rfl)) (SL.M rfl (SL.U (SU.add rfl rfl oM) (SL.M rfl (SL.U (SU.eq (v' := vi ((j : Int) % 2)) (SU.rem rfl rfl dC) (congrArg vi (tmod_two j))) (SL.U (SU.mul rfl rfl oM) (SL.U (SU.eq (v' := vi (signC j)) (SU.sub rfl rfl oM) rfl) (SL.U (SU.build rfl (buildS55 _ _)) (SL.W (SO.buildSlice sty49 rfl rfl rfl (szs_mk (by exact ⟨rfl, trivial⟩)) dC) ?_)))))))))))))))))
      rintro _ _ _ ⟨b147, rfl, rfl, rfl⟩
      refine SL.W (SO.app1A (e := encSide) 0 ⟨lbL all (x.eraseIdx j) + 1, signC j⟩ sty49 rfl rfl rfl rfl rfl oM oM) ?_
      rintro v148 _ _ ⟨rfl, rfl⟩
      rw [← hsucc]
      refine SL.facts fun ⟨w0, hw0⟩ => ?_
      obtain ⟨q148, d148, rfl⟩ := rowA_form (i := 0) hw0 rfl
      clear hw0 w0
      refine SL.U (SU.fieldAddr underlying51 rfl sizeOf49 rfl) (SL.on (SO.store1 1 sizeOf49 rfl rfl rfl rfl (Nat.le_of_ble_eq_true rfl) (by rfl)) ?_)
      rintro _ _ _ ⟨rfl, rfl⟩
      refine SL.nil (ST.blockN (ST.thenN (SC.region (SL.M rfl (SL.U (SU.add rfl rfl oM) (SL.A rfl (SL.nil ?_)))))))
      exact ST.again (g6, _, j + 1) ⟨rfl, rfl, rfl, rfl, rfl, rfl, trivial⟩ rfl rfl ⟨hle4.trans hle6, lN⟩ lN
     ·have hx1 : x.length = 1 := oM
      have hj0 : j = 0 := oM
      have hempty : simpSides all x x.length = simpSides all x j := by
       rw [hx1, hj0]
       have h0 := simpSides_succ all x 0
       have hs0 : sideAt all x 0 = [] := by
        unfold sideAt
        rw [if_neg]
        rw [List.length_eraseIdx]
        simp [hx1]
       rw [h0, hs0, List.append_nil]
      rw [← hempty]
      refine SC.seq (SC.seq (SC.region (SL.M rfl (SL.M rfl (SL.M rfl (SL.U (SU.indexAddr underlying22 sizeOf45 rfl rfl hb1 oM sL) (SL.K (SQ.elem1 (u := .slice rp x.length rc) isAgg45 rfl (hrs.mono (hle3.trans hle4)).rd hgr rfl) (SL.U (SU.lenN underlying45 rfl) (SL.U (SU.eq (v' := vb true) (SU.lss rfl rfl) (congrArg vb (decide_eq_true hjd))) (SL.M rfl (SL.Y rfl rfl rfl (SU.fieldAddr underlying51 rfl sizeOf3 rfl) (SL.gq (Gd.onT rfl rfl rfl dC) (SQ.load (v := vi ((x.length : Int) - 1)) isAgg3 rfl (CellAt.own 1 rfl rfl)) dC (SL.Y rfl rfl rfl (SU.eq (v' := vb false) (SU.gtr rfl rfl) (congrArg vb (decide_eq_false hdim))) (SL.U (SU.pickT rfl rfl) (SL.nil (ST.thenN (SC.condF rfl (SC.exit (ST.thenX (ST.thenX (ST.blockX ?_)))))))))))))))))))))
      exact ST.mid (g4, sv) ⟨rfl, rfl, rfl, rfl, rfl, trivial⟩ rfl rfl hle4
    ·have hjd : ¬ ((j : Nat) : Int) < ((x.length : Nat) : Int) := oM
     have hjj : j = x.length := oM
     subst hjj
     refine SC.seq (SC.seq (SC.region (SL.M rfl (SL.M rfl (SL.M rfl (SL.U (SU.indexAddr underlying22 sizeOf45 rfl rfl hb1 oM sL) (SL.K (SQ.elem1 (u := .slice rp x.length rc) isAgg45 rfl (hrs.mono (hle3.trans hle4)).rd hgr rfl) (SL.U (SU.lenN underlying45 rfl) (SL.U (SU.eq (v' := vb false) (SU.lss rfl rfl) (congrArg vb (decide_eq_false hjd))) (SL.M rfl (SL.Z rfl rfl rfl (SL.Z rfl rfl rfl (SL.Z rfl rfl rfl (SL.U (SU.pickF rfl rfl) (SL.nil (ST.thenN (SC.condF rfl (SC.exit (ST.thenX (ST.thenX (ST.blockX ?_)))))))))))))))))))))
     exact ST.mid (g4, sv) ⟨rfl, rfl, rfl, rfl, rfl, trivial⟩ rfl rfl hle4
   ·rintro ⟨g4, sv⟩ hle4
    dsimp only at hle4 ⊢
    have hssl := simpSides_length all x x.length
    refine SC.seq (SC.region (SL.freezeRow fun g5 hle5 hs5 => ?_))
    have hsd : SlA encSide g5 sv (simpSides all x x.length) := hs5
    refine SL.U (SU.fieldAddr underlying51 rfl sizeOf49 rfl) (SL.K (SQ.load (v := sv) isAgg49 rfl (CellAt.own 0 rfl rfl)) (SL.W (SO.call call56 rfl (sides_spec E g5 _ _ (simpSides all x x.length) hsd oM)) ?_))
    rintro v152 g6 _ ⟨rfl, hle6, hs6⟩
    obtain ⟨q6, d6, rfl⟩ := SlA.form hs6
    obtain ⟨nc, hnc⟩ : ∃ nc : Rc, nc = ⟨(n : Int) + 1, (x.length : Int) - 1, ⟨q6, (sortBy Side.cell (simpSides all x x.length)).length, d6⟩⟩ := ⟨_, rfl⟩
    refine SL.U (SU.fieldAddr underlying51 rfl sizeOf49 rfl) (SL.on (SO.store1 0 sizeOf49 rfl rfl rfl rfl (Nat.le_of_ble_eq_true rfl) (by rfl)) ?_)
    rintro _ _ _ ⟨rfl, rfl⟩
    refine SL.nil (ST.thenN (SC.region (SL.U (SU.fieldAddr underlying27 rfl sizeOf25 rfl) (SL.K (SQ.load isAgg25 rfl (CellAt.own 2 rfl rfl)) (SL.K (SQ.loadVarK 0 isAgg51 sizeOf51 rfl rfl rfl) (SL.W (SO.buildSlice sty25 rfl rfl rfl (szs_mk (by exact ⟨rfl, trivial⟩)) dC) ?_))))))
    rintro _ _ _ ⟨b157, rfl, rfl, rfl⟩
    refine SL.W (SO.app1A (e := encCell) 1 nc sty25 rfl rfl rfl rfl (by rw [hnc]; rfl) oM oM) ?_
    rintro v158 _ _ ⟨rfl, rfl⟩
    refine SL.facts fun ⟨w0, hw0⟩ => ?_
    obtain ⟨q158, d158, rfl⟩ := rowA_form (i := 1) hw0 rfl
    clear hw0 w0
    refine SL.U (SU.fieldAddr underlying27 rfl sizeOf25 rfl) (SL.on (SO.storeAllK 2 sizeOf25 rfl rfl rfl rfl rfl (by exact ⟨rfl, trivial⟩)) ?_)
    rintro _ _ _ ⟨rfl, rfl⟩
    refine SL.nil (ST.blockN (ST.thenN (SC.region (SL.M rfl (SL.U (SU.add rfl rfl oM) (SL.A rfl (SL.nil (ST.drop (s' := rowA encCell 51 (.slice q158 (rcs ++ [nc]).length d158) (rcs ++ [nc]) :: pt b13 (.cells #[.slice q158 (rcs ++ [nc]).length d158] 27 (0, 0)) :: pt b2 (.cells #[.slice none 0 0] 27 (0, 0)) :: s) (.cons _ (.refl _)) ?_))))))))
    refine ST.again (g6, _, rcs ++ [nc], n + 1) ⟨rfl, rfl, rfl, rfl, trivial⟩ rfl rfl ⟨hle3.trans (hle4.trans (hle5.trans hle6)), lN, ?_⟩ lN
    dsimp only
    rw [take_succ_of hget, List.map_append]
    exact (hrcs.mono fun _ _ => CellR.mono (hle4.trans (hle5.trans hle6))).append ⟨(by rw [hnc]; exact ⟨rfl, rfl, hs6⟩), trivial⟩
  ·have hnn : n = rs.length := oM
   have htk : (simpCells all).take n = simpCells all := List.take_of_length_le (by rw [simpCells_length]; omega)
   rw [htk] at hrcs
   refine SC.exit (ST.thenX (ST.thenX (ST.blockX (ST.thenN (SC.seq (SC.freezeRow fun g4 hle4 hs4 => ?_))))))
   have hov : Cells g4 ov (simpC ls) := (by simp only [simpC, hsome, canon_simp]; exact ⟨rcs, hs4, hrcs.mono fun _ _ => CellR.mono hle4⟩)
   obtain ⟨q9, d9, rfl⟩ := hov.form
   refine SC.region (SL.K (SQ.loadVarK 0 isAgg27 sizeOf27 rfl rfl rfl) (SL.on (SO.storeAllK 1 sizeOf27 rfl rfl rfl rfl rfl (by exact ⟨rfl, trivial⟩)) ?_))
   rintro _ _ _ ⟨rfl, rfl⟩
   refine SL.nil (ST.thenN (SC.ret ?_))
   exact ST.retCD 1 s (.inl rfl) results14 rfl isAgg27 sizeOf27 rfl rfl (.cons _ (.cons _ (.refl _))) ⟨rfl, hle.trans (hle3.trans hle4), _, rfl, hov⟩
end Go.Proofs.YtkdibcicncjpdaaGreat
