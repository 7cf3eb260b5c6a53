/- Set3 Prr SyQ Mad1 Mad2 Mad3 Mad4 Mad5 Spo1 Spo2 Frm Uni1 Uni2 Uni3 Rgt1 Rgt2 Rgt3 Frm2 LawS -/
import Derived.Test.YtkdibcicncjpdaaGreatSi09
import Derived.Test.YtkdibcicncjpdaaGreatSi07
import Derived.Test.YtkdibcicncjpdaaGreatSi06
import Derived.Test.YtkdibcicncjpdaaGreatSi08
import Derived.Test.YtkdibcicncjpdaaGreatRows
import Derived.WalkKit
import Derived.ProofKit
import Derived.OpenShut
import Derived.ShutString
import Derived.ChangeOld
import Derived.Below
import Derived.Deep.Slices
import Derived.Lib.SmallJoins
import Derived.Laws.IdiomArrays
import Derived.Test.YtkdibcicncjpdaaGreatSi05
import Derived.SizedLaws
import Derived.Laws.Small
set_option linter.unusedSimpArgs false
set_option linter.unusedVariables false
namespace Go.Proofs.YtkdibcicncjpdaaGreat
open _root_.Go.Proofs.Tryz _root_.Go.Proofs.YtkdibcicncjpdaaGreat.Tryz
open Go Go.Sy Go.Pl Go.Proofs
set_option maxRecDepth 100000
abbrev StrictL (l : List (List Int)) : Prop := l.Pairwise fun a b => compareC a b < 0
theorem compareC_asymm {a b : List Int} (h : compareC a b < 0) : ¬ compareC b a < 0 := by have := compareC_antisymm a b; omega
theorem StrictL.srt {l : List (List Int)} (h : StrictL l) : SrtL l := h.imp fun h => compareC_asymm h
theorem strictL_unique : ∀ {l m : List (List Int)}, StrictL l → StrictL m → (∀ x, x ∈ l ↔ x ∈ m) → l = m
 | [], [], _, _, _ => rfl
 | [], y :: m, _, _, h => by have := (h y).2 (by simp); simp at this
 | x :: l, [], _, _, h => by have := (h x).1 (by simp); simp at this
 | x :: l, y :: m, hl, hm, h => by
  obtain ⟨h1, h2⟩ := List.pairwise_cons.1 hl
  obtain ⟨h3, h4⟩ := List.pairwise_cons.1 hm
  have hxy : x = y := by
   rcases List.mem_cons.1 ((h x).1 (by simp)) with e | hx
   ·exact e
   ·rcases List.mem_cons.1 ((h y).2 (by simp)) with e | hy
    ·exact e.symm
    ·exact absurd (h1 y hy) (compareC_asymm (h3 x hx))
  subst hxy
  have hself : ¬ compareC x x < 0 := by rw [compareC_self]; decide
  rw [strictL_unique h2 h4 fun z => ?_]
  constructor
  ·intro hz
   rcases List.mem_cons.1 ((h z).1 (by simp [hz])) with e | hz'
   ·subst e; exact absurd (h1 z hz) hself
   ·exact hz'
  ·intro hz
   rcases List.mem_cons.1 ((h z).2 (by simp [hz])) with e | hz'
   ·subst e; exact absurd (h3 z hz) hself
   ·exact hz'
theorem uniqGo_strictL : ∀ {x : List Int} {l : List (List Int)}, SrtL (x :: l) → StrictL (uniqGo eqL x l) ∧ (∀ y ∈ uniqGo eqL x l, compareC x y < 0) ∧ ∀ y, y ∈ l → y = x ∨ y ∈ uniqGo eqL x l
 | x, [], _ => ⟨List.Pairwise.nil, by simp [uniqGo], by simp⟩
 | x, y :: r, h => by
  obtain ⟨h1, h2⟩ := List.pairwise_cons.1 h
  obtain ⟨i1, i2, i3⟩ := uniqGo_strictL h2
  have hxy := h1 y (by simp)
  unfold uniqGo
  by_cases e : y = x
  ·subst e
   simp only [eqL, decide_true, if_true]
   refine ⟨i1, i2, fun z hz => ?_⟩
   rcases List.mem_cons.1 hz with rfl | hz
   ·exact .inl rfl
   ·exact i3 z hz
  ·have hlt : compareC x y < 0 := by
    rcases compareC_cases x y with h | h | h
    ·exact h
    ·exact absurd h.symm e
    ·exact absurd h hxy
   simp only [eqL, e, decide_false]
   refine ⟨List.pairwise_cons.2 ⟨i2, i1⟩, fun z hz => ?_, fun z hz => ?_⟩
   ·rcases List.mem_cons.1 hz with rfl | hz
    ·exact hlt
    ·exact compareC_trans _ _ _ hlt (i2 z hz)
   ·rcases List.mem_cons.1 hz with rfl | hz
    ·exact .inr (by simp)
    ·rcases i3 z hz with rfl | h
     ·exact .inr (by simp)
     ·refine .inr ?_
      simp
      exact .inr h
theorem addSets_strict (all : List (List Int)) (t : List Int) : StrictL (addSets all t) := by
 have hs := sortL_srt (all ++ subsetsC t)
 unfold addSets
 cases h : sortL (all ++ subsetsC t) with
 | nil => exact List.Pairwise.nil
 | cons x r =>
  rw [h] at hs
  obtain ⟨h1, h2, _⟩ := uniqGo_strictL hs
  exact List.pairwise_cons.2 ⟨h2, h1⟩
theorem addSets_iff (all : List (List Int)) (t x : List Int) : x ∈ addSets all t ↔ x ∈ all ∨ x ∈ subsetsC t := by
 refine ⟨addSets_mem, fun h => ?_⟩
 have hs := sortL_srt (all ++ subsetsC t)
 have hm : x ∈ sortL (all ++ subsetsC t) := (sortL_perm _).symm.subset (List.mem_append.2 h)
 unfold addSets
 cases hc : sortL (all ++ subsetsC t) with
 | nil => rw [hc] at hm; simp at hm
 | cons y r =>
  rw [hc] at hs hm
  rcases List.mem_cons.1 hm with rfl | hm
  ·simp [uniq]
  ·rcases (uniqGo_strictL hs).2.2 x hm with rfl | h
   ·simp [uniq]
   ·simp [uniq, h]
theorem lbL_split : ∀ {l : List (List Int)} (t : List Int), SrtL l → (∀ y ∈ l.take (lbL l t), compareC y t < 0) ∧ ∀ y ∈ l.drop (lbL l t), ¬ compareC y t < 0
 | [], t, _ => ⟨by simp, by simp⟩
 | a :: r, t, hs => by
  obtain ⟨h1, h2⟩ := List.pairwise_cons.1 hs
  obtain ⟨i1, i2⟩ := lbL_split t h2
  by_cases ha : compareC a t < 0
  ·have hl : lbL (a :: r) t = lbL r t + 1 := by simp [lbL, ha]
   rw [hl, List.take_succ_cons, List.drop_succ_cons]
   refine ⟨fun y hy => ?_, i2⟩
   rcases List.mem_cons.1 hy with rfl | hy
   ·exact ha
   ·exact i1 y hy
  ·have hall : ∀ y ∈ a :: r, ¬ compareC y t < 0 := fun y hy => by
    rcases List.mem_cons.1 hy with rfl | hy
    ·exact ha
    ·exact compareC_ntrans y a t (h1 y hy) ha
   have hz : lbL (a :: r) t = 0 := by
    unfold lbL
    rw [List.length_eq_zero_iff, List.filter_eq_nil_iff]
    intro y hy
    simpa using hall y hy
   rw [hz]
   exact ⟨by simp, by simpa using hall⟩
theorem insL_strict {l : List (List Int)} {t : List Int} (hs : StrictL l) (hn : l.contains t = false) : StrictL (l.take (lbL l t) ++ t :: l.drop (lbL l t)) := by
 obtain ⟨h1, h2⟩ := lbL_split t hs.srt
 have hs' : StrictL (l.take (lbL l t) ++ l.drop (lbL l t)) := by rw [List.take_append_drop]; exact hs
 have h3 := List.pairwise_append.1 hs'
 refine List.pairwise_append.2 ⟨h3.1, List.pairwise_cons.2 ⟨fun y hy => ?_, h3.2.1⟩, fun y hy z hz => ?_⟩
 ·rcases compareC_cases t y with h | h | h
  ·exact h
  ·have : l.contains t = true := by rw [h]; simpa using List.mem_of_mem_drop hy
   rw [hn] at this; cases this
  ·exact absurd h (h2 y hy)
 ·rcases List.mem_cons.1 hz with rfl | hz
  ·exact h1 y hy
  ·exact h3.2.2 y hy z hz
theorem simp_srt (all : List (List Int)) : Srt Cl.id (simpCells all) := by
 unfold Srt
 rw [List.pairwise_iff_getElem]
 intro i j hi hj hij
 simp [simpCells, simpCell]
 omega
theorem canon_simp (all : List (List Int)) : canonC (simpCells all) = (simpCells all).map normC := by
 unfold canonC
 rw [← eq_sortBy (simp_srt all) (Stab.refl _)]
theorem tmod_two (k : Nat) : ((k : Nat) : Int).tmod 2 = ((k : Nat) : Int) % 2 := Int.tmod_eq_emod_of_nonneg oM
theorem refSimplicial_spec (E : World) (g : PH) (s : Own) (v : Value) (ls : List (List Int)) (hv : Lists g v ls) (hn : ls.length < 1099511627776) (hl : ∀ x ∈ ls, x.length < 17592186044416) :
  Ctr Tryz.prog E 14 #[v] g s (fun r g' s' => s = s' ∧ Le g g' ∧ ∃ u, r = .agg #[u] ∧ Cells g' u (simpC ls)) := by
 obtain ⟨rs0, hrs0, hall0⟩ := hv
 have hlen0 := hall0.length
 obtain ⟨p, c, rfl⟩ := SlA.form hrs0
 refine Ctr.of (args := [.slice p rs0.length c]) func14 rfl ntmps14 (Nat.le_of_ble_eq_true rfl) ?_
 refine SC.seq (SC.region (SL.W (SO.alloc zeroValue27) ?_))
 rintro _ _ _ ⟨b2, rfl, rfl, rfl⟩
 refine SL.nil (ST.thenN (SC.seq (SC.region (SL.A rfl (SL.nil (ST.thenN (SC.seq (SC.seq (SC.region (SL.A rfl (SL.nil (ST.thenN (SC.block ?_)))))))))))))
 refine SC.loop (ι := PH × Value × List (List Int) × Nat) (fun i => [(0, .slice p rs0.length c), (2, pp b2 0), (3, i.2.1), (4, vi i.2.2.2)]) (fun i => i.1)
  (fun _ => pt b2 (.cells #[.slice none 0 0] 27 (0, 0)) :: s)
  (fun i => Le g i.1 ∧ i.2.2.2 ≤ rs0.length ∧ Lists i.1 i.2.1 i.2.2.1 ∧ (i.2.2.1.length ≤ 4000 ∧ ∀ x ∈ i.2.2.1, x.length ≤ 9) ∧ StrictL i.2.2.1 ∧ simpAll [] ls = simpAll i.2.2.1 (ls.drop i.2.2.2)) (fun i => rs0.length - i.2.2.2)
  (g, .slice none 0 0, [], 0) ⟨rfl, rfl, rfl, rfl, trivial⟩ rfl rfl ⟨Le.refl g, Nat.zero_le _, ⟨[], Sl.nil g _, trivial⟩, ⟨Nat.zero_le _, by simp⟩, List.Pairwise.nil, rfl⟩ ?_
 rintro ⟨g1, av, all, i⟩ ⟨hle, hi, hav, ⟨hal, has⟩, hstr, hsa⟩
 dsimp only at hle hi hav hal has hstr hsa ⊢
 refine SC.seq (SC.seq (SC.region (SL.M rfl (SL.M rfl (SL.U (SU.lenN underlying22 rfl) (SL.U (SU.lss rfl rfl) (SL.nil (ST.thenN ?_))))))))
 refine SC.ifP rfl (fun hlt => ?_) (fun hlt => ?_)
 ·have hkl : i < ls.length := oM
  have hkr : i < rs0.length := oM
  have hR := (hall0.get (List.getElem?_eq_getElem hkl) (List.getElem?_eq_getElem hkr)).mono hle
  have hxl := hl _ (List.getElem_mem hkl)
  have hb1 := hrs0.based oM
  have hdrop : ls.drop i = ls[i] :: ls.drop (i + 1) := List.drop_eq_getElem_cons hkl
  rw [hdrop] at hsa
  generalize hx : ls[i] = x at *
  generalize hr : rs0[i] = r at *
  have hgr : rs0[((i : Nat) : Int).toNat]? = some r := by rw [← hr]; exact List.getElem?_eq_getElem hkr
  refine SC.skip (ST.thenN (SC.seq (SC.block (SC.seq (SC.region (SL.M rfl (SL.M rfl (SL.U (SU.indexAddr underlying22 sizeOf45 rfl rfl hb1 oM sL) (SL.K (SQ.elem1 isAgg45 rfl (hrs0.mono hle).rd hgr rfl) (SL.W (SO.call call54 rfl (set_spec E g1 _ _ x hR hxl)) ?_))))))))))
  rintro v31 g2 _ ⟨rfl, hle2, hset⟩
  have hav2 := hav.mono hle2
  rcases hset with ⟨hok, u, rfl, hu⟩ | ⟨hok, rfl⟩
  ·obtain ⟨hs9, hsb⟩ := okS_good hok
   obtain ⟨q, d, rfl⟩ := SlA.form hu
   have hpow := pow_le (setC x).length hs9
   refine SL.M rfl (SL.U (SU.extract rfl rfl) (SL.U (SU.extract rfl rfl) (SL.A rfl (SL.A rfl (SL.nil (ST.thenN ?_))))))
   refine SC.cut (ι := PH × Value × List (List Int)) (fun j => [(0, .slice p rs0.length c), (2, pp b2 0), (3, j.2.1), (4, vi i)]) (fun j => j.1) (fun _ => pt b2 (.cells #[.slice none 0 0] 27 (0, 0)) :: s)
    (fun j => Le g j.1 ∧ Lists j.1 j.2.1 j.2.2 ∧ StrictL j.2.2 ∧ (∀ y, y ∈ j.2.2 ↔ y ∈ all ∨ y ∈ subsetsC (setC x)) ∧ j.2.2.length ≤ 4600) ?_ ?_
   ·refine SC.seq (SC.region (SL.A rfl (SL.nil (ST.thenN (SC.block ?_)))))
    refine SC.loop (ι := PH × Value × List (List Int) × Nat) (fun j => [(0, .slice p rs0.length c), (2, pp b2 0), (3, j.2.1), (4, vi i), (5, .slice q (setC x).length d), (6, vb true), (7, vi (j.2.2.2 + 1 : Nat))]) (fun j => j.1) (fun _ => pt b2 (.cells #[.slice none 0 0] 27 (0, 0)) :: s)
     (fun j => Le g2 j.1 ∧ j.2.2.2 + 1 ≤ 2 ^ (setC x).length ∧ Lists j.1 j.2.1 j.2.2.1 ∧ StrictL j.2.2.1 ∧ (∀ y, y ∈ j.2.2.1 ↔ y ∈ all ∨ y ∈ (List.range j.2.2.2).map fun m => pickB (m + 1) (setC x)) ∧ j.2.2.1.length ≤ 4000 + j.2.2.2) (fun j => 2 ^ (setC x).length - j.2.2.2)
     (g2, av, all, 0) ⟨rfl, rfl, rfl, rfl, rfl, rfl, rfl, trivial⟩ rfl rfl ⟨Le.refl g2, Nat.one_le_two_pow, hav2, hstr, by simp, lN⟩ ?_
    rintro ⟨g3, bv, al, b⟩ ⟨hle3, hb, hbv, hbs, hbm, hbl⟩
    dsimp only at hle3 hb hbv hbs hbm hbl ⊢
    have hals : ∀ y ∈ al, y.length ≤ 9 := fun y hy => by
     rcases (hbm y).1 hy with h | h
     ·exact has y h
     ·obtain ⟨m, _, rfl⟩ := List.mem_map.1 h
      exact Nat.le_trans (pickB_length _ _) hs9
    refine SC.seq (SC.seq (SC.region (SL.M rfl (SL.M rfl (SL.Y rfl rfl rfl (SU.move rfl) (SL.Y rfl rfl rfl (SU.move rfl) (SL.Y rfl rfl rfl (SU.lenN underlying45 rfl) (SL.Y rfl rfl rfl (SU.eq (v' := vi ((2 ^ (setC x).length : Nat) : Int)) (SU.shl rfl rfl oM) (congrArg vi (shl_one (setC x).length oM))) (SL.Y rfl rfl rfl (SU.lss rfl rfl) (SL.U (SU.pickT rfl rfl) (SL.nil (ST.thenN ?_))))))))))))
    refine SC.ifP rfl (fun hlt2 => ?_) (fun hlt2 => ?_)
    ·have hbl2 : b + 1 < 2 ^ (setC x).length := oM
     refine SC.skip (ST.thenN (SC.seq (SC.block (SC.seq (SC.region (SL.A rfl (SL.nil (ST.thenN (SC.seq (SC.seq (SC.nilRow 3 1 (SC.region (SL.A rfl (SL.nil (ST.thenN (SC.block ?_))))))))))))))))
     refine SC.loop (ι := Value × Nat) (fun k => [(0, .slice p rs0.length c), (2, pp b2 0), (3, bv), (4, vi i), (5, .slice q (setC x).length d), (6, vb true), (7, vi (b + 1 : Nat)), (8, k.1), (9, vi k.2)]) (fun _ => g3)
      (fun k => rowA encInt 3 k.1 (pickB (b + 1) ((setC x).take k.2)) :: pt b2 (.cells #[.slice none 0 0] 27 (0, 0)) :: s) (fun k => k.2 ≤ (setC x).length) (fun k => (setC x).length - k.2) (.slice none 0 0, 0)
      ⟨rfl, rfl, rfl, rfl, rfl, rfl, rfl, rfl, rfl, trivial⟩ rfl rfl (Nat.zero_le _) ?_
     rintro ⟨cv, k⟩ hk
     dsimp only at hk ⊢
     have hpl := pickB_length (b + 1) ((setC x).take k)
     rw [List.length_take] at hpl
     refine SC.seq (SC.seq (SC.region (SL.M rfl (SL.M rfl (SL.U (SU.lenN underlying45 rfl) (SL.U (SU.lss rfl rfl) (SL.nil (ST.thenN ?_))))))))
     refine SC.ifP rfl (fun hlt3 => ?_) (fun hlt3 => ?_)
     ·have hkl : k < (setC x).length := oM
      have hbu := SlA.based (hu.mono hle3) oM
      have hsucc := pickB_succ (bits := b + 1) hkl
      refine SC.skip (ST.thenN (SC.seq (SC.block (SC.seq (SC.region (SL.M rfl (SL.M rfl (SL.U (SU.shr rfl rfl oM) (SL.U (SU.eq (v' := vi (((b + 1) / 2 ^ k % 2 : Nat) : Int)) (SU.and rfl rfl) (congrArg vi ((and_one _).trans (shr_bit (b + 1) k oM)))) (SL.U (SU.eql rfl rfl) (SL.nil (ST.thenN ?_))))))))))))
      refine SC.ifP rfl (fun hbit => ?_) (fun hbit => ?_)
      ·refine SC.region (SL.M rfl (SL.M rfl (SL.M rfl (SL.U (SU.indexAddr underlying45 sizeOf3 rfl rfl hbu oM sL) ?_))))
       refine SL.q (SQ.elem1 isAgg3 rfl (SlA.rd (hu.mono hle3)) (List.getElem?_eq_getElem hkl) rfl) dC ?_
       refine SL.W (SO.buildSlice sty45 rfl rfl rfl (szs_mk (by exact ⟨rfl, trivial⟩)) dC) ?_
       rintro _ _ _ ⟨b60, rfl, rfl, rfl⟩
       refine SL.W (SO.app1A (e := encInt) 0 (setC x)[k] sty45 rfl rfl rfl rfl rfl oM oM) ?_
       rintro cv' _ _ ⟨rfl, rfl⟩
       refine SL.A rfl (SL.nil (ST.blockN (ST.thenN (SC.region (SL.M rfl (SL.U (SU.add rfl rfl oM) (SL.A rfl (SL.nil ?_))))))))
       refine ST.to (fun w hw => ?_) (g' := g3) (s' := rowA encInt 3 cv' (pickB (b + 1) ((setC x).take (k + 1))) :: pt b2 (.cells #[.slice none 0 0] 27 (0, 0)) :: s) ?_
       ·rw [hsucc, if_pos oM]; exact hw
       exact ST.again (cv', k + 1) ⟨rfl, rfl, rfl, rfl, rfl, rfl, rfl, rfl, rfl, trivial⟩ rfl rfl lN lN
      ·refine SC.skip (ST.blockN (ST.thenN (SC.region (SL.M rfl (SL.U (SU.add rfl rfl oM) (SL.A rfl (SL.nil ?_)))))))
       refine ST.to (fun w hw => ?_) (g' := g3) (s' := rowA encInt 3 cv (pickB (b + 1) ((setC x).take (k + 1))) :: pt b2 (.cells #[.slice none 0 0] 27 (0, 0)) :: s) ?_
       ·rw [hsucc, if_neg oM]; exact hw
       exact ST.again (cv, k + 1) ⟨rfl, rfl, rfl, rfl, rfl, rfl, rfl, rfl, rfl, trivial⟩ rfl rfl lN lN
     ·have hkk : (setC x).take k = setC x := List.take_of_length_le oM
      have htl := pickB_length (b + 1) (setC x)
      have hmem2 : ∀ nw : List (List Int), (∀ y, y ∈ nw ↔ y = pickB (b + 1) (setC x) ∨ y ∈ al) → ∀ y, y ∈ nw ↔ y ∈ all ∨ y ∈ (List.range (b + 1)).map fun m => pickB (m + 1) (setC x) := fun nw h y => by
       rw [h, hbm, List.range_succ, List.map_append, List.mem_append]
       simp
       constructor
       ·rintro (h | h | h)
        ·exact .inr (.inr h)
        ·exact .inl h
        ·exact .inr (.inl h)
       ·rintro (h | h | h)
        ·exact .inr (.inl h)
        ·exact .inr (.inr h)
        ·exact .inl h
      generalize hpk : pickB (b + 1) (setC x) = t at *
      refine SC.exit (ST.thenX (ST.thenX (ST.blockX (ST.thenN (SC.seq (SC.freezeRow fun g4 hle4 hs4 => ?_))))))
      rw [hkk, hpk] at hs4
      have ht : Ints g4 cv t := hs4
      have hbv4 := hbv.mono hle4
      refine SC.region (SL.M rfl (SL.M rfl (SL.W (SO.call call55 rfl (place_spec E g4 _ _ _ al t hbv4 ht oM (fun y hy => by have := hals y hy; omega) oM hbs.srt)) ?_)))
      rintro _ _ _ ⟨rfl, rfl, rfl⟩
      refine SL.M rfl (SL.U (SU.extract rfl rfl) (SL.U (SU.extract rfl rfl) (SL.A rfl (SL.A rfl (SL.nil (ST.thenN (SC.seq (SC.region (SL.M rfl (SL.U (SU.not rfl) (SL.nil (ST.thenN ?_))))))))))))
      refine SC.ifB rfl (fun hthere => ?_) (fun hthere => ?_)
      ·have hth : al.contains t = false := by simpa using hthere
       have hlb := lbL_le al t
       obtain ⟨ra, hra, halr⟩ := hbv4
       have hral := halr.length
       obtain ⟨qa, da, rfl⟩ := SlA.form hra
       have hcapa := (SlA.cap hra).2
       obtain ⟨qt, dt, rfl⟩ := SlA.form ht
       have hca := SlA.cut hra (l := lbL al t) (m := ra.length) oM (Nat.le_refl _)
       have hcb := SlA.cut hra (l := 0) (m := lbL al t) (Nat.zero_le _) oM
       rw [List.take_of_length_le (by rw [List.length_drop]; exact Nat.le_refl _)] at hca
       rw [List.drop_zero, Nat.sub_zero] at hcb
       refine SC.seq (SC.region (SL.M rfl (SL.W (SO.buildSlice sty22 rfl rfl rfl (szs_mk ⟨rfl, trivial⟩) dC) ?_)))
       rintro _ _ _ ⟨b71, rfl, rfl, rfl⟩
       refine SL.to (fun w hw => At.litRow (e := encSv) (l := [⟨qt, t.length, dt⟩]) (n := 0) hw rfl rfl dC) ?_
       refine SL.M rfl (SL.M rfl (SL.U (SU.sliceL underlying22 sizeOf45 rfl rfl oM oM) (SL.W (SO.appA (e := encSv) 0 sty22 rfl rfl rfl hca (by rw [List.length_drop]; (first | with_reducible rfl | ((try dsimp only); (try simp only [List.length_append, List.length_cons, List.length_nil, List.length_singleton, List.length_take, List.length_drop]) <;> omega))) (by rw [List.length_drop]; (first | with_reducible rfl | ((try dsimp only); (try simp only [List.length_append, List.length_cons, List.length_nil, List.length_singleton, List.length_take, List.length_drop]) <;> omega)))) ?_)))
       rintro v75 _ _ ⟨rfl, rfl⟩
       refine SL.A rfl (SL.nil (ST.thenN (SC.freezeRow fun g5 hle5 hs5 => ?_)))
       have hrest : SlA encSv g5 v75 ([⟨qt, t.length, dt⟩] ++ ra.drop (lbL al t)) := hs5
       refine SC.region (SL.W (SO.buildSlice sty22 rfl rfl rfl (szs_mk trivial) dC) ?_)
       rintro _ _ _ ⟨b76, rfl, rfl, rfl⟩
       refine SL.emptyRow 45 1 (some ⟨b76, 0, none⟩) (SL.M rfl (SL.M rfl (SL.U (SU.sliceH underlying22 sizeOf45 rfl rfl oM oM) (SL.W (SO.appA (e := encSv) (l := []) 0 sty22 rfl rfl rfl (hcb.mono hle5) (by rw [List.length_take]; (first | with_reducible rfl | ((try dsimp only); (try simp only [List.length_append, List.length_cons, List.length_nil, List.length_singleton, List.length_take, List.length_drop]) <;> omega))) (by rw [List.length_take]; (first | with_reducible rfl | ((try dsimp only); (try simp only [List.length_append, List.length_cons, List.length_nil, List.length_singleton, List.length_take, List.length_drop]) <;> omega)))) ?_))))
       rintro v80 _ _ ⟨rfl, rfl⟩
       refine SL.M rfl (SL.W (SO.appA (e := encSv) 0 sty22 rfl rfl rfl hrest lN lN) ?_)
       rintro v82 _ _ ⟨rfl, rfl⟩
       refine SL.A rfl (SL.nil (ST.blockN (ST.thenN (SC.region (SL.M rfl (SL.U (SU.add rfl rfl oM) (SL.A rfl (SL.nil (ST.freezeRow fun g6 hle6 hs6 => ?_)))))))))
       refine ST.drop (s' := pt b2 (.cells #[.slice none 0 0] 27 (0, 0)) :: s) (.cons _ (.refl _)) ?_
       have hres : Lists g6 v82 (al.take (lbL al t) ++ t :: al.drop (lbL al t)) := by
        refine ⟨ra.take (lbL al t) ++ ⟨qt, t.length, dt⟩ :: ra.drop (lbL al t), ?_, ?_⟩
        ·have h : SlA encSv g6 v82 ([] ++ ra.take (lbL al t) ++ ([⟨qt, t.length, dt⟩] ++ ra.drop (lbL al t))) := hs6
         simpa using h
        ·exact ((All2.take _ halr).mono fun _ _ => ListR.mono (hle5.trans hle6)).append ⟨ht.mono (hle5.trans hle6), (All2.drop _ halr).mono fun _ _ => ListR.mono (hle5.trans hle6)⟩
       exact ST.again (g6, v82, al.take (lbL al t) ++ t :: al.drop (lbL al t), b + 1) ⟨rfl, rfl, rfl, rfl, rfl, rfl, vi_eq (by simp), trivial⟩ rfl rfl ⟨hle3.trans (hle4.trans (hle5.trans hle6)), hbl2, hres, insL_strict hbs hth, hmem2 _ (fun y => mem_ins), lN⟩ lN
      ·have hth : t ∈ al := by simpa using hthere
       refine SC.skip (ST.blockN (ST.thenN (SC.region (SL.M rfl (SL.U (SU.add rfl rfl oM) (SL.A rfl (SL.nil ?_)))))))
       exact ST.again (g4, bv, al, b + 1) ⟨rfl, rfl, rfl, rfl, rfl, rfl, vi_eq (by simp), trivial⟩ rfl rfl ⟨hle3.trans hle4, hbl2, hbv4, hbs, hmem2 _ (fun y => ⟨.inr, fun h => h.elim (fun e => by rw [e]; exact hth) id⟩), lN⟩ lN
    ·have hbb : b = 2 ^ (setC x).length - 1 := oM
     refine SC.exit (ST.thenX (ST.thenX (ST.blockX ?_)))
     exact ST.mid (g3, bv, al) ⟨rfl, rfl, rfl, rfl, trivial⟩ rfl rfl ⟨hle.trans (hle2.trans hle3), hbv, hbs, fun y => by dsimp only; rw [hbm]; unfold subsetsC; rw [hbb], lN⟩
   ·rintro ⟨g3, bv, al⟩ ⟨hle3, hbv, hbs, hbm, hbl⟩
    dsimp only at hle3 hbv hbs hbm hbl ⊢
    have hals : ∀ y ∈ al, y.length ≤ 9 := fun y hy => by
     rcases (hbm y).1 hy with h | h
     ·exact has y h
     ·exact subsetsC_short hs9 y h
    have key : ((al.length : Int) > 4000 → simpAll [] ls = none) ∧ (¬ (al.length : Int) > 4000 → simpAll [] ls = simpAll al (ls.drop (i + 1))) := by
     by_cases hb : badSet (setC x) = true
     ·have he := hsb hb
      have hal2 : al = all := strictL_unique hbs hstr fun y => by rw [hbm, he]; simp [subsetsC]
      refine ⟨fun h => by rw [hal2] at h; omega, fun _ => by rw [hsa, simpAll, if_pos hb, hal2]⟩
     ·have hal2 : al = addSets all (setC x) := strictL_unique hbs (addSets_strict _ _) fun y => by rw [hbm, addSets_iff]
      refine ⟨fun h => by rw [hsa, simpAll, if_neg hb, if_pos (by rw [← hal2]; exact h)], fun h => by rw [hsa, simpAll, if_neg hb, if_neg (by rw [← hal2]; exact h), ← hal2]⟩
    obtain ⟨ra, hra, halr⟩ := hbv
    have hbv : Lists g3 bv al := ⟨ra, hra, halr⟩
    have hral := halr.length
    obtain ⟨qa, da, rfl⟩ := SlA.form hra
    refine SC.seq (SC.region (SL.M rfl (SL.U (SU.lenN underlying22 rfl) (SL.U (SU.gtr rfl rfl) (SL.nil (ST.thenN ?_))))))
    refine SC.ifP rfl (fun hmany => ?_) (fun hmany => ?_)
    ·refine SC.seq (SC.region (SL.U (SU.build rfl (buildE27)) (SL.on (SO.storeAllK 0 sizeOf27 rfl rfl rfl rfl rfl (by exact ⟨rfl, trivial⟩)) ?_)))
     rintro _ _ _ ⟨rfl, rfl⟩
     refine SL.nil (ST.thenN (SC.ret (ST.blockR (ST.thenR (ST.thenR (ST.blockR (ST.thenR ?_)))))))
     exact ST.retCD 0 s (.inl rfl) results14 rfl isAgg27 sizeOf27 rfl rfl (.cons _ (.refl _)) ⟨rfl, hle3, _, rfl, by simp only [simpC, key.1 oM]; exact ⟨[], Sl.nil _ _, trivial⟩⟩
    ·refine SC.skip (ST.blockN (ST.thenN (SC.region (SL.M rfl (SL.U (SU.add rfl rfl oM) (SL.A rfl (SL.nil ?_)))))))
     exact ST.again (g3, _, al, i + 1) ⟨rfl, rfl, rfl, rfl, trivial⟩ rfl rfl ⟨hle3, lN, hbv, ⟨lN, hals⟩, hbs, key.2 oM⟩ lN
  ·have hb := okS_bad hok
   obtain ⟨ra, hra, halr⟩ := hav2
   have hav2 : Lists g2 av all := ⟨ra, hra, halr⟩
   have hral := halr.length
   obtain ⟨qa, da, rfl⟩ := SlA.form hra
   refine SL.M rfl (SL.U (SU.extract rfl rfl) (SL.U (SU.extract rfl rfl) (SL.A rfl (SL.A rfl (SL.nil (ST.thenN (SC.seq (SC.seq (SC.region (SL.A rfl (SL.nil (ST.thenN (SC.block ?_)))))))))))))
   refine SC.loop (ι := Unit) (fun _ => [(0, .slice p rs0.length c), (2, pp b2 0), (3, .slice qa ra.length da), (4, vi i), (5, .slice none 0 0), (6, vb false), (7, vi 1)]) (fun _ => g2) (fun _ => pt b2 (.cells #[.slice none 0 0] 27 (0, 0)) :: s) (fun _ => True) (fun _ => 0) () ⟨rfl, rfl, rfl, rfl, rfl, rfl, rfl, trivial⟩ rfl rfl trivial ?_
   rintro ⟨⟩ -
   refine SC.seq (SC.seq (SC.region (SL.M rfl (SL.M rfl (SL.Z rfl rfl rfl (SL.Z rfl rfl rfl (SL.Z rfl rfl rfl (SL.Z rfl rfl rfl (SL.Z rfl rfl rfl (SL.U (SU.pickF rfl rfl) (SL.nil (ST.thenN (SC.condF rfl (SC.exit (ST.thenX (ST.thenX (ST.blockX (ST.thenN (SC.seq (SC.region (SL.M rfl (SL.U (SU.lenN underlying22 rfl) (SL.U (SU.gtr rfl rfl) (SL.nil (ST.thenN ?_)))))))))))))))))))))))))
   refine SC.ifP rfl (fun hmany => ?_) (fun hmany => ?_)
   ·exfalso
    omega
   ·refine SC.skip (ST.blockN (ST.thenN (SC.region (SL.M rfl (SL.U (SU.add rfl rfl oM) (SL.A rfl (SL.nil ?_)))))))
    exact ST.again (g2, _, all, i + 1) ⟨rfl, rfl, rfl, rfl, trivial⟩ rfl rfl ⟨hle.trans hle2, lN, hav2, ⟨hal, has⟩, hstr, by dsimp only; rw [hsa, simpAll, if_pos hb]⟩ lN
 ·have hk0 : i = rs0.length := oM
  have hsome : simpAll [] ls = some all := by rw [hsa, hk0, ← hlen0, List.drop_length]; rfl
  obtain ⟨rs, hrs, hall⟩ := hav
  have hav : Lists g1 av all := ⟨rs, hrs, hall⟩
  have hrl := hall.length
  obtain ⟨q, d, rfl⟩ := SlA.form hrs
  refine SC.exit (ST.thenX (ST.thenX (ST.blockX (ST.thenN (SC.seq (SC.region (SL.W (SO.alloc zeroValue27) ?_)))))))
  rintro _ _ _ ⟨b13, rfl, rfl, rfl⟩
  refine SL.nil (ST.thenN (SC.seq (SC.seq (SC.region (SL.A rfl (SL.nil (ST.thenN (SC.block (SC.nilRow 51 3 ?_)))))))))
  refine SC.loop (ι := PH × Value × List Rc × Nat) (fun i => [(2, pp b2 0), (3, .slice q rs.length d), (13, pp b13 0), (14, vi i.2.2.2)]) (fun i => i.1)
   (fun i => rowA encCell 51 i.2.1 i.2.2.1 :: pt b13 (.cells #[i.2.1] 27 (0, 0)) :: pt b2 (.cells #[.slice none 0 0] 27 (0, 0)) :: s)
   (fun i => Le g1 i.1 ∧ i.2.2.2 ≤ rs.length ∧ All2 (CellR i.1) (((simpCells all).take i.2.2.2).map normC) i.2.2.1) (fun i => rs.length - i.2.2.2)
   (g1, .slice none 0 0, [], 0) ⟨rfl, rfl, rfl, rfl, trivial⟩ rfl rfl ⟨Le.refl g1, Nat.zero_le _, trivial⟩ ?_
  rintro ⟨g3, ov, rcs, n⟩ ⟨hle3, hn3, hrcs⟩
  dsimp only at hle3 hn3 hrcs ⊢
  have hrcl := hrcs.length
  rw [List.length_map, List.length_take, simpCells_length] at hrcl
  refine SC.seq (SC.seq (SC.region (SL.M rfl (SL.M rfl (SL.U (SU.lenN underlying22 rfl) (SL.U (SU.lss rfl rfl) (SL.nil (ST.thenN ?_))))))))
  refine SC.ifP rfl (fun hlt2 => ?_) (fun hlt2 => ?_)
  ·have hnl : n < all.length := oM
   have hnr : n < rs.length := oM
   have hb1 := hrs.based oM
   have hR := (hall.get (List.getElem?_eq_getElem hnl) (List.getElem?_eq_getElem hnr)).mono hle3
   have hRl := hR.len
   have hx9 := has _ (List.getElem_mem hnl)
   have hget := simpCells_get hnl
   generalize hx : all[n] = x at *
   generalize hr : rs[n] = r at *
   obtain ⟨rp, rn, rc⟩ := r
   dsimp only at hRl
   subst hRl
   have hxs : Ints g3 (.slice rp x.length rc) x := hR
   have hgr : rs[((n : Nat) : Int).toNat]? = some ⟨rp, x.length, rc⟩ := by rw [← hr]; exact List.getElem?_eq_getElem hnr
   refine SC.skip (ST.thenN (SC.seq (SC.block (SC.seq (SC.region (SL.M rfl (SL.U (SU.add rfl rfl oM) (SL.M rfl (SL.M rfl (SL.U (SU.indexAddr underlying22 sizeOf45 rfl rfl hb1 oM sL) (SL.K (SQ.elem1 (u := .slice rp x.length rc) isAgg45 rfl (hrs.mono hle3).rd hgr rfl) (SL.U (SU.lenN underlying45 rfl) (SL.U (SU.sub rfl rfl oM) (SL.U (SU.build rfl (buildC51 _ _)) (SL.W (SO.alloc zeroValue51) ?_)))))))))))))))
   rintro _ _ _ ⟨b15, rfl, rfl, rfl⟩
   refine SL.on (SO.storeAllK 0 sizeOf51 rfl rfl rfl rfl rfl (by exact ⟨rfl, rfl, rfl, trivial⟩)) ?_
   rintro _ _ _ ⟨rfl, rfl⟩
   refine SL.nil (ST.thenN ?_)
   refine SC.cut (ι := PH × Value) (fun i => [(2, pp b2 0), (3, .slice q rs.length d), (13, pp b13 0), (14, vi n), (15, pp b15 0)]) (fun i => i.1)
    (fun i => rowA encSide 55 i.2 (simpSides all x x.length) :: pt b15 (.cells #[vi ((n : Int) + 1), vi ((x.length : Int) - 1), i.2] 51 (0, 0)) :: rowA encCell 51 ov rcs :: pt b13 (.cells #[ov] 27 (0, 0)) :: pt b2 (.cells #[.slice none 0 0] 27 (0, 0)) :: s)
    (fun i => Le g3 i.1) ?_ ?_
   ·refine SC.seq (SC.nilRow 55 2 (SC.region (SL.A rfl (SL.nil (ST.thenN (SC.block ?_))))))
    refine SC.loop (ι := PH × Value × Nat) (fun i => [(2, pp b2 0), (3, .slice q rs.length d), (13, pp b13 0), (14, vi n), (15, pp b15 0), (16, vi i.2.2)]) (fun i => i.1)
     (fun i => rowA encSide 55 i.2.1 (simpSides all x i.2.2) :: pt b15 (.cells #[vi ((n : Int) + 1), vi ((x.length : Int) - 1), i.2.1] 51 (0, 0)) :: rowA encCell 51 ov rcs :: pt b13 (.cells #[ov] 27 (0, 0)) :: pt b2 (.cells #[.slice none 0 0] 27 (0, 0)) :: s)
     (fun i => Le g3 i.1 ∧ i.2.2 ≤ x.length) (fun i => x.length - i.2.2)
     (g3, .slice none 0 0, 0) ⟨rfl, rfl, rfl, rfl, rfl, rfl, trivial⟩ rfl rfl ⟨Le.refl g3, Nat.zero_le _⟩ ?_
    rintro ⟨g4, sv, j⟩ ⟨hle4, hj⟩
    dsimp only at hle4 hj ⊢
    have hssl := simpSides_length all x j
    have hsucc := simpSides_succ all x j
    have hxs4 : Ints g4 (.slice rp x.length rc) x := hxs.mono hle4
    by_cases hjl : j < x.length
    ·have hjd : ((j : Nat) : Int) < ((x.length : Nat) : Int) := oM
     by_cases hdim : ((x.length : Int) - 1) > 0
     ·have hel : (x.eraseIdx j).length = x.length - 1 := by rw [List.length_eraseIdx]; simp [hjl]
      have hside : sideAt all x j = [⟨lbL all (x.eraseIdx j) + 1, signC j⟩] := by unfold sideAt; rw [if_pos oM]
      have hlb := lbL_le all (x.eraseIdx j)
      rw [hside] at hsucc
      have hcap := (SlA.cap hxs4).2
      have hc1 := SlA.cut hxs4 (l := 0) (m := j) oM oM
      have hc2 := SlA.cut hxs4 (l := j + 1) (m := x.length) oM oM
      have he1 : (x.drop 0).take (j - 0) = x.take j := by simp
      have he2 : (x.drop (j + 1)).take (x.length - (j + 1)) = x.drop (j + 1) := List.take_of_length_le (by rw [List.length_drop]; omega)
      rw [he1] at hc1
      rw [he2] at hc2
      have her : [] ++ x.take j ++ x.drop (j + 1) = x.eraseIdx j := by rw [List.eraseIdx_eq_take_drop_succ]; simp
      have hcl1 : ([] ++ x.take j).length = j := by simp; omega
      refine SC.seq (SC.seq (SC.region (SL.M rfl (SL.M rfl (SL.M rfl (SL.U (SU.indexAddr underlying22 sizeOf45 rfl rfl hb1 oM sL) (SL.K (SQ.elem1 (u := .slice rp x.length rc) isAgg45 rfl (hrs.mono (hle3.trans hle4)).rd hgr rfl) (SL.U (SU.lenN underlying45 rfl) (SL.U (SU.eq (v' := vb true) (SU.lss rfl rfl) (congrArg vb (decide_eq_true hjd))) (SL.M rfl (SL.Y rfl rfl rfl (SU.fieldAddr underlying51 rfl sizeOf3 rfl) (SL.gq (Gd.onT rfl rfl rfl dC) (SQ.load (v := vi ((x.length : Int) - 1)) isAgg3 rfl (CellAt.own 1 rfl rfl)) dC (SL.Y rfl rfl rfl (SU.eq (v' := vb true) (SU.gtr rfl rfl) (congrArg vb (decide_eq_true hdim))) (SL.U (SU.pickT rfl rfl) (SL.nil (ST.thenN (SC.condT rfl (SC.skip (ST.thenN (SC.seq (SC.block (SC.seq ?_))))))))))))))))))))))
      refine SC.draw [15] [(1, 2), (2, 2), (3, 2), (4, 1), (5, 2), (6, 2), (8, 2), (9, 2), (10, 2), (11, 1), (12, 2), (13, 2), (14, 2), (0, 0), (7, 0), (15, 0), (16, 2)] Tryz.mixed (by kernel_rfl) ?_
      refine SP.U (i := 1) rfl (SU.move rfl) (SP.U (i := 2) rfl (SU.move rfl) (SP.U (i := 3) rfl (SU.indexAddr underlying22 sizeOf45 rfl rfl hb1 oM sL) (SP.K (i := 4) rfl (SQ.elem1 (u := .slice rp x.length rc) isAgg45 rfl (hrs.mono (hle3.trans hle4)).rd hgr rfl) (SP.U (i := 5) rfl (SU.move rfl) (SP.U (i := 6) rfl (SU.sliceH underlying45 sizeOf3 rfl rfl oM oM) (SP.U (i := 8) rfl (SU.move rfl) (SP.U (i := 9) rfl (SU.move rfl) (SP.U (i := 10) rfl (SU.indexAddr underlying22 sizeOf45 rfl rfl hb1 oM sL) (SP.K (i := 11) rfl (SQ.elem1 (u := .slice rp x.length rc) isAgg45 rfl (hrs.mono (hle3.trans hle4)).rd hgr rfl) (SP.U (i := 12) rfl (SU.move rfl) (SP.U (i := 13) rfl (SU.add rfl rfl oM) (SP.U (i := 14) rfl (SU.eq (v' := sliced rp (j + 1) x.length rc 1) (SU.sliceL underlying45 sizeOf3 rfl rfl oM oM) (by rw [show ((j : Int) + 1).toNat = j + 1 by omega])) ?_))))))))))))
      refine SP.o (i := 0) rfl (SO.buildSlice sty45 rfl rfl rfl (szs_mk trivial) dC) dC (.inr (by rintro _ _ _ ⟨b116, rfl, rfl, rfl⟩; exact ⟨by exact Le.refl _, (by exact .cons _ (.refl _))⟩)) ?_
      rintro _ _ _ ⟨b116, rfl, rfl, rfl⟩
      refine SP.to (fun w hw => hw.emptyRow 3 1 (some ⟨b116, 0, none⟩)) ?_
      refine SP.o (i := 7) rfl (SO.appA (e := encInt) (l := []) 0 sty45 rfl rfl rfl hc1 (by rw [List.length_take]; (first | with_reducible rfl | ((try dsimp only); (try simp only [List.length_append, List.length_cons, List.length_nil, List.length_singleton, List.length_take, List.length_drop]) <;> omega))) (by rw [List.length_take]; (first | with_reducible rfl | ((try dsimp only); (try simp only [List.length_append, List.length_cons, List.length_nil, List.length_singleton, List.length_take, List.length_drop]) <;> omega)))) dC (.inr (by rintro v123 _ _ ⟨rfl, rfl⟩; exact ⟨by exact Le.refl _, (by exact .cons _ (.cons _ (.refl _)))⟩)) ?_
      rintro v123 _ _ ⟨rfl, rfl⟩
      refine SP.o (i := 15) rfl (SO.appA (e := encInt) 0 sty45 rfl rfl rfl hc2 (by rw [List.length_drop, hcl1]; omega) (by rw [List.length_drop, hcl1]; omega)) dC (.inl dC) ?_
      rintro v131 _ _ ⟨rfl, rfl⟩
      refine SP.U (i := 16) rfl (SU.assign rfl) (SP.nil (ST.thenN (SC.seq (SC.freezeRow fun g6 hle6 hs6 => ?_))))
      have hrest : Ints g6 v131 (x.eraseIdx j) := (by rw [← her]; exact hs6)
      refine SC.drop (s' := rowA encSide 55 sv (simpSides all x j) :: pt b15 (.cells #[vi ((n : Int) + 1), vi ((x.length : Int) - 1), sv] 51 (0, 0)) :: rowA encCell 51 ov rcs :: pt b13 (.cells #[ov] 27 (0, 0)) :: pt b2 (.cells #[.slice none 0 0] 27 (0, 0)) :: s) (.cons _ (.refl _)) (SC.region (SL.M rfl (SL.M rfl (SL.W (SO.call call55 rfl (place_spec E g6 _ _ _ all (x.eraseIdx j) (hav.mono (hle3.trans (hle4.trans hle6))) hrest oM (fun y hy => by have := has y hy; omega) oM hstr.srt)) ?_))))
      rintro _ _ _ ⟨rfl, rfl, rfl⟩
      refine SL.M rfl (SL.U (SU.extract rfl rfl) (SL.U (SU.extract rfl rfl) (SL.A rfl (SL.A rfl (SL.nil (ST.thenN (SC.region (SL.U (SU.fieldAddr underlying51 rfl sizeOf49 rfl) (SL.K (SQ.load (v := sv) isAgg49 rfl (CellAt.own 1 rfl rfl)) (SL.M rfl (SL.U (SU.add rfl rfl oM) (SL.M rfl (SL.U (SU.eq (v' := vi ((j : Int) % 2)) (SU.rem rfl rfl dC) (congrArg vi (tmod_two j))) (SL.U (SU.mul rfl rfl oM) (SL.U (SU.eq (v' := vi (signC j)) (SU.sub rfl rfl oM) rfl) (SL.U (SU.build rfl (buildS55 _ _)) (SL.W (SO.buildSlice sty49 rfl rfl rfl (szs_mk (by exact ⟨rfl, trivial⟩)) dC) ?_)))))))))))))))))
      rintro _ _ _ ⟨b147, rfl, rfl, rfl⟩
      refine SL.W (SO.app1A (e := encSide) 0 ⟨lbL all (x.eraseIdx j) + 1, signC j⟩ sty49 rfl rfl rfl rfl rfl oM oM) ?_
      rintro v148 _ _ ⟨rfl, rfl⟩
      rw [← hsucc]
      refine SL.facts fun ⟨w0, hw0⟩ => ?_
      obtain ⟨q148, d148, rfl⟩ := rowA_form (i := 0) hw0 rfl
      clear hw0 w0
      refine SL.U (SU.fieldAddr underlying51 rfl sizeOf49 rfl) (SL.on (SO.store1 1 sizeOf49 rfl rfl rfl rfl (Nat.le_of_ble_eq_true rfl) (by rfl)) ?_)
      rintro _ _ _ ⟨rfl, rfl⟩
      refine SL.nil (ST.blockN (ST.thenN (SC.region (SL.M rfl (SL.U (SU.add rfl rfl oM) (SL.A rfl (SL.nil ?_)))))))
      exact ST.again (g6, _, j + 1) ⟨rfl, rfl, rfl, rfl, rfl, rfl, trivial⟩ rfl rfl ⟨hle4.trans hle6, lN⟩ lN
     ·have hx1 : x.length = 1 := oM
      have hj0 : j = 0 := oM
      have hempty : simpSides all x x.length = simpSides all x j := by
       rw [hx1, hj0]
       have h0 := simpSides_succ all x 0
       have hs0 : sideAt all x 0 = [] := by
        unfold sideAt
        rw [if_neg]
        rw [List.length_eraseIdx]
        simp [hx1]
       rw [h0, hs0, List.append_nil]
      rw [← hempty]
      refine SC.seq (SC.seq (SC.region (SL.M rfl (SL.M rfl (SL.M rfl (SL.U (SU.indexAddr underlying22 sizeOf45 rfl rfl hb1 oM sL) (SL.K (SQ.elem1 (u := .slice rp x.length rc) isAgg45 rfl (hrs.mono (hle3.trans hle4)).rd hgr rfl) (SL.U (SU.lenN underlying45 rfl) (SL.U (SU.eq (v' := vb true) (SU.lss rfl rfl) (congrArg vb (decide_eq_true hjd))) (SL.M rfl (SL.Y rfl rfl rfl (SU.fieldAddr underlying51 rfl sizeOf3 rfl) (SL.gq (Gd.onT rfl rfl rfl dC) (SQ.load (v := vi ((x.length : Int) - 1)) isAgg3 rfl (CellAt.own 1 rfl rfl)) dC (SL.Y rfl rfl rfl (SU.eq (v' := vb false) (SU.gtr rfl rfl) (congrArg vb (decide_eq_false hdim))) (SL.U (SU.pickT rfl rfl) (SL.nil (ST.thenN (SC.condF rfl (SC.exit (ST.thenX (ST.thenX (ST.blockX ?_)))))))))))))))))))))
      exact ST.mid (g4, sv) ⟨rfl, rfl, rfl, rfl, rfl, trivial⟩ rfl rfl hle4
    ·have hjd : ¬ ((j : Nat) : Int) < ((x.length : Nat) : Int) := oM
     have hjj : j = x.length := oM
     subst hjj
     refine SC.seq (SC.seq (SC.region (SL.M rfl (SL.M rfl (SL.M rfl (SL.U (SU.indexAddr underlying22 sizeOf45 rfl rfl hb1 oM sL) (SL.K (SQ.elem1 (u := .slice rp x.length rc) isAgg45 rfl (hrs.mono (hle3.trans hle4)).rd hgr rfl) (SL.U (SU.lenN underlying45 rfl) (SL.U (SU.eq (v' := vb false) (SU.lss rfl rfl) (congrArg vb (decide_eq_false hjd))) (SL.M rfl (SL.Z rfl rfl rfl (SL.Z rfl rfl rfl (SL.Z rfl rfl rfl (SL.U (SU.pickF rfl rfl) (SL.nil (ST.thenN (SC.condF rfl (SC.exit (ST.thenX (ST.thenX (ST.blockX ?_)))))))))))))))))))))
     exact ST.mid (g4, sv) ⟨rfl, rfl, rfl, rfl, rfl, trivial⟩ rfl rfl hle4
   ·rintro ⟨g4, sv⟩ hle4
    dsimp only at hle4 ⊢
    have hssl := simpSides_length all x x.length
    refine SC.seq (SC.region (SL.freezeRow fun g5 hle5 hs5 => ?_))
    have hsd : SlA encSide g5 sv (simpSides all x x.length) := hs5
    refine SL.U (SU.fieldAddr underlying51 rfl sizeOf49 rfl) (SL.K (SQ.load (v := sv) isAgg49 rfl (CellAt.own 0 rfl rfl)) (SL.W (SO.call call56 rfl (sides_spec E g5 _ _ (simpSides all x x.length) hsd oM)) ?_))
    rintro v152 g6 _ ⟨rfl, hle6, hs6⟩
    obtain ⟨q6, d6, rfl⟩ := SlA.form hs6
    obtain ⟨nc, hnc⟩ : ∃ nc : Rc, nc = ⟨(n : Int) + 1, (x.length : Int) - 1, ⟨q6, (sortBy Side.cell (simpSides all x x.length)).length, d6⟩⟩ := ⟨_, rfl⟩
    refine SL.U (SU.fieldAddr underlying51 rfl sizeOf49 rfl) (SL.on (SO.store1 0 sizeOf49 rfl rfl rfl rfl (Nat.le_of_ble_eq_true rfl) (by rfl)) ?_)
    rintro _ _ _ ⟨rfl, rfl⟩
    refine SL.nil (ST.thenN (SC.region (SL.U (SU.fieldAddr underlying27 rfl sizeOf25 rfl) (SL.K (SQ.load isAgg25 rfl (CellAt.own 2 rfl rfl)) (SL.K (SQ.loadVarK 0 isAgg51 sizeOf51 rfl rfl rfl) (SL.W (SO.buildSlice sty25 rfl rfl rfl (szs_mk (by exact ⟨rfl, trivial⟩)) dC) ?_))))))
    rintro _ _ _ ⟨b157, rfl, rfl, rfl⟩
    refine SL.W (SO.app1A (e := encCell) 1 nc sty25 rfl rfl rfl rfl (by rw [hnc]; rfl) oM oM) ?_
    rintro v158 _ _ ⟨rfl, rfl⟩
    refine SL.facts fun ⟨w0, hw0⟩ => ?_
    obtain ⟨q158, d158, rfl⟩ := rowA_form (i := 1) hw0 rfl
    clear hw0 w0
    refine SL.U (SU.fieldAddr underlying27 rfl sizeOf25 rfl) (SL.on (SO.storeAllK 2 sizeOf25 rfl rfl rfl rfl rfl (by exact ⟨rfl, trivial⟩)) ?_)
    rintro _ _ _ ⟨rfl, rfl⟩
    refine SL.nil (ST.blockN (ST.thenN (SC.region (SL.M rfl (SL.U (SU.add rfl rfl oM) (SL.A rfl (SL.nil (ST.drop (s' := rowA encCell 51 (.slice q158 (rcs ++ [nc]).length d158) (rcs ++ [nc]) :: pt b13 (.cells #[.slice q158 (rcs ++ [nc]).length d158] 27 (0, 0)) :: pt b2 (.cells #[.slice none 0 0] 27 (0, 0)) :: s) (.cons _ (.refl _)) ?_))))))))
    refine ST.again (g6, _, rcs ++ [nc], n + 1) ⟨rfl, rfl, rfl, rfl, trivial⟩ rfl rfl ⟨hle3.trans (hle4.trans (hle5.trans hle6)), lN, ?_⟩ lN
    dsimp only
    rw [take_succ_of hget, List.map_append]
    exact (hrcs.mono fun _ _ => CellR.mono (hle4.trans (hle5.trans hle6))).append ⟨(by rw [hnc]; exact ⟨rfl, rfl, hs6⟩), trivial⟩
  ·have hnn : n = rs.length := oM
   have htk : (simpCells all).take n = simpCells all := List.take_of_length_le (by rw [simpCells_length]; omega)
   rw [htk] at hrcs
   refine SC.exit (ST.thenX (ST.thenX (ST.blockX (ST.thenN (SC.seq (SC.freezeRow fun g4 hle4 hs4 => ?_))))))
   have hov : Cells g4 ov (simpC ls) := (by simp only [simpC, hsome, canon_simp]; exact ⟨rcs, hs4, hrcs.mono fun _ _ => CellR.mono hle4⟩)
   obtain ⟨q9, d9, rfl⟩ := hov.form
   refine SC.region (SL.K (SQ.loadVarK 0 isAgg27 sizeOf27 rfl rfl rfl) (SL.on (SO.storeAllK 1 sizeOf27 rfl rfl rfl rfl rfl (by exact ⟨rfl, trivial⟩)) ?_))
   rintro _ _ _ ⟨rfl, rfl⟩
   refine SL.nil (ST.thenN (SC.ret ?_))
   exact ST.retCD 1 s (.inl rfl) results14 rfl isAgg27 sizeOf27 rfl rfl (.cons _ (.cons _ (.refl _))) ⟨rfl, hle.trans (hle3.trans hle4), _, rfl, hov⟩
set_option maxHeartbeats 2000000
end Go.Proofs.YtkdibcicncjpdaaGreat
namespace Go.Sy
open Go
section
variable {P : Program} {N : Nat} {E : World} {ops : Array Oper} {Q : Exit → Act → World → Prop} {g0 : PH} {s0 : Own} {tail : List Nat} {f : Fr} {g g' : PH} {s s' : Own} {L : Array Bool} {n : Nat}
end
end Go.Sy
namespace Go.Proofs.YtkdibcicncjpdaaGreat
open _root_.Go.Proofs.Tryz _root_.Go.Proofs.YtkdibcicncjpdaaGreat.Tryz
open Go Go.Sy Go.Pl Go.Proofs
set_option maxRecDepth 100000
def setsC (ls : List (List Int)) : List (List Int) := (ls.take 5).map fun l => (l.take 4).map fun x => modW x 7
theorem map_take_succ {α β : Type} {l : List α} {i : Nat} (h : i < l.length) (f : α → β) : (l.take (i + 1)).map f = (l.take i).map f ++ [f l[i]] := by
 rw [List.take_succ_eq_append_getElem h, List.map_append]; rfl
theorem sets_spec (E : World) (g : PH) (s : Own) (v : Value) (ls : List (List Int)) (hv : Lists g v ls) :
  Ctr Tryz.prog E 10 #[v] g s (fun r g' s' => ∃ rs, s' = rowA encSv 45 r rs :: s ∧ Le g g' ∧ All2 (ListR g') (setsC ls) rs) := by
 obtain ⟨rs0, hrs0, hall0⟩ := hv
 have hlen0 := hall0.length
 obtain ⟨p, c, rfl⟩ := SlA.form hrs0
 refine Ctr.of (args := [.slice p rs0.length c]) func10 rfl ntmps10 (Nat.le_of_ble_eq_true rfl) ?_
 refine SC.seq (SC.region (SL.A rfl (SL.nil (ST.thenN (SC.seq (SC.region (SL.A rfl (SL.nil (ST.thenN (SC.seq (SC.seq (SC.region (SL.A rfl (SL.nil (ST.thenN (SC.block (SC.nilRow 45 1 ?_)))))))))))))))))
 refine SC.loop (ι := PH × Value × List Sv × Nat) (fun i => [(0, .slice p rs0.length c), (2, .slice none 0 0), (3, i.2.1), (4, vi i.2.2.2)]) (fun i => i.1)
  (fun i => rowA encSv 45 i.2.1 i.2.2.1 :: s)
  (fun i => Le g i.1 ∧ i.2.2.2 ≤ rs0.length ∧ i.2.2.2 ≤ 5 ∧ All2 (ListR i.1) ((ls.take i.2.2.2).map fun l => (l.take 4).map fun x => modW x 7) i.2.2.1) (fun i => rs0.length - i.2.2.2)
  (g, .slice none 0 0, [], 0) ⟨rfl, rfl, rfl, rfl, trivial⟩ rfl rfl ⟨Le.refl g, Nat.zero_le _, Nat.zero_le _, trivial⟩ ?_
 rintro ⟨g1, ov, rs, i⟩ ⟨hle, hi, hi5, hrs⟩
 dsimp only at hle hi hi5 hrs ⊢
 have hrl := hrs.length
 rw [List.length_map, List.length_take] at hrl
 have f1 : (i : Int) < (rs0.length : Int) → (decide ((i : Int) < (rs0.length : Int)) && decide ((i : Int) < 5)) = decide ((i : Int) < 5) := fun h => by simp [h]
 have f2 : ¬ (i : Int) < (rs0.length : Int) → (decide ((i : Int) < (rs0.length : Int)) && decide ((i : Int) < 5)) = false := fun h => by simp only [h, decide_false, Bool.false_and]
 refine SC.seq ?_
 refine SC.cutB 14 ((decide ((i : Int) < (rs0.length : Int)) && decide ((i : Int) < 5))) ?_ ?_
 ·refine SC.region (SL.M rfl (SL.M rfl (SL.U (SU.lenN underlying22 rfl) (SL.U (SU.lss rfl rfl) (SL.M rfl ?_)))))
  refine SL.split ?_ ?_
  ·intro h11
   refine SL.Y rfl rfl rfl (SU.move rfl) (SL.Y rfl rfl rfl (SU.lss rfl rfl) (SL.U (SU.pickT rfl rfl) (SL.nil ?_)))
   exact ST.mid1 (by (rw [f1 h11]; rfl)) mI
  ·intro h11
   refine SL.Z rfl rfl rfl (SL.Z rfl rfl rfl (SL.U (SU.pickF rfl rfl) (SL.nil ?_)))
   exact ST.mid1 (by (rw [f2 h11]; rfl)) mI
 refine SC.ifB rfl (fun hc => ?_) (fun hc => ?_)
 ·rw [Bool.and_eq_true, decide_eq_true_iff, decide_eq_true_iff] at hc
  have hil : i < ls.length := oM
  have hir : i < rs0.length := oM
  have hb1 := hrs0.based oM
  have hR := (hall0.get (List.getElem?_eq_getElem hil) (List.getElem?_eq_getElem hir)).mono hle
  have hRl := hR.len
  have hsucc := map_take_succ hil fun l => (l.take 4).map fun x => modW x 7
  generalize hx : ls[i] = x at *
  generalize hr : rs0[i] = r at *
  obtain ⟨rp, rn, rc⟩ := r
  dsimp only at hRl
  subst hRl
  have hxs : Ints g1 (.slice rp x.length rc) x := hR
  have hgr : rs0[((i : Nat) : Int).toNat]? = some ⟨rp, x.length, rc⟩ := by rw [← hr]; exact List.getElem?_eq_getElem hir
  refine SC.skip (ST.thenN (SC.seq (SC.block (SC.seq (SC.region (SL.A rfl (SL.nil (ST.thenN (SC.seq (SC.seq (SC.region (SL.A rfl (SL.nil (ST.thenN (SC.block (SC.nilRow 3 1 ?_))))))))))))))))
  refine SC.loop (ι := Value × Nat) (fun k => [(0, .slice p rs0.length c), (2, .slice none 0 0), (3, ov), (4, vi i), (5, k.1), (6, vi k.2)]) (fun _ => g1)
   (fun k => rowA encInt 3 k.1 ((x.take k.2).map fun x => modW x 7) :: rowA encSv 45 ov rs :: s)
   (fun k => k.2 ≤ x.length ∧ k.2 ≤ 4) (fun k => x.length - k.2) (.slice none 0 0, 0) ⟨rfl, rfl, rfl, rfl, rfl, rfl, trivial⟩ rfl rfl ⟨Nat.zero_le _, Nat.zero_le _⟩ ?_
  rintro ⟨iv, k⟩ ⟨hk, hk4⟩
  dsimp only at hk hk4 ⊢
  have f3 : (k : Int) < (x.length : Int) → (decide ((k : Int) < (x.length : Int)) && decide ((k : Int) < 4)) = decide ((k : Int) < 4) := fun h => by simp [h]
  have f4 : ¬ (k : Int) < (x.length : Int) → (decide ((k : Int) < (x.length : Int)) && decide ((k : Int) < 4)) = false := fun h => by simp only [h, decide_false, Bool.false_and]
  refine SC.seq ?_
  refine SC.cutB 27 ((decide ((k : Int) < (x.length : Int)) && decide ((k : Int) < 4))) ?_ ?_
  ·refine SC.region (SL.M rfl (SL.M rfl (SL.M rfl (SL.U (SU.indexAddr underlying22 sizeOf45 rfl rfl hb1 oM sL) (SL.K (SQ.elem1 (u := .slice rp x.length rc) isAgg45 rfl (hrs0.mono hle).rd hgr rfl) (SL.U (SU.lenN underlying45 rfl) (SL.U (SU.lss rfl rfl) (SL.M rfl ?_))))))))
   refine SL.split ?_ ?_
   ·intro h24
    refine SL.Y rfl rfl rfl (SU.move rfl) (SL.Y rfl rfl rfl (SU.lss rfl rfl) (SL.U (SU.pickT rfl rfl) (SL.nil ?_)))
    exact ST.mid1 (by (rw [f3 h24]; rfl)) mI
   ·intro h24
    refine SL.Z rfl rfl rfl (SL.Z rfl rfl rfl (SL.U (SU.pickF rfl rfl) (SL.nil ?_)))
    exact ST.mid1 (by (rw [f4 h24]; rfl)) mI
  refine SC.ifB rfl (fun hc2 => ?_) (fun hc2 => ?_)
  ·rw [Bool.and_eq_true, decide_eq_true_iff, decide_eq_true_iff] at hc2
   have hkl : k < x.length := oM
   have hb2 := SlA.based hxs oM
   have hks := map_take_succ hkl fun x => modW x 7
   have hgk : x[((k : Nat) : Int).toNat]? = some x[k] := List.getElem?_eq_getElem hkl
   generalize x[k] = y at *
   refine SC.skip (ST.thenN (SC.seq (SC.block (SC.region (SL.M rfl (SL.M rfl (SL.M rfl (SL.U (SU.indexAddr underlying22 sizeOf45 rfl rfl hb1 oM sL) (SL.K (SQ.elem1 (u := .slice rp x.length rc) isAgg45 rfl (hrs0.mono hle).rd hgr rfl) (SL.M rfl (SL.U (SU.indexAddr underlying45 sizeOf3 rfl rfl hb2 oM sL) (SL.K (SQ.elem1 isAgg3 rfl (SlA.rd hxs) hgk rfl) (SL.W (SO.call call38 rfl (mod_spec E g1 _ y 7 dC)) ?_)))))))))))))
   rintro _ _ _ ⟨rfl, rfl, rfl⟩
   refine SL.W (SO.buildSlice sty45 rfl rfl rfl (szs_mk (by exact ⟨rfl, trivial⟩)) dC) ?_
   rintro _ _ _ ⟨b39, rfl, rfl, rfl⟩
   refine SL.W (SO.app1A (e := encInt) 0 (modW y 7) sty45 rfl rfl rfl rfl rfl (by rw [List.length_map, List.length_take]; omega) (by rw [List.length_map, List.length_take]; omega)) ?_
   rintro iv' _ _ ⟨rfl, rfl⟩
   refine SL.A rfl (SL.nil (ST.blockN (ST.thenN (SC.region (SL.M rfl (SL.U (SU.add rfl rfl oM) (SL.A rfl (SL.nil ?_))))))))
   refine ST.to (fun w hw => ?_) (g' := g1) (s' := rowA encInt 3 iv' ((x.take (k + 1)).map fun x => modW x 7) :: rowA encSv 45 ov rs :: s) ?_
   ·rw [hks]; exact hw
   exact ST.again (iv', k + 1) ⟨rfl, rfl, rfl, rfl, rfl, rfl, trivial⟩ rfl rfl ⟨lN, lN⟩ lN
  ·have hxk : x.take k = x.take 4 := by
    rw [Bool.and_eq_false_iff, decide_eq_false_iff_not, decide_eq_false_iff_not] at hc2
    by_cases h4 : k = 4
    ·rw [h4]
    ·rw [List.take_of_length_le oM, List.take_of_length_le oM]
   rw [hxk]
   refine SC.exit (ST.thenX (ST.thenX (ST.blockX (ST.thenN (SC.freezeRow fun g2 hle2 hs2 => ?_)))))
   have hiv : Ints g2 iv ((x.take 4).map fun x => modW x 7) := hs2
   obtain ⟨q2, d2, rfl⟩ := SlA.form hiv
   obtain ⟨nl, hnl⟩ : ∃ nl, nl = ((x.take 4).map fun x => modW x 7).length := ⟨_, rfl⟩
   refine SC.region (SL.M rfl (SL.M rfl (SL.W (SO.buildSlice sty22 rfl rfl rfl (szs_mk (by exact ⟨rfl, trivial⟩)) dC) ?_)))
   rintro _ _ _ ⟨b43, rfl, rfl, rfl⟩
   refine SL.W (SO.app1A (e := encSv) 0 ⟨q2, ((x.take 4).map fun x => modW x 7).length, d2⟩ sty22 rfl rfl rfl rfl rfl oM oM) ?_
   rintro ov' _ _ ⟨rfl, rfl⟩
   refine SL.A rfl (SL.nil (ST.blockN (ST.thenN (SC.region (SL.M rfl (SL.U (SU.add rfl rfl oM) (SL.A rfl (SL.nil ?_))))))))
   refine ST.again (g2, ov', rs ++ [⟨q2, ((x.take 4).map fun x => modW x 7).length, d2⟩], i + 1) ⟨rfl, rfl, rfl, rfl, trivial⟩ rfl rfl ⟨hle.trans hle2, lN, lN, ?_⟩ lN
   dsimp only
   rw [hsucc]
   exact (hrs.mono fun _ _ => ListR.mono hle2).append ⟨hiv, trivial⟩
 ·have hls : ls.take i = ls.take 5 := by
   rw [Bool.and_eq_false_iff, decide_eq_false_iff_not, decide_eq_false_iff_not] at hc
   by_cases h5 : i = 5
   ·rw [h5]
   ·rw [List.take_of_length_le oM, List.take_of_length_le oM]
  rw [hls] at hrs
  refine SC.exit (ST.thenX (ST.thenX (ST.blockX (ST.thenN (SC.seq (SC.region (SL.M rfl (SL.A rfl (SL.nil (ST.thenN (SC.ret ?_)))))))))))
  exact ST.ret1 (.inl rfl) results10 rfl ⟨rs, rfl, hle, hrs⟩
theorem simpAll_facts : ∀ (all ls : List (List Int)), all.length ≤ 4000 → (∀ x ∈ all, x.length ≤ 9) → ∀ r, simpAll all ls = some r → r.length ≤ 4000 ∧ ∀ x ∈ r, x.length ≤ 9
 | all, [], h1, h2, r, h => by cases h; exact ⟨h1, h2⟩
 | all, t :: ls, h1, h2, r, h => by
  unfold simpAll at h
  split at h
  ·exact simpAll_facts all ls h1 h2 r h
  ·rename_i hb
   split at h
   ·cases h
   ·rename_i hl
    refine simpAll_facts _ ls oM (fun x hx => ?_) r h
    rcases addSets_mem hx with hx | hx
    ·exact h2 x hx
    ·refine subsetsC_short ?_ x hx
     cases hT : setC t with
     | nil => simp
     | cons a r =>
      rw [hT] at hb
      simp only [badSet, Bool.or_eq_true, decide_eq_true_iff, not_or] at hb
      omega
theorem simpC_fits (ls : List (List Int)) : Fits (simpC ls) ∧ (simpC ls).length ≤ 4000 := by
 unfold simpC
 cases h : simpAll [] ls with
 | none => exact ⟨⟨by simp, by simp⟩, by simp⟩
 | some all =>
  obtain ⟨h1, h2⟩ := simpAll_facts [] ls (by simp) (by simp) all h
  have h3 : (canonC (simpCells all)).length ≤ 4000 := by rw [canonC_length, simpCells_length]; exact h1
  exact ⟨canonC_fits (simpCells_fits h1 h2), h3⟩
theorem sets_small (ls : List (List Int)) : (setsC ls).length ≤ 5 ∧ ∀ x ∈ setsC ls, x.length ≤ 4 := by
 refine ⟨by simp [setsC]; omega, fun x hx => ?_⟩
 obtain ⟨l, _, rfl⟩ := List.mem_map.1 hx
 simp
 omega
set_option maxHeartbeats 1000000
set_option maxHeartbeats 2000000
open Go.ChangeShapes Go.WideShapes Go.ChangeAt Go.RowKit
set_option maxRecDepth 100000
def held (W : World) : PH := fun b => W.heap[b]?
def E0 (W : World) : World := { W with drawn := 0 }
theorem at_start (W : World) : At (E0 W) (held W) [] W := ⟨rfl, ⟨rfl, Nat.zero_le _⟩, rfl, fun _ _ h => h, by simp, by simp, List.Pairwise.nil⟩
theorem at_below {W W' : World} {g : PH} {s : Own} (h : At (E0 W) g s W') (hl : Le (held W) g) : Below W.heap.size W W' := by
 have hb : ∀ k, k < W.heap.size → W'.heap[k]? = W.heap[k]? := fun k hk => by
  have h1 : W.heap[k]? = some W.heap[k] := Array.getElem?_eq_getElem hk
  rw [h1]
  exact h.known k _ (hl k _ h1)
 refine ⟨h.os, h.tape.1, h.output, ?_, hb⟩
 refine Decidable.of_not_not fun hc => ?_
 have h1 := hb W'.heap.size oM
 rw [Array.getElem?_eq_none (Nat.le_refl _), Array.getElem?_eq_getElem oM] at h1
 cases h1
theorem row_sl {W : World} {a : Addr} {len cap : Nat} {xs : List Value} (hl : len ≤ cap) (hx : xs.length = len) (hc : ∀ i x, xs[i]? = some x → W.cell? (a.add i) = some x) : Sl (held W) 1 (.slice (some a) len cap) len xs := by
 refine ⟨some a, cap, rfl, ⟨oM, hl⟩, fun hne => ?_⟩
 obtain ⟨b, o, sp⟩ := a
 have h0 : 0 < xs.length := List.length_pos_iff.2 hne
 have hc0 := hc 0 xs[0] (List.getElem?_eq_getElem h0)
 have hsp : sp = none := by simpa [Addr.add] using World.cell?_spot hc0
 subst hsp
 have hadd : ∀ i, (⟨b, o, none⟩ : Addr).add i = ⟨b, o + i, none⟩ := fun i => by unfold Addr.add; split <;> simp_all
 simp only [hadd] at hc
 have hcell : ∀ i x, xs[i]? = some x → ∃ cs T fr, W.heap[b]? = some (.cells cs T fr) ∧ cs[o + i]? = some x := fun i x hi => by
  have h1 := hc i x hi
  unfold World.cell? at h1
  split at h1
  ·rename_i cs T fr hh
   exact ⟨cs, T, fr, hh, by simpa using h1⟩
  ·cases h1
 obtain ⟨cs, T, fr, hb, _⟩ := hcell 0 xs[0] (List.getElem?_eq_getElem h0)
 refine ⟨b, o, cs, T, fr, rfl, hb, fun j x hj => ?_⟩
 obtain ⟨cs', T', fr', hb', h2⟩ := hcell j x hj
 rw [hb] at hb'
 cases hb'
 exact h2
section
variable {H : Type} {enc : TypeId × Value → H} {W : World} {base : Nat} {spare : Nat → Bool} {hd : Bool}
theorem Tryz.cells3 : Tryz.prog.cellsOf 3 = 1 := by kernel_rfl
theorem Tryz.cells45 : Tryz.prog.cellsOf 45 = 1 := by kernel_rfl
theorem ints_of {fuel : Nat} {v : Value} {x : DataW H × List MemPlace} (h : DataW.trod enc Tryz.prog W base spare hd fuel 45 [v] = some x) : ∃ (l : List Int) (r : Sv), v = .slice r.p r.n r.c ∧ Ints (held W) v l := by
 rcases open_ints underlying45 underlying3 cells3 h with ⟨hcs, _⟩ | ⟨a, len, cap, zs, hcs, _, hl, _, hz, _, hcell, _⟩
 ·simp at hcs
  subst hcs
  exact ⟨[], ⟨none, 0, 0⟩, rfl, Sl.nil _ _⟩
 ·simp at hcs
  subst hcs
  have hlz : len ≤ zs.length := by rw [hz]; split <;> omega
  have hlen : (zs.take len).length = len := by rw [List.length_take]; omega
  have he : (zs.take len).flatMap encInt.enc = (zs.take len).map vi := by
   rw [List.flatMap_def]
   induction zs.take len with
   | nil => rfl
   | cons y t ih => simp [encInt] at ih ⊢; exact ih
  refine ⟨zs.take len, ⟨some a, len, cap⟩, rfl, ?_⟩
  show Sl (held W) 1 _ (zs.take len).length ((zs.take len).flatMap encInt.enc)
  rw [he, hlen]
  refine row_sl hl (by rw [List.length_map, hlen]) fun i y hi => ?_
  rw [List.getElem?_map] at hi
  cases hc : (zs.take len)[i]? with
  | none => rw [hc] at hi; cases hi
  | some z =>
   rw [hc] at hi
   cases hi
   have hil : i < (zs.take len).length := (List.getElem?_eq_some_iff.1 hc).1
   have hi2 : i < zs.length := oM
   rw [hcell i hi2]
   have : zs.getD i 0 = z := by
    rw [List.getElem?_take] at hc
    split at hc
    ·rw [List.getD_eq_getElem?_getD, hc]; rfl
    ·cases hc
   rw [this]
theorem all2_map {α β γ : Type} {R : α → β → Prop} {f : γ → α} {k : γ → β} : ∀ {l : List γ}, (∀ i ∈ l, R (f i) (k i)) → All2 R (l.map f) (l.map k)
 | [], _ => trivial
 | x :: l, h => ⟨h x (by simp), all2_map fun i hi => h i (by simp [hi])⟩
instance : Inhabited (List Int × Sv) := ⟨([], ⟨none, 0, 0⟩)⟩
theorem lists_of {fuel : Nat} {v : Value} {x : DataW H × List MemPlace} (h : DataW.trod enc Tryz.prog W base spare hd fuel 22 [v] = some x) : ∃ ls, Lists (held W) v ls := by
 rcases Go.Deep.open_slice1 underlying22 cells45 h with ⟨hcs, _⟩ | ⟨a, len, cap, m, n, V, D, Pl, hcs, _, hl, _, hmm, _, hx⟩
 ·simp at hcs
  subst hcs
  exact ⟨[], [], Sl.nil _ _, trivial⟩
 ·simp at hcs
  subst hcs
  have hlm : len ≤ m := by rw [hmm]; split <;> omega
  obtain ⟨f, hf⟩ := Go.Deep.choose_lt (α := List Int × Sv) (n := len) (p := fun i y => V i = .slice y.2.p y.2.n y.2.c ∧ Ints (held W) (V i) y.1) fun i hi => by
   obtain ⟨l, r, h1, h2⟩ := ints_of (hx i oM).2
   exact ⟨(l, r), h1, h2⟩
  refine ⟨(List.range len).map fun i => (f i).1, (List.range len).map fun i => (f i).2, ?_, all2_map fun i hi => ?_⟩
  ·show Sl (held W) 1 _ ((List.range len).map fun i => (f i).2).length (((List.range len).map fun i => (f i).2).flatMap encSv.enc)
   have he : ((List.range len).map fun i => (f i).2).flatMap encSv.enc = (List.range len).map fun i => V i := by
    have : ∀ l : List Nat, (∀ i ∈ l, i < len) → (l.map fun i => (f i).2).flatMap encSv.enc = l.map fun i => V i := by
     intro l
     induction l with
     | nil => intro _; rfl
     | cons y t ih =>
      intro hy
      rw [List.map_cons, List.flatMap_cons, ih fun i hi => hy i (by simp [hi]), List.map_cons, (hf y (hy y (by simp))).1]
      rfl
    exact this _ fun i hi => List.mem_range.1 hi
   rw [he, List.length_map, List.length_range]
   refine row_sl hl (by simp) fun i y hi => ?_
   rw [List.getElem?_map] at hi
   cases hc : (List.range len)[i]? with
   | none => rw [hc] at hi; cases hi
   | some z =>
    rw [hc] at hi
    cases hi
    obtain ⟨h1, h2⟩ := List.getElem?_eq_some_iff.1 hc
    simp at h1 h2
    subst h2
    exact (hx i oM).1
  ·have := hf i (List.mem_range.1 hi)
   unfold ListR
   rw [← this.1]
   exact this.2
end
theorem lawSame_spec (E : World) (g : PH) (s : Own) (v u : Value) (l m : List Cl) (hv : Cells g v l) (hu : Cells g u m) (hf : Fits l) :
  Ctr Tryz.prog E 13 #[.agg #[v], .agg #[u]] g s (fun r g' s' => r = vb (decide (l = m)) ∧ g = g' ∧ s = s') := by
 obtain ⟨ra, hra, halla⟩ := hv
 obtain ⟨rb, hrb, hallb⟩ := hu
 have eal := halla.length
 have ebl := hallb.length
 have hll := hf.1
 obtain ⟨pa, ca, rfl⟩ := hra.form
 obtain ⟨pb, cb, rfl⟩ := hrb.form
 refine Ctr.of (args := [.agg #[.slice pa ra.length ca], .agg #[.slice pb rb.length cb]]) func13 rfl ntmps13 (Nat.le_of_ble_eq_true rfl) ?_
 refine SC.seq (SC.region (SL.W (SO.box rfl) ?_))
 rintro _ _ _ ⟨b2, rfl, rfl, rfl⟩
 refine SL.W (SO.box rfl) ?_
 rintro _ _ _ ⟨b3, rfl, rfl, rfl⟩
 refine SL.A rfl (SL.nil (ST.thenN (SC.seq (SC.seq (SC.region (SL.U (SU.fieldAddr underlying27 rfl sizeOf25 rfl) (SL.K (SQ.load (v := .slice pa ra.length ca) isAgg25 rfl (CellAt.own 1 rfl rfl)) (SL.U (SU.lenN underlying25 rfl) (SL.U (SU.fieldAddr underlying27 rfl sizeOf25 rfl) (SL.K (SQ.load (v := .slice pb rb.length cb) isAgg25 rfl (CellAt.own 0 rfl rfl)) (SL.U (SU.lenN underlying25 rfl) (SL.U (SU.neq rfl rfl) (SL.nil (ST.thenN ?_))))))))))))))
 refine SC.ifP rfl (fun hne => ?_) (fun hne => ?_)
 ·refine SC.seq (SC.region (SL.A rfl (SL.nil (ST.thenN (SC.ret (ST.thenR (ST.drop (s' := s) (.cons _ (.cons _ (.refl _))) ?_)))))))
  exact ST.ret1 (.inl rfl) results13 rfl ⟨by rw [decide_eq_false (fun e : l = m => by rw [e] at eal; omega)], rfl, rfl⟩
 ·refine SC.skip (ST.thenN (SC.seq (SC.seq (SC.region (SL.A rfl (SL.nil (ST.thenN (SC.block ?_))))))))
  have hlen : l.length = m.length := oM
  refine SC.loop (ι := Nat) (fun k => [(2, pp b2 0), (3, pp b3 0), (5, vi k)]) (fun _ => g) (fun _ => pt b3 (.cells #[.slice pb rb.length cb] 27 (0, 0)) :: pt b2 (.cells #[.slice pa ra.length ca] 27 (0, 0)) :: s) (fun k => k ≤ l.length ∧ l.take k = m.take k) (fun k => l.length - k) 0
   ⟨rfl, rfl, rfl, trivial⟩ rfl rfl ⟨Nat.zero_le _, by simp⟩ ?_
  rintro k ⟨hk, heq⟩
  refine SC.seq (SC.seq (SC.region (SL.M rfl (SL.U (SU.fieldAddr underlying27 rfl sizeOf25 rfl) (SL.K (SQ.load (v := .slice pa ra.length ca) isAgg25 rfl (CellAt.own 1 rfl rfl)) (SL.U (SU.lenN underlying25 rfl) (SL.U (SU.lss rfl rfl) (SL.nil (ST.thenN ?_)))))))))
  refine SC.ifP rfl (fun hlt => ?_) (fun hlt => ?_)
  ·have hkl : k < l.length := oM
   have hkm : k < m.length := oM
   have hb1 := hra.based oM
   have hb2 := hrb.based oM
   have h1 := halla.get (List.getElem?_eq_getElem hkl) (List.getElem?_eq_getElem (show k < ra.length by omega))
   have h2 := hallb.get (List.getElem?_eq_getElem hkm) (List.getElem?_eq_getElem (show k < rb.length by omega))
   have g1 : ra[((k : Nat) : Int).toNat]? = some ra[k] := List.getElem?_eq_getElem (show k < ra.length by omega)
   have g2 : rb[((k : Nat) : Int).toNat]? = some rb[k] := List.getElem?_eq_getElem (show k < rb.length by omega)
   have hxl := hf.2 _ (List.getElem_mem hkl)
   refine SC.skip (ST.thenN (SC.seq (SC.block (SC.seq ?_))))
   refine SC.draw [] [(0, 2), (1, 1), (2, 2), (3, 2), (4, 1), (5, 2), (6, 1), (7, 2), (8, 2), (9, 1), (10, 0), (11, 2)] Tryz.mixed (by kernel_rfl) ?_
   refine SP.U (i := 0) rfl (SU.fieldAddr underlying27 rfl sizeOf25 rfl) (SP.K (i := 1) rfl (SQ.load (v := .slice pa ra.length ca) isAgg25 rfl (CellAt.own 1 rfl rfl)) (SP.U (i := 2) rfl (SU.move rfl) (SP.U (i := 3) rfl (SU.indexAddr underlying25 sizeOf51 rfl rfl hb1 oM sL) (SP.K (i := 4) rfl (SQ.elemA isAgg51 sizeOf51 rfl hra.rd g1) (SP.U (i := 5) rfl (SU.fieldAddr underlying27 rfl sizeOf25 rfl) (SP.K (i := 6) rfl (SQ.load (v := .slice pb rb.length cb) isAgg25 rfl (CellAt.own 0 rfl rfl)) (SP.U (i := 7) rfl (SU.move rfl) (SP.U (i := 8) rfl (SU.indexAddr underlying25 sizeOf51 rfl rfl hb2 oM sL) (SP.K (i := 9) rfl (SQ.elemA isAgg51 sizeOf51 rfl hrb.rd g2) (SP.o (i := 10) rfl (SO.call call53 rfl (sameCell_spec E g _ l[k] m[k] _ _ h1 h2 hxl)) dC (.inr (by rintro _ _ _ ⟨rfl, rfl, rfl⟩; exact ⟨by exact Le.refl _, (by exact .refl _)⟩)) ?_))))))))))
   rintro _ _ _ ⟨rfl, rfl, rfl⟩
   refine SP.U (i := 11) rfl (SU.notP rfl) (SP.nil (ST.thenN ?_))
   refine SC.ifP rfl (fun hd => ?_) (fun hd => ?_)
   ·refine SC.seq (SC.region (SL.A rfl (SL.nil (ST.thenN (SC.ret (ST.blockR (ST.thenR (ST.thenR (ST.blockR (ST.thenR (ST.drop (s' := s) (.cons _ (.cons _ (.refl _))) ?_)))))))))))
    exact ST.ret1 (.inl rfl) results13 rfl ⟨by rw [decide_eq_false (fun e : l = m => hd (by simp [e]))], rfl, rfl⟩
   ·refine SC.skip (ST.blockN (ST.thenN (SC.region (SL.M rfl (SL.U (SU.add rfl rfl oM) (SL.A rfl (SL.nil ?_)))))))
    exact ST.again (k + 1) ⟨rfl, rfl, rfl, trivial⟩ rfl rfl ⟨oM, by rw [List.take_succ_eq_append_getElem hkl, List.take_succ_eq_append_getElem hkm, heq, Decidable.of_not_not hd]⟩ oM
  ·refine SC.exit (ST.thenX (ST.thenX (ST.blockX (ST.thenN (SC.seq (SC.region (SL.A rfl (SL.nil (ST.thenN (SC.ret ?_))))))))))
   have heq2 : l = m := by rw [List.take_of_length_le oM, List.take_of_length_le oM] at heq; exact heq
   refine ST.drop (s' := s) (.cons _ (.cons _ (.refl _))) ?_
   exact ST.ret1 (.inl rfl) results13 rfl ⟨by rw [decide_eq_true heq2], rfl, rfl⟩
def sumsL (L : List (Int × List Side)) : List (Int × Int) := L.foldl (fun zl p => p.2.foldl (fun zl r => addZ zl r.cell (p.1 * r.sign)) zl) []
def metL (L : List (Int × List Side)) : List (Int × List Int) := L.zipIdx.foldl (fun ml p => p.1.2.foldl (stepL p.2) ml) []
def aroundL (L : List (Int × List Side)) : Int :=
 if (sumsL L).any (fun p => decide (p.2 ≠ 0)) then 24
 else if (metL L).any (fun p => decide ((p.2.length : Int) ≠ 2)) then 25
 else if ((seenC (joinC (metL L))).length : Int) ≠ L.length then 25 else 0
def lookL (tl : List Cl) (c : Cl) : List (Int × List Side) := c.sides.map fun x => (x.sign, sidesOf tl x)
theorem aroundC_L (tl : List Cl) (c : Cl) : aroundC tl c = aroundL (lookL tl c) := by
 have h1 : sumsC tl c.sides = sumsL (lookL tl c) := by
  unfold sumsC sumsL lookL
  rw [List.foldl_map]
  rfl
 have h2 : metC tl c.sides = metL (lookL tl c) := by
  unfold metC metL lookL
  rw [List.zipIdx_map, List.foldl_map]
  rfl
 have h3 : (lookL tl c).length = c.sides.length := by simp [lookL]
 unfold aroundC aroundL
 rw [h1, h2, h3]
def renS (φ : Int → Int) (r : Side) : Side := ⟨φ r.cell, r.sign⟩
def renL (φ : Int → Int) (L : List (Int × List Side)) : List (Int × List Side) := L.map fun p => (p.1, p.2.map (renS φ))
def keyL (L : List (Int × List Side)) : List Int := L.flatMap fun p => p.2.map Side.cell
def ren1 {α : Type} (φ : Int → Int) (zl : List (Int × α)) : List (Int × α) := zl.map fun p => (φ p.1, p.2)
section
variable {φ : Int → Int} {K : Int → Prop} (hφ : ∀ a b, K a → K b → φ a = φ b → a = b)
include hφ
theorem addZ_ren {zl : List (Int × Int)} {k : Int} (x : Int) (hz : ∀ p ∈ zl, K p.1) (hk : K k) : addZ (ren1 φ zl) (φ k) x = ren1 φ (addZ zl k x) := by
 induction zl with
 | nil => rfl
 | cons p r ih =>
  obtain ⟨a, z⟩ := p
  have ha := hz (a, z) (by simp)
  simp only [ren1, List.map_cons, addZ] at ih ⊢
  by_cases h : k = a
  ·subst h; simp
  ·rw [if_neg h, if_neg fun e => h (hφ k a hk ha e)]
   simp only [List.map_cons]
   rw [ih fun p hp => hz p (by simp [hp])]
theorem addL_ren {zl : List (Int × List Int)} {k : Int} (x : Int) (hz : ∀ p ∈ zl, K p.1) (hk : K k) : addL (ren1 φ zl) (φ k) x = ren1 φ (addL zl k x) := by
 induction zl with
 | nil => rfl
 | cons p r ih =>
  obtain ⟨a, z⟩ := p
  have ha := hz (a, z) (by simp)
  simp only [ren1, List.map_cons, addL] at ih ⊢
  by_cases h : k = a
  ·subst h; simp
  ·rw [if_neg h, if_neg fun e => h (hφ k a hk ha e)]
   simp only [List.map_cons]
   rw [ih fun p hp => hz p (by simp [hp])]
omit hφ in
theorem addZ_key {zl : List (Int × Int)} {k x : Int} (hz : ∀ p ∈ zl, K p.1) (hk : K k) : ∀ p ∈ addZ zl k x, K p.1 := by
 induction zl with
 | nil => intro p hp; simp [addZ] at hp; subst hp; exact hk
 | cons q r ih =>
  obtain ⟨a, z⟩ := q
  have ha := hz (a, z) (by simp)
  intro p hp
  simp only [addZ] at hp
  split at hp
  ·rcases List.mem_cons.1 hp with rfl | hp
   ·exact ha
   ·exact hz p (by simp [hp])
  ·rcases List.mem_cons.1 hp with rfl | hp
   ·exact ha
   ·exact ih (fun p hp => hz p (by simp [hp])) p hp
omit hφ in
theorem addL_key {zl : List (Int × List Int)} {k x : Int} (hz : ∀ p ∈ zl, K p.1) (hk : K k) : ∀ p ∈ addL zl k x, K p.1 := by
 induction zl with
 | nil => intro p hp; simp [addL] at hp; subst hp; exact hk
 | cons q r ih =>
  obtain ⟨a, z⟩ := q
  have ha := hz (a, z) (by simp)
  intro p hp
  simp only [addL] at hp
  split at hp
  ·rcases List.mem_cons.1 hp with rfl | hp
   ·exact ha
   ·exact hz p (by simp [hp])
  ·rcases List.mem_cons.1 hp with rfl | hp
   ·exact ha
   ·exact ih (fun p hp => hz p (by simp [hp])) p hp
theorem sums1_ren (t : Int) : ∀ (l : List Side) (zl : List (Int × Int)), (∀ r ∈ l, K r.cell) → (∀ p ∈ zl, K p.1) →
  (l.map (renS φ)).foldl (fun zl r => addZ zl r.cell (t * r.sign)) (ren1 φ zl) = ren1 φ (l.foldl (fun zl r => addZ zl r.cell (t * r.sign)) zl) ∧ ∀ p ∈ l.foldl (fun zl r => addZ zl r.cell (t * r.sign)) zl, K p.1
 | [], zl, _, hz => ⟨rfl, hz⟩
 | r :: l, zl, hl, hz => by
  have hr := hl r (by simp)
  have := sums1_ren t l (addZ zl r.cell (t * r.sign)) (fun q hq => hl q (by simp [hq])) (addZ_key hz hr)
  simp only [List.map_cons, List.foldl_cons]
  rw [show (renS φ r).cell = φ r.cell from rfl, show (renS φ r).sign = r.sign from rfl, addZ_ren hφ _ hz hr]
  exact this
theorem met1_ren (t : Int) : ∀ (l : List Side) (zl : List (Int × List Int)), (∀ r ∈ l, K r.cell) → (∀ p ∈ zl, K p.1) →
  (l.map (renS φ)).foldl (stepL t) (ren1 φ zl) = ren1 φ (l.foldl (stepL t) zl) ∧ ∀ p ∈ l.foldl (stepL t) zl, K p.1
 | [], zl, _, hz => ⟨rfl, hz⟩
 | r :: l, zl, hl, hz => by
  have hr := hl r (by simp)
  have := met1_ren t l (addL zl r.cell t) (fun q hq => hl q (by simp [hq])) (addL_key hz hr)
  simp only [List.map_cons, List.foldl_cons]
  rw [show stepL t (ren1 φ zl) (renS φ r) = ren1 φ (addL zl r.cell t) from addL_ren hφ _ hz hr]
  exact this
theorem sums_ren : ∀ (L : List (Int × List Side)) (zl : List (Int × Int)), (∀ k ∈ keyL L, K k) → (∀ p ∈ zl, K p.1) →
  (renL φ L).foldl (fun zl p => p.2.foldl (fun zl r => addZ zl r.cell (p.1 * r.sign)) zl) (ren1 φ zl) = ren1 φ (L.foldl (fun zl p => p.2.foldl (fun zl r => addZ zl r.cell (p.1 * r.sign)) zl) zl)
 | [], _, _, _ => rfl
 | p :: L, zl, hl, hz => by
  obtain ⟨h1, h2⟩ := sums1_ren hφ p.1 p.2 zl (fun r hr => hl _ (List.mem_flatMap.2 ⟨p, by simp, List.mem_map.2 ⟨r, hr, rfl⟩⟩)) hz
  simp only [renL, List.map_cons, List.foldl_cons] at h1 ⊢
  rw [h1]
  exact sums_ren L _ (fun k hk => hl k (by simp only [keyL, List.flatMap_cons, List.mem_append]; exact .inr hk)) h2
theorem met_ren : ∀ (L : List (Int × List Side)) (i : Nat) (zl : List (Int × List Int)), (∀ k ∈ keyL L, K k) → (∀ p ∈ zl, K p.1) →
  ((renL φ L).zipIdx i).foldl (fun ml p => p.1.2.foldl (stepL p.2) ml) (ren1 φ zl) = ren1 φ ((L.zipIdx i).foldl (fun ml p => p.1.2.foldl (stepL p.2) ml) zl)
 | [], _, _, _, _ => rfl
 | p :: L, i, zl, hl, hz => by
  obtain ⟨h1, h2⟩ := met1_ren hφ i p.2 zl (fun r hr => hl _ (List.mem_flatMap.2 ⟨p, by simp, List.mem_map.2 ⟨r, hr, rfl⟩⟩)) hz
  simp only [renL, List.map_cons, List.zipIdx_cons, List.foldl_cons] at h1 ⊢
  rw [h1]
  exact met_ren L (i + 1) _ (fun k hk => hl k (by simp only [keyL, List.flatMap_cons, List.mem_append]; exact .inr hk)) h2
end
theorem any_ren {α : Type} (φ : Int → Int) (zl : List (Int × α)) (q : α → Bool) : (ren1 φ zl).any (fun p => q p.2) = zl.any (fun p => q p.2) := by
 simp only [ren1, List.any_map]
 rfl
theorem join_ren (φ : Int → Int) (ml : List (Int × List Int)) : joinC (ren1 φ ml) = joinC ml := by
 simp only [joinC, ren1, List.foldl_map]
 rfl
theorem aroundL_ren {φ : Int → Int} {L : List (Int × List Side)} (hφ : ∀ a ∈ keyL L, ∀ b ∈ keyL L, φ a = φ b → a = b) : aroundL (renL φ L) = aroundL L := by
 have h1 : sumsL (renL φ L) = ren1 φ (sumsL L) := sums_ren (K := fun k => k ∈ keyL L) (fun a b ha hb => hφ a ha b hb) L [] (fun _ h => h) (by simp)
 have h2 : metL (renL φ L) = ren1 φ (metL L) := met_ren (K := fun k => k ∈ keyL L) (fun a b ha hb => hφ a ha b hb) L 0 [] (fun _ h => h) (by simp)
 unfold aroundL
 rw [h1, h2, any_ren φ _ fun z => decide (z ≠ 0), any_ren φ _ fun l : List Int => decide ((l.length : Int) ≠ 2), join_ren]
 have h3 : (renL φ L).length = L.length := by simp [renL]
 rw [h3]
def code (k q : Nat) : Int := if q < k then ((q * 16 + k : Nat) : Int) else ((k * 16 + (q + 1) : Nat) : Int)
def patS (n : Nat) : List (Int × List Side) := (List.range n).reverse.map fun k : Nat => (signC k, (List.range (n - 1)).reverse.map fun q : Nat => ⟨code k q, signC q⟩)
theorem patS_ok : ∀ n, n < 10 → 2 < n → aroundL (patS n) = 0 := by decide +kernel
theorem pickB_cons (b : Nat) (a : Int) (l : List Int) : pickB b (a :: l) = (if b % 2 = 1 then [a] else []) ++ pickB (b / 2) l := by
 unfold pickB
 have hz : ∀ (l : List Int) (i : Nat), ((l.zipIdx (i + 1)).filter fun p => b / 2 ^ p.2 % 2 == 1).map (·.1) = ((l.zipIdx i).filter fun p => b / 2 / 2 ^ p.2 % 2 == 1).map (·.1) := by
  intro l
  induction l with
  | nil => intro i; rfl
  | cons x r ih =>
   intro i
   have hp : b / 2 ^ (i + 1) = b / 2 / 2 ^ i := by rw [Nat.pow_succ, Nat.mul_comm, Nat.div_div_eq_div_mul]
   simp only [List.zipIdx_cons, List.filter_cons, hp]
   have := ih (i + 1)
   split
   ·simp only [List.map_cons, this]
   ·exact this
 simp only [List.zipIdx_cons, List.filter_cons, Nat.pow_zero, Nat.div_one]
 by_cases h : b % 2 = 1
 ·simp only [h, if_true, beq_self_eq_true, List.map_cons]
  rw [hz l 0]
  rfl
 ·have h2 : (b % 2 == 1) = false := by simpa using h
  simp only [h, h2, if_false, Bool.false_eq_true]
  rw [hz l 0]
  rfl
theorem pickB_sub (l : List Int) : ∀ b, (pickB b l).Sublist l := by
 induction l with
 | nil => intro b; exact .slnil
 | cons a r ih =>
  intro b
  rw [pickB_cons]
  split
  ·exact (ih _).cons_cons a
  ·exact (ih _).cons a
theorem pickB_ne (l : List Int) : ∀ b, b ≠ 0 → b < 2 ^ l.length → pickB b l ≠ [] := by
 induction l with
 | nil => intro b h0 h; simp at h; exact absurd h h0
 | cons a r ih =>
  intro b h0 h
  rw [pickB_cons]
  split
  ·simp
  ·rename_i h1
   rw [List.length_cons, Nat.pow_succ] at h
   simpa using ih (b / 2) oM oM
theorem pick_of_sub {x l : List Int} (h : x.Sublist l) : ∃ b, b < 2 ^ l.length ∧ pickB b l = x := by
 induction h with
 | slnil => exact ⟨0, by simp, rfl⟩
 | cons a _ ih =>
  obtain ⟨b, hb, e⟩ := ih
  refine ⟨2 * b, by rw [List.length_cons, Nat.pow_succ]; omega, ?_⟩
  rw [pickB_cons, if_neg oM, show 2 * b / 2 = b by omega, e]
  rfl
 | cons_cons a _ ih =>
  obtain ⟨b, hb, e⟩ := ih
  refine ⟨2 * b + 1, by rw [List.length_cons, Nat.pow_succ]; omega, ?_⟩
  rw [pickB_cons, if_pos oM, show (2 * b + 1) / 2 = b by omega, e]
  rfl
theorem subsetsC_iff (t x : List Int) : x ∈ subsetsC t ↔ x.Sublist t ∧ x ≠ [] := by
 unfold subsetsC
 constructor
 ·intro h
  obtain ⟨i, hi, rfl⟩ := List.mem_map.1 h
  have := List.mem_range.1 hi
  exact ⟨pickB_sub _ _, pickB_ne _ _ oM oM⟩
 ·rintro ⟨h, hne⟩
  obtain ⟨b, hb, rfl⟩ := pick_of_sub h
  have h0 : b ≠ 0 := fun e => by
   subst e
   apply hne
   have : ∀ l : List Int, pickB 0 l = [] := by
    intro l
    induction l with
    | nil => rfl
    | cons a r ih => rw [pickB_cons]; simpa using ih
   exact this t
  exact List.mem_map.2 ⟨b - 1, List.mem_range.2 oM, by rw [show b - 1 + 1 = b by omega]⟩
structure Good (all : List (List Int)) : Prop where
 strict : StrictL all
 form : ∀ s ∈ all, s ≠ [] ∧ StrictI s ∧ s.length ≤ 9
 faces : ∀ s ∈ all, 2 ≤ s.length → ∀ k, k < s.length → s.eraseIdx k ∈ all
theorem Good.nil : Good [] := ⟨List.Pairwise.nil, by simp, by simp⟩
theorem Good.add {all : List (List Int)} {t : List Int} (h : Good all) (ht : StrictI t) (hl : t.length ≤ 9) : Good (addSets all t) := by
 refine ⟨addSets_strict all t, fun s hs => ?_, fun s hs h2 k hk => ?_⟩
 ·rcases (addSets_iff all t s).1 hs with h1 | h1
  ·exact h.form s h1
  ·obtain ⟨h2, h3⟩ := (subsetsC_iff t s).1 h1
   exact ⟨h3, ht.sublist h2, Nat.le_trans h2.length_le hl⟩
 ·refine (addSets_iff all t _).2 ?_
  rcases (addSets_iff all t s).1 hs with h1 | h1
  ·exact .inl (h.faces s h1 h2 k hk)
  ·refine .inr ((subsetsC_iff t _).2 ⟨(List.eraseIdx_sublist s k).trans ((subsetsC_iff t s).1 h1).1, fun e => ?_⟩)
   have := congrArg List.length e
   rw [List.length_eraseIdx] at this
   simp [hk] at this
   omega
theorem simpAll_good : ∀ (ls acc : List (List Int)) {all : List (List Int)}, simpAll acc ls = some all → Good acc → acc.length ≤ 4000 → Good all ∧ all.length ≤ 4000
 | [], acc, all, h, hg, hl => by cases h; exact ⟨hg, hl⟩
 | s :: r, acc, all, h, hg, hl => by
  unfold simpAll at h
  split at h
  ·exact simpAll_good r acc h hg hl
  ·rename_i hb
   split at h
   ·cases h
   ·rename_i hlen
    refine simpAll_good r _ h (hg.add (setC_strict s) ?_) oM
    cases hc : setC s with
    | nil => simp
    | cons a q =>
     rw [hc] at hb
     simp [badSet] at hb
     simp
     omega
section
variable {all : List (List Int)} (hg : Good all)
include hg
theorem Good.get_lb {t : List Int} (ht : t ∈ all) : all[lbL all t]? = some t := by
 obtain ⟨h1, h2⟩ := lbL_split t hg.strict.srt
 have hs : StrictL (all.take (lbL all t) ++ all.drop (lbL all t)) := by rw [List.take_append_drop]; exact hg.strict
 have hd := (List.pairwise_append.1 hs).2.1
 have hm : t ∈ all.drop (lbL all t) := by
  have : t ∈ all.take (lbL all t) ++ all.drop (lbL all t) := by rw [List.take_append_drop]; exact ht
  rcases List.mem_append.1 this with h | h
  ·have := h1 t h
   rw [compareC_self] at this
   exact absurd this dC
  ·exact h
 have e : all[lbL all t]? = (all.drop (lbL all t))[0]? := by simp
 rw [e]
 cases hc : all.drop (lbL all t) with
 | nil => rw [hc] at hm; simp at hm
 | cons y r =>
  rw [hc] at hm hd h2
  rcases List.mem_cons.1 hm with rfl | hm
  ·rfl
  ·exact absurd ((List.pairwise_cons.1 hd).1 t hm) (h2 y (by simp))
theorem Good.lb_get {k : Nat} (hk : k < all.length) : lbL all all[k] = k := by
 have h1 := hg.get_lb (List.getElem_mem hk)
 obtain ⟨h2, h3⟩ := List.getElem?_eq_some_iff.1 h1
 have hself : ¬ compareC all[k] all[k] < 0 := by rw [compareC_self]; decide
 rcases Nat.lt_trichotomy (lbL all all[k]) k with h | h | h
 ·have := List.pairwise_iff_getElem.1 hg.strict _ _ h2 hk h
  rw [h3] at this
  exact absurd this hself
 ·exact h
 ·have := List.pairwise_iff_getElem.1 hg.strict _ _ hk h2 h
  rw [h3] at this
  exact absurd this hself
end
def ixC (all : List (List Int)) (t : List Int) : Int := ((lbL all t : Nat) : Int) + 1
theorem Good.inj {all : List (List Int)} (hg : Good all) {t u : List Int} (ht : t ∈ all) (hu : u ∈ all) (h : ixC all t = ixC all u) : t = u := by
 have h1 := hg.get_lb ht
 have h2 := hg.get_lb hu
 have : lbL all t = lbL all u := by unfold ixC at h; omega
 rw [this, h2] at h1
 injection h1 with h1
 exact h1.symm
theorem Good.lt {all : List (List Int)} (hg : Good all) {t u : List Int} (ht : t ∈ all) (hu : u ∈ all) (h : compareC t u < 0) : ixC all t < ixC all u := by
 obtain ⟨i1, e1⟩ := List.getElem?_eq_some_iff.1 (hg.get_lb ht)
 obtain ⟨i2, e2⟩ := List.getElem?_eq_some_iff.1 (hg.get_lb hu)
 unfold ixC
 rcases Nat.lt_trichotomy (lbL all t) (lbL all u) with h1 | h1 | h1
 ·omega
 ·have : t = u := hg.inj ht hu (by unfold ixC; omega)
  subst this
  rw [compareC_self] at h
  exact absurd h dC
 ·have := List.pairwise_iff_getElem.1 hg.strict _ _ i2 i1 h1
  rw [e1, e2] at this
  exact absurd h (compareC_asymm this)
def facesC (all : List (List Int)) (s : List Int) : List Side := if s.length ≤ 1 then [] else (List.range s.length).reverse.map fun k : Nat => ⟨ixC all (s.eraseIdx k), signC k⟩
def celC (all : List (List Int)) (s : List Int) : Cl := ⟨ixC all s, (s.length : Int) - 1, facesC all s⟩
theorem erase_lt {s : List Int} (hs : StrictI s) : ∀ {i j : Nat}, i < j → j < s.length → compareC (s.eraseIdx j) (s.eraseIdx i) < 0 := by
 induction s with
 | nil => intro i j _ h; simp at h
 | cons a r ih =>
  intro i j hij hj
  obtain ⟨h1, h2⟩ := List.pairwise_cons.1 hs
  cases j with
  | zero => omega
  | succ j =>
   simp only [List.length_cons] at hj
   cases i with
   | zero =>
    cases r with
    | nil => simp at hj
    | cons b q =>
     have hab := h1 b (by simp)
     have hl : ((a :: b :: q).eraseIdx (j + 1)).length = ((a :: b :: q).eraseIdx 0).length := by
      simp [List.length_eraseIdx] at hj ⊢
      omega
     rw [compareC_same hl]
     simp only [List.eraseIdx_cons_succ, List.eraseIdx_cons_zero, cmpL]
     have : cmpI a b = -1 := by unfold cmpI; rw [if_pos hab]
     simp [this]
   | succ i =>
    have h3 := ih h2 (i := i) (j := j) oM oM
    have hl : (r.eraseIdx j).length = (r.eraseIdx i).length := by
     rw [List.length_eraseIdx, List.length_eraseIdx, if_pos oM, if_pos oM]
    have hl2 : ((a :: r).eraseIdx (j + 1)).length = ((a :: r).eraseIdx (i + 1)).length := by simp [hl]
    rw [compareC_same hl] at h3
    rw [compareC_same hl2]
    simp only [List.eraseIdx_cons_succ, cmpL]
    have : cmpI a a = 0 := by unfold cmpI; rw [if_neg oM, if_neg oM]
    simpa [this] using h3
theorem find_mem {A : List Cl} (h : (A.map Cl.id).Nodup) {x : Cl} (hx : x ∈ A) : findT A x.id = some x := by
 induction A with
 | nil => simp at hx
 | cons c t ih =>
  simp only [List.map_cons, List.nodup_cons] at h
  unfold findT
  rcases List.mem_cons.1 hx with rfl | hx
  ·simp
  ·have hne : ¬ c.id = x.id := fun e => h.1 (by rw [e]; exact List.mem_map.2 ⟨x, hx, rfl⟩)
   rw [List.find?_cons]
   simp only [hne, decide_false]
   exact ih h.2 hx
theorem normC_idem (c : Cl) : normC (normC c) = normC c := by
 unfold normC
 rw [← eq_sortBy (sortBy_srt c.sides) (Stab.refl _)]
theorem canonC_idem (l : List Cl) : canonC (canonC l) = canonC l := by
 have h1 : sortBy Cl.id (canonC l) = canonC l := (eq_sortBy (canonC_srt l) (Stab.refl _)).symm
 show (sortBy Cl.id (canonC l)).map normC = canonC l
 rw [h1]
 unfold canonC
 rw [List.map_map]
 exact List.map_congr_left fun c _ => normC_idem c
theorem sort_rev {α : Type} {key : α → Int} {l : List α} (h : l.Pairwise fun a b => key b < key a) : sortBy key l = l.reverse := by
 refine (eq_sortBy ?_ ⟨by simp, fun c => ?_⟩).symm
 ·unfold Srt
  rw [List.pairwise_reverse]
  exact h.imp fun h => by omega
 ·rw [List.filter_reverse]
  have : ∀ m : List α, m.Pairwise (fun a b => key b < key a) → (∀ a ∈ m, (key a == c) = true) → m.reverse = m := by
   intro m hm hc
   match m, hm, hc with
   | [], _, _ => rfl
   | [_], _, _ => rfl
   | a :: b :: r, hm, hc =>
    have h1 := (List.pairwise_cons.1 hm).1 b (by simp)
    have h2 := hc a (by simp)
    have h3 := hc b (by simp)
    simp at h2 h3
    omega
  exact this _ (h.sublist List.filter_sublist) fun a ha => (List.mem_filter.1 ha).2
section
variable {all : List (List Int)} (hg : Good all)
include hg
theorem Good.face {s : List Int} (hs : s ∈ all) {k : Nat} (hk : k < s.length) (h2 : 2 ≤ s.length) : s.eraseIdx k ∈ all ∧ (s.eraseIdx k).length = s.length - 1 :=
 ⟨hg.faces s hs h2 k hk, by rw [List.length_eraseIdx, if_pos hk]⟩
theorem Good.sides {s : List Int} (hs : s ∈ all) : sortBy Side.cell (simpSides all s s.length) = facesC all s := by
 have hne := (hg.form s hs).1
 have hst := (hg.form s hs).2.1
 by_cases h1 : s.length ≤ 1
 ·have h0 : s.length = 1 := by have := List.length_pos_iff.2 hne; omega
  unfold facesC
  rw [if_pos h1, h0]
  have : sideAt all s 0 = [] := by
   unfold sideAt
   have h3 : (s.eraseIdx 0).length = 0 := by rw [List.length_eraseIdx, if_pos oM]; omega
   rw [if_neg oM]
  simp [simpSides, List.range_succ, this, sortBy]
 ·have h2 : 2 ≤ s.length := oM
  have e : simpSides all s s.length = (List.range s.length).map fun k : Nat => (⟨ixC all (s.eraseIdx k), signC k⟩ : Side) := by
   unfold simpSides
   rw [List.flatMap_def]
   have : (List.range s.length).map (sideAt all s) = (List.range s.length).map fun k : Nat => [(⟨ixC all (s.eraseIdx k), signC k⟩ : Side)] := List.map_congr_left fun k hk => by
    have hk := List.mem_range.1 hk
    unfold sideAt
    rw [(hg.face hs hk h2).2, if_pos oM]
    rfl
   rw [this]
   generalize List.range s.length = R
   induction R with
   | nil => rfl
   | cons x r ih => simp only [List.map_cons, List.flatten_cons, ih]; rfl
  unfold facesC
  rw [if_neg h1, e, List.map_reverse]
  refine sort_rev ?_
  rw [List.pairwise_map]
  refine List.Pairwise.imp_of_mem ?_ (List.pairwise_lt_range (n := s.length))
  intro i j hi hj hij
  have hi := List.mem_range.1 hi
  have hj := List.mem_range.1 hj
  exact hg.lt (hg.face hs hj h2).1 (hg.face hs hi h2).1 (erase_lt hst hij hj)
theorem Good.cells : canonC (simpCells all) = all.map (celC all) := by
 rw [canon_simp]
 apply List.ext_getElem?
 intro k
 simp only [List.getElem?_map]
 by_cases hk : k < all.length
 ·rw [simpCells_get hk, List.getElem?_eq_getElem hk]
  simp only [Option.map_some, Option.some.injEq]
  unfold normC simpCell celC
  simp only [hg.sides (List.getElem_mem hk), ixC, hg.lb_get hk]
 ·rw [List.getElem?_eq_none (by rw [simpCells_length]; omega), List.getElem?_eq_none oM]
  rfl
theorem Good.ids : ((all.map (celC all)).map Cl.id).Pairwise (· < ·) := by
 rw [List.map_map, List.pairwise_map]
 refine List.Pairwise.imp_of_mem ?_ hg.strict
 intro a b ha hb h
 exact hg.lt ha hb h
theorem Good.find {s : List Int} (hs : s ∈ all) : findT (all.map (celC all)) (ixC all s) = some (celC all s) :=
 find_mem (x := celC all s) (hg.ids.imp fun h => by omega) (List.mem_map.2 ⟨s, hs, rfl⟩)
end
theorem signC_one (k : Nat) : signC k = 1 ∨ signC k = -1 := by unfold signC; omega
theorem facesC_get {all : List (List Int)} {s : List Int} (h : 2 ≤ s.length) {i : Nat} (hi : i < s.length) : (facesC all s)[i]? = some ⟨ixC all (s.eraseIdx (s.length - 1 - i)), signC ((s.length - 1 - i : Nat) : Int)⟩ := by
 unfold facesC
 rw [if_neg oM, List.getElem?_map, List.getElem?_reverse (by simpa using hi)]
 simp only [List.length_range]
 rw [List.getElem?_range oM]
 rfl
theorem facesC_length {all : List (List Int)} {s : List Int} : (facesC all s).length = if s.length ≤ 1 then 0 else s.length := by
 unfold facesC
 split <;> simp
section
variable {all : List (List Int)} (hg : Good all)
include hg
theorem Good.formOk {s : List Int} (hs : s ∈ all) : formC (all.map (celC all)) (celC all s) = 0 := by
 obtain ⟨hne, hst, h9⟩ := hg.form s hs
 have hp := List.length_pos_iff.2 hne
 have hlen : (celC all s).sides.length = if s.length ≤ 1 then 0 else s.length := facesC_length
 have hdim : (celC all s).dim = (s.length : Int) - 1 := rfl
 have h1 : dimBad (celC all s) = false := by unfold dimBad; rw [hdim]; simp; omega
 have h2 : cntBad (celC all s) = false := by
  unfold cntBad
  rw [hdim, hlen]
  split
  ·simp; omega
  ·simp; omega
 have h3 : (List.range (celC all s).sides.length).any (badAt (all.map (celC all)) (celC all s)) = false := by
  rw [List.any_eq_false]
  intro i hi
  have hi := List.mem_range.1 hi
  rw [hlen] at hi
  split at hi
  ·omega
  ·rename_i hl
   have h2 : 2 ≤ s.length := oM
   have hgi := facesC_get (all := all) h2 hi
   have hf := hg.face hs (k := s.length - 1 - i) oM h2
   unfold badAt
   rw [show (celC all s).sides[i]? = _ from hgi]
   show ¬ badSide _ _ i ⟨ixC all (s.eraseIdx (s.length - 1 - i)), _⟩ = true
   unfold badSide
   dsimp only
   rw [hg.find hf.1]
   have hd : (celC all (s.eraseIdx (s.length - 1 - i))).dim = (celC all s).dim - 1 := by
    show ((s.eraseIdx (s.length - 1 - i)).length : Int) - 1 = (s.length : Int) - 1 - 1
    rw [hf.2]
    omega
   simp only [Option.isSome_some, Bool.not_true, Bool.false_or, Option.getD_some, hd, ne_eq, not_true_eq_false, decide_false]
   by_cases hi0 : i > 0
   ·have hgp := facesC_get (all := all) h2 (i := i - 1) oM
    rw [show (celC all s).sides[i - 1]? = _ from hgp]
    have hf2 := hg.face hs (k := s.length - 1 - (i - 1)) oM h2
    have := hg.lt hf2.1 hf.1 (erase_lt hst oM oM)
    simp
    omega
   ·simp [hi0]
 have h4 : (celC all s).sides.any signBad = false := by
  rw [List.any_eq_false]
  intro x hx
  show ¬ signBad x = true
  have hx : x ∈ facesC all s := hx
  unfold facesC at hx
  split at hx
  ·simp at hx
  ·obtain ⟨k, _, rfl⟩ := List.mem_map.1 hx
   rcases signC_one k with h | h <;> simp [signBad, h]
 have h5 : (decide ((celC all s).dim = 1) && decide (sumS (celC all s).sides ≠ 0)) = false := by
  by_cases hd : (celC all s).dim = 1
  ·rw [hdim] at hd
   have hl2 : s.length = 2 := oM
   have : sumS (celC all s).sides = 0 := by
    show sumS (facesC all s) = 0
    unfold facesC
    rw [if_neg oM, hl2]
    simp [List.range_succ, sumS, signC]
   rw [this]
   simp
  ·simp [hd]
 unfold formC
 rw [h1, h2, h3, h4, h5]
 rfl
end
theorem erase_comm (s : List Int) : ∀ {k q : Nat}, k ≤ q → (s.eraseIdx k).eraseIdx q = (s.eraseIdx (q + 1)).eraseIdx k := by
 induction s with
 | nil => intro k q _; rfl
 | cons a r ih =>
  intro k q h
  cases k with
  | zero => simp
  | succ k =>
   cases q with
   | zero => omega
   | succ q =>
    simp only [List.eraseIdx_cons_succ]
    rw [ih oM]
theorem mem_erase2 {s : List Int} (hs : s.Nodup) {a b i : Nat} (hab : a < b) (hb : b < s.length) (hi : i < s.length) : s[i] ∈ (s.eraseIdx b).eraseIdx a ↔ i ≠ a ∧ i ≠ b := by
 have hinj : ∀ {j k : Nat} (hj : j < s.length) (hk : k < s.length), s[j] = s[k] → j = k := fun {j k} hj hk e => by
  rcases Nat.lt_trichotomy j k with h | h | h
  ·exact absurd e (List.pairwise_iff_getElem.1 hs j k hj hk h)
  ·exact h
  ·exact absurd e.symm (List.pairwise_iff_getElem.1 hs k j hk hj h)
 rw [List.mem_eraseIdx_iff_getElem]
 constructor
 ·rintro ⟨j, hj1, hj2, e⟩
  have hj1' := hj1
  rw [List.length_eraseIdx, if_pos hb] at hj1'
  rw [List.getElem_eraseIdx] at e
  split at e
  ·have := hinj _ _ e
   omega
  ·have := hinj _ _ e
   omega
 ·rintro ⟨h1, h2⟩
  rcases Nat.lt_or_ge i b with h | h
  ·refine ⟨i, by rw [List.length_eraseIdx, if_pos hb]; omega, h1, ?_⟩
   rw [List.getElem_eraseIdx, dif_pos h]
  ·refine ⟨i - 1, by rw [List.length_eraseIdx, if_pos hb]; omega, oM, ?_⟩
   rw [List.getElem_eraseIdx, dif_neg oM]
   congr 1
   omega
theorem erase2_inj {s : List Int} (hs : s.Nodup) {a b c d : Nat} (hab : a < b) (hb : b < s.length) (hcd : c < d) (hd : d < s.length) (h : (s.eraseIdx b).eraseIdx a = (s.eraseIdx d).eraseIdx c) : a = c ∧ b = d := by
 have key : ∀ i, i < s.length → ((i ≠ a ∧ i ≠ b) ↔ (i ≠ c ∧ i ≠ d)) := fun i hi => by
  rw [← mem_erase2 hs hab hb hi, ← mem_erase2 hs hcd hd hi, h]
 have ha := key a oM
 have hb' := key b hb
 have hc := key c oM
 have hd' := key d hd
 omega
def phiC (all : List (List Int)) (s : List Int) (c : Int) : Int := ixC all ((s.eraseIdx (c % 16).toNat).eraseIdx (c / 16).toNat)
theorem code_ab {n k q : Nat} (hk : k < n) (hq : q < n - 1) : ∃ a b : Nat, a < b ∧ b < n ∧ code k q = ((a * 16 + b : Nat) : Int) ∧ ((q < k ∧ a = q ∧ b = k) ∨ (k ≤ q ∧ a = k ∧ b = q + 1)) := by
 unfold code
 by_cases h : q < k
 ·rw [if_pos h]; exact ⟨q, k, h, hk, rfl, .inl ⟨h, rfl, rfl⟩⟩
 ·rw [if_neg h]; exact ⟨k, q + 1, oM, oM, rfl, .inr ⟨oM, rfl, rfl⟩⟩
theorem code_div {a b : Nat} (h : b < 16) : ((((a * 16 + b : Nat) : Int) % 16).toNat = b) ∧ ((((a * 16 + b : Nat) : Int) / 16).toNat = a) := oM
section
variable {all : List (List Int)} (hg : Good all)
include hg
theorem Good.aroundOk {s : List Int} (hs : s ∈ all) (h3 : 2 < s.length) : aroundC (all.map (celC all)) (celC all s) = 0 := by
 obtain ⟨hne, hst, h9⟩ := hg.form s hs
 have hnd : s.Nodup := hst.imp fun h => by omega
 have hE : ∀ a b, a < b → b < s.length → (s.eraseIdx b).eraseIdx a ∈ all := fun a b hab hb => by
  have h1 := hg.face hs (k := b) hb oM
  exact (hg.face h1.1 (k := a) (by rw [h1.2]; omega) (by rw [h1.2]; omega)).1
 have hlook : lookL (all.map (celC all)) (celC all s) = renL (phiC all s) (patS s.length) := by
  unfold lookL renL patS
  show (facesC all s).map _ = _
  unfold facesC
  rw [if_neg oM, List.map_map, List.map_map]
  refine List.map_congr_left fun k hk => ?_
  have hk : k < s.length := by simpa using hk
  have hf := hg.face hs hk oM
  simp only [Function.comp_def]
  congr 1
  unfold sidesOf
  rw [hg.find hf.1]
  show facesC all (s.eraseIdx k) = _
  unfold facesC
  rw [hf.2, if_neg oM, List.map_map]
  refine List.map_congr_left fun q hq => ?_
  have hq : q < s.length - 1 := by simpa using hq
  obtain ⟨a, b, hab, hb, hc, hcase⟩ := code_ab hk hq
  simp only [Function.comp_def, renS]
  congr 1
  unfold phiC
  rw [hc, (code_div (a := a) (b := b) oM).1, (code_div (a := a) (b := b) oM).2]
  rcases hcase with ⟨_, rfl, rfl⟩ | ⟨h, rfl, rfl⟩
  ·rfl
  ·rw [erase_comm s h]
 rw [aroundC_L, hlook, aroundL_ren, patS_ok _ oM h3]
 have hkey : ∀ x ∈ keyL (patS s.length), ∃ a b : Nat, a < b ∧ b < s.length ∧ x = ((a * 16 + b : Nat) : Int) := by
  intro x hx
  obtain ⟨p, hp, hx⟩ := List.mem_flatMap.1 hx
  obtain ⟨k, hk, rfl⟩ := List.mem_map.1 hp
  obtain ⟨r, hr, rfl⟩ := List.mem_map.1 hx
  obtain ⟨q, hq, rfl⟩ := List.mem_map.1 hr
  obtain ⟨a, b, hab, hb, hc, _⟩ := code_ab (n := s.length) (k := k) (q := q) (by simpa using hk) (by simpa using hq)
  exact ⟨a, b, hab, hb, hc⟩
 intro x hx y hy h
 obtain ⟨a, b, hab, hb, rfl⟩ := hkey x hx
 obtain ⟨c, d, hcd, hd, rfl⟩ := hkey y hy
 unfold phiC at h
 rw [(code_div (a := a) (b := b) oM).1, (code_div (a := a) (b := b) oM).2, (code_div (a := c) (b := d) oM).1, (code_div (a := c) (b := d) oM).2] at h
 obtain ⟨rfl, rfl⟩ := erase2_inj hnd hab hb hcd hd (hg.inj (hE a b hab hb) (hE c d hcd hd) h)
 rfl
end
theorem chk1_fine {tl : List Cl} : ∀ {l : List Cl} {n : Int}, (∀ x ∈ l, n < x.id) → l.Pairwise (fun a b => a.id < b.id) → (∀ x ∈ l, formC tl x = 0) → chk1 tl l n = none
 | [], _, _, _, _ => rfl
 | x :: r, n, h1, h2, h3 => by
  have hx := h1 x (by simp)
  obtain ⟨h4, h5⟩ := List.pairwise_cons.1 h2
  unfold chk1
  rw [if_neg oM, if_neg (by rw [h3 x (by simp)]; simp)]
  exact chk1_fine h4 h5 fun y hy => h3 y (by simp [hy])
theorem chk2_fine {tl : List Cl} : ∀ {l : List Cl}, (∀ x ∈ l, x.dim > 1 → aroundC tl x = 0) → chk2 tl l = none
 | [], _ => rfl
 | x :: r, h => by
  unfold chk2
  rw [if_neg fun ⟨h1, h2⟩ => h2 (h x (by simp) h1)]
  exact chk2_fine fun y hy => h y (by simp [hy])
theorem check_ok {l : List Cl} (h0 : l.length ≤ 4000) (h1 : ∀ x ∈ canonC l, 0 < x.id) (h2 : (canonC l).Pairwise fun a b => a.id < b.id) (h3 : ∀ x ∈ canonC l, formC (canonC l) x = 0) (h4 : ∀ x ∈ canonC l, x.dim > 1 → aroundC (canonC l) x = 0) : checkC l = (0, 0) := by
 unfold checkC
 rw [if_neg oM, tabC_strict h2, chk1_fine h1 h2 h3, chk2_fine h4]
 rfl
theorem simpC_right (ls : List (List Int)) : checkC (simpC ls) = (0, 0) := by
 unfold simpC
 cases h : simpAll [] ls with
 | none => rfl
 | some all =>
  obtain ⟨hg, hl⟩ := simpAll_good ls [] h Good.nil (by simp)
  dsimp only
  have hc : canonC (canonC (simpCells all)) = all.map (celC all) := by rw [canonC_idem, hg.cells]
  have hi := hg.ids
  rw [List.pairwise_map] at hi
  refine check_ok (by rw [hg.cells]; simpa using hl) ?_ ?_ ?_ ?_ <;> rw [hc]
  ·intro x hx
   obtain ⟨s, _, rfl⟩ := List.mem_map.1 hx
   show 0 < ixC all s
   unfold ixC
   omega
  ·exact hi
  ·intro x hx
   obtain ⟨s, hs, rfl⟩ := List.mem_map.1 hx
   exact hg.formOk hs
  ·intro x hx hd
   obtain ⟨s, hs, rfl⟩ := List.mem_map.1 hx
   refine hg.aroundOk hs ?_
   have : (s.length : Int) - 1 > 1 := hd
   omega
open Go.ChangeShapes Go.WideShapes Go.ChangeAt Go.RowKit
set_option maxRecDepth 100000
section
variable {H : Type} {enc : TypeId × Value → H} {W : World} {base : Nat} {spare : Nat → Bool} {hd : Bool}
theorem Tryz.bytes3 : Tryz.prog.bytesOf 3 = 8 := by kernel_rfl
theorem lits_length (k : IntKind) (zs : List Int) : (lits (H := H) k zs).length = zs.length := by simp [lits]
theorem ints_le {fuel : Nat} {v : Value} {x : DataW H × List MemPlace} (h : DataW.trod enc Tryz.prog W base spare hd fuel 45 [v] = some x) (hw : ∀ n ∈ x.1.weights Tryz.prog 45, n ≤ reachBytes) :
  ∃ (l : List Int) (r : Sv), v = .slice r.p r.n r.c ∧ Ints (held W) v l ∧ l.length < 17592186044416 := by
 obtain ⟨l, r, hv, hi⟩ := ints_of h
 refine ⟨l, r, hv, hi, ?_⟩
 subst hv
 have hn := (SlA.cap hi).1
 rcases open_ints underlying45 underlying3 cells3 h with ⟨hcs, _⟩ | ⟨a, len, cap, zs, hcs, _, hl, _, hz, rfl, _⟩
 ·simp at hcs
  omega
 ·simp at hcs
  have hlz : len ≤ zs.length := by rw [hz]; split <;> omega
  have h1 := hw ((zs.take len).length * 8 + (zs.drop len).length * 8) (by
   simp only [DataW.weights, underlying45, bytes3, lits_length]
   rw [← Nat.add_mul]
   exact List.mem_cons_self)
  rw [List.length_take, List.length_drop] at h1
  unfold reachBytes at h1
  omega
theorem weightsAll_mem {P : Program} {e : TypeId} {n : Nat} {d : DataW H} : ∀ {l : List (DataW H)}, d ∈ l → n ∈ d.weights P e → n ∈ DataW.weightsAll P e l
 | [], h, _ => by simp at h
 | x :: l, h, hn => by
  unfold DataW.weightsAll
  rcases List.mem_cons.1 h with rfl | h
  ·exact List.mem_append.2 (.inl hn)
  ·exact List.mem_append.2 (.inr (weightsAll_mem h hn))
theorem lists_le {fuel : Nat} {v : Value} {x : DataW H × List MemPlace} (h : DataW.trod enc Tryz.prog W base spare hd fuel 22 [v] = some x) (hw : ∀ n ∈ x.1.weights Tryz.prog 22, n ≤ reachBytes) :
  ∃ ls, Lists (held W) v ls ∧ ∀ l ∈ ls, l.length < 17592186044416 := by
 rcases Go.Deep.open_slice1 underlying22 cells45 h with ⟨hcs, _⟩ | ⟨a, len, cap, m, n, V, D, Pl, hcs, _, hl, _, hmm, hx0, hx⟩
 ·simp at hcs
  subst hcs
  exact ⟨[], ⟨[], Sl.nil _ _, trivial⟩, by simp⟩
 ·obtain ⟨ls, hls⟩ := lists_of h
  refine ⟨ls, hls, fun l hlm => ?_⟩
  simp at hcs
  subst hcs
  have hlm' : len ≤ m := by rw [hmm]; split <;> omega
  obtain ⟨rs, hrs, hall⟩ := hls
  have hrl := (SlA.cap hrs).1
  have hal := hall.length
  obtain ⟨i, hi, rfl⟩ := List.getElem_of_mem hlm
  have hir : i < rs.length := oM
  have hR := hall.get (List.getElem?_eq_getElem hi) (List.getElem?_eq_getElem hir)
  obtain ⟨hc, ht⟩ := hx i oM
  have hVi : V i = .slice rs[i].p rs[i].n rs[i].c := by
   obtain ⟨p, c, he, ⟨hlen, _⟩, hb⟩ := hrs
   injection he with e1 e2 e3
   subst e1
   have hne : rs.flatMap encSv.enc ≠ [] := fun e0 => by
    have := congrArg List.length e0
    rw [encSv.length] at this
    simp at this
    rw [this] at hir
    simp at hir
   obtain ⟨b, o, cs, T, fr, hp, hg, hcell⟩ := hb hne
   injection hp with hp
   subst hp
   have hg1 := encSv.get (List.getElem?_eq_getElem hir) (j := 0) (v := .slice rs[i].p rs[i].n rs[i].c) rfl
   have h2 := hcell (i * 1 + 0) _ hg1
   have hadd : (⟨b, o, none⟩ : Addr).add i = ⟨b, o + i, none⟩ := by unfold Addr.add; split <;> simp_all
   rw [hadd] at hc
   have hheap : W.heap[b]? = some (.cells cs T fr) := hg
   unfold World.cell? at hc
   simp only [hheap] at hc
   simp at hc h2
   rw [hc] at h2
   injection h2
  have hw2 : ∀ n ∈ (D i).weights Tryz.prog 45, n ≤ reachBytes := fun q hq => hw q (by
   rw [hx0]
   simp only [DataW.weights, underlying22]
   exact List.mem_cons_of_mem _ (List.mem_append.2 (.inl (weightsAll_mem (List.mem_map.2 ⟨i, List.mem_range.2 oM, rfl⟩) hq))))
  obtain ⟨l2, r2, e2, hI2, hlt⟩ := ints_le ht hw2
  rw [hVi] at e2 hI2
  have h3 := (SlA.cap hI2).1
  have h4 := (SlA.cap (show SlA encInt (held W) (.slice rs[i].p rs[i].n rs[i].c) ls[i] from hR)).1
  omega
end
theorem SU.min3 {P : Program} {N : Nat} {f : Fr} {dst : Option Tmp} {ty : TypeId} {pos : String} {af : Array Edge} {gd : Option (Nat × Bool)} {x : Operand} {T U : TypeId} {n : Nat} (hx : ev f x = some (vi n)) :
  SU P N ⟨dst, .call ⟨.builtin .min, #[x, .const (.int .i64 3)], #[T, U]⟩, ty, pos, af, gd⟩ f (vi (min n 3 : Nat)) := fun a w ha => by
 have h := run_min_int2 (P := P) (w := w) #[T, U] ty .i64 .i64 n 3
 have h2 : (if (3 : Int) < (n : Int) then (3 : Int) else (n : Int)) = ((min n 3 : Nat) : Int) := by split <;> omega
 rw [h2] at h
 have h3 : a.eval (.const (.int .i64 3)) = .int .i64 3 := rfl
 simp [execOp, resolve, invoke, builtin, ha.ev hx, h3, h]
theorem lawSame_refl (E : World) (g : PH) (s : Own) (v u : Value) (l : List Cl) (hv : Cells g v l) (hu : Cells g u l) (hf : Fits l) :
  Ctr Tryz.prog E 13 #[.agg #[v], .agg #[u]] g s (fun r g' s' => r = vb true ∧ g = g' ∧ s = s') :=
 (lawSame_spec E g s v u l l hv hu hf).mono fun _ _ _ ⟨h1, h2⟩ => ⟨by rw [h1, decide_eq_true rfl], h2⟩
theorem checkSimp_spec (E : World) (g : PH) (s : Own) (v : Value) (ls : List (List Int)) (hv : Cells g v (simpC ls)) :
  Ctr Tryz.prog E 12 #[.agg #[v]] g s (fun r g' s' => r = .tuple #[vi 0, vi 0] ∧ g = g' ∧ s = s') :=
 (check_spec E g s v _ hv (simpC_fits ls).1).mono fun _ _ _ ⟨h1, h2⟩ => ⟨by rw [h1, simpC_right], h2⟩
theorem all2_take {α β : Type} {R : α → β → Prop} : ∀ {l : List α} {m : List β} (n : Nat), All2 R l m → All2 R (l.take n) (m.take n)
 | [], [], n, _ => by simp [All2]
 | a :: l, b :: m, 0, _ => trivial
 | a :: l, b :: m, n + 1, h => ⟨h.1, all2_take n h.2⟩
 | [], _ :: _, _, h => h.elim
 | _ :: _, [], _, h => h.elim
theorem cellsSimplices_spec (E : World) (hE : E.drawn = 0) (g : PH) (s : Own) (v u : Value) (ls ms : List (List Int)) (hv : Lists g v ls) (hu : Lists g u ms) (hms : ∀ x ∈ ms, x.length < 17592186044416) :
  Ctr Tryz.prog E 3 #[v, u] g s (fun r g' s' => r = vb true ∧ s = s' ∧ Le g g') := by
 obtain ⟨us, hus, hallu⟩ := hu
 have hul := hallu.length
 obtain ⟨pu, cu, rfl⟩ := SlA.form hus
 have hss := sets_small ls
 have hsx : ∀ x ∈ setsC ls, x.length < 17592186044416 := fun x hx => by have := hss.2 x hx; omega
 have hsy : ∀ x ∈ setsC ls ++ ms.take (min us.length 3), x.length < 17592186044416 := fun x hx => by
  rcases List.mem_append.1 hx with hx | hx
  ·exact hsx x hx
  ·exact hms x (List.mem_of_mem_take hx)
 have hsl : (setsC ls ++ ms.take (min us.length 3)).length < 1099511627776 := by simp; omega
 have hcap := (SlA.cap hus).2
 refine Ctr.of (args := [v, .slice pu us.length cu]) func3 rfl ntmps3 (Nat.le_of_ble_eq_true rfl) ?_
 refine SC.seq (SC.region (SL.A rfl (SL.nil (ST.thenN (SC.seq (SC.region (SL.W (SO.call call9 rfl (sanity_spec E hE g _)) ?_)))))))
 rintro _ g1 _ ⟨rfl, rfl, hle1⟩
 have hv1 := hv.mono hle1
 refine SL.A rfl (SL.nil (ST.thenN (SC.seq (SC.region (SL.M rfl (SL.W (SO.call call10 rfl (sets_spec E g1 _ _ ls hv1)) ?_))))))
 rintro v16 g2 _ ⟨rs1, rfl, hle2, hall1⟩
 refine SL.freezeRow fun g3 hle3 hs3 => ?_
 have hall3 := hall1.mono fun _ _ => ListR.mono hle3
 have hl3 : Lists g3 v16 (setsC ls) := ⟨rs1, hs3, hall3⟩
 have hle13 := hle1.trans (hle2.trans hle3)
 have hus3 := SlA.mono hus hle13
 have hr1 := hall1.length
 refine SL.A rfl (SL.nil (ST.thenN (SC.seq ?_)))
 refine SC.draw [0, 2, 8] [(1, 2), (3, 2), (4, 2), (5, 2), (6, 2), (7, 2), (0, 0), (2, 0), (8, 0), (9, 2)] Tryz.mixed (by kernel_rfl) ?_
 refine SP.U (i := 1) rfl (SU.move rfl) (SP.U (i := 3) rfl (SU.move rfl) (SP.U (i := 4) rfl (SU.move rfl) (SP.U (i := 5) rfl (SU.lenN underlying22 rfl) (SP.U (i := 6) rfl (SU.min3 rfl) (SP.U (i := 7) rfl (SU.sliceH underlying22 sizeOf45 rfl rfl oM oM) (SP.o (i := 0) rfl (SO.buildSlice sty22 rfl rfl rfl (szs_mk trivial) dC) dC (.inl dC) ?_))))))
 rintro _ _ _ ⟨b17, rfl, rfl, rfl⟩
 refine SP.to (g' := g3) (s' := rowA encSv 45 (.slice (some ⟨b17, 0, none⟩) 0 0) [] :: s) (fun w hw => (hw.sublist (.cons _ (.refl _))).emptyRow _ 1 _) ?_
 refine SP.o (i := 2) rfl (SO.appA (e := encSv) (l := []) (m := rs1) 0 sty22 rfl rfl rfl hs3 (by simp; omega) (by simp; omega)) dC (.inl dC) ?_
 rintro v19 _ _ ⟨rfl, rfl⟩
 refine SP.o (i := 8) rfl (SO.appA (e := encSv) (l := rs1) (m := us.take (min us.length 3)) 0 sty22 rfl rfl rfl (by have := SlA.cut hus3 (l := 0) (m := min us.length 3) oM oM; simpa using this) (by simp; omega) (by simp; omega)) dC (.inl dC) ?_
 rintro v25 _ _ ⟨rfl, rfl⟩
 refine SP.freezeRow fun g4 hle4 hs4 => ?_
 have hl4 : Lists g4 v25 (setsC ls ++ ms.take (min us.length 3)) := ⟨rs1 ++ us.take (min us.length 3), hs4, (hall3.mono fun _ _ => ListR.mono hle4).append (all2_take _ (hallu.mono fun _ _ => ListR.mono (hle13.trans hle4)))⟩
 have hl34 := hl3.mono hle4
 refine SP.U (i := 9) rfl (SU.assign rfl) (SP.nil (ST.thenN (SC.seq (SC.region (SL.M rfl (SL.W (SO.call call11 rfl (simplicial_spec E g4 _ _ _ hl34 oM hsx)) ?_))))))
 rintro _ g5 _ ⟨rfl, hle5, x5, rfl, hx5⟩
 obtain ⟨q5, d5, rfl⟩ := hx5.form
 refine SL.W (SO.alloc zeroValue27) ?_
 rintro _ _ _ ⟨b8, rfl, rfl, rfl⟩
 refine SL.on (SO.storeAllK 0 sizeOf27 rfl rfl rfl rfl rfl (by exact ⟨rfl, trivial⟩)) ?_
 rintro _ _ _ ⟨rfl, rfl⟩
 refine SL.nil (ST.thenN (SC.seq (SC.region (SL.M rfl (SL.W (SO.call call11 rfl (simplicial_spec E g5 _ _ _ (hl4.mono hle5) hsl hsy)) ?_)))))
 rintro _ g6 _ ⟨rfl, hle6, x6, rfl, hx6⟩
 obtain ⟨q6, d6, rfl⟩ := hx6.form
 have hx56 := hx5.mono hle6
 refine SL.W (SO.alloc zeroValue27) ?_
 rintro _ _ _ ⟨b9, rfl, rfl, rfl⟩
 refine SL.on (SO.storeAllK 0 sizeOf27 rfl rfl rfl rfl rfl (by exact ⟨rfl, trivial⟩)) ?_
 rintro _ _ _ ⟨rfl, rfl⟩
 refine SL.nil (ST.thenN (SC.seq (SC.region (SL.K (SQ.loadVarK 1 isAgg27 sizeOf27 rfl rfl rfl) (SL.W (SO.call call12 rfl (checkSimp_spec E g6 _ _ _ hx56)) ?_)))))
 rintro _ _ _ ⟨rfl, rfl, rfl⟩
 refine SL.M rfl (SL.U (SU.extract rfl rfl) (SL.U (SU.extract rfl rfl) (SL.A rfl (SL.A rfl (SL.nil (ST.thenN (SC.seq (SC.region (SL.K (SQ.loadVarK 0 isAgg27 sizeOf27 rfl rfl rfl) (SL.W (SO.call call12 rfl (checkSimp_spec E g6 _ _ _ hx6)) ?_))))))))))
 rintro _ _ _ ⟨rfl, rfl, rfl⟩
 refine SL.M rfl (SL.U (SU.extract rfl rfl) (SL.U (SU.extract rfl rfl) (SL.A rfl (SL.A rfl (SL.nil (ST.thenN (SC.seq ?_)))))))
 refine SC.draw [] [(0, 2), (1, 2), (2, 1), (3, 2), (4, 0), (5, 0), (6, 2), (7, 2), (8, 1), (9, 2), (10, 0), (11, 0), (12, 2), (13, 2), (14, 2), (15, 2), (16, 2), (17, 2), (18, 2), (19, 2), (20, 2), (21, 2)] Tryz.mixed (by kernel_rfl) ?_
 refine SP.U (i := 0) rfl (SU.move rfl) (SP.U (i := 1) rfl (SU.move rfl) (SP.gq (i := 2) rfl (Gd.onT rfl rfl rfl dC) (SQ.loadVarK 1 isAgg27 sizeOf27 rfl rfl rfl) dC (SP.gu (i := 3) rfl (Gd.onT rfl rfl rfl dC) (SU.move rfl) dC (SP.go (i := 4) rfl (Gd.onT rfl rfl rfl dC) (SO.call call14 rfl (refSimplicial_spec E g6 _ _ _ (hl34.mono (hle5.trans hle6)) oM hsx)) dC (.inr (by rintro _ g7 _ ⟨rfl, hle7, x7, rfl, hx7⟩; exact ⟨by assumption, (by exact .refl _)⟩)) ?_))))
 rintro _ g7 _ ⟨rfl, hle7, x7, rfl, hx7⟩
 obtain ⟨q7, d7, rfl⟩ := hx7.form
 refine SP.go (i := 5) rfl (Gd.onT rfl rfl rfl dC) (SO.call call13 rfl (lawSame_refl E g7 _ _ _ _ (hx56.mono hle7) hx7 (simpC_fits _).1)) dC (.inr (by rintro _ _ _ ⟨rfl, rfl, rfl⟩; exact ⟨by assumption, (by exact .refl _)⟩)) ?_
 rintro _ _ _ ⟨rfl, rfl, rfl⟩
 refine SP.U (i := 6) rfl (SU.pickT rfl rfl) (SP.U (i := 7) rfl (SU.move rfl) (SP.gq (i := 8) rfl (Gd.onT rfl rfl rfl dC) (SQ.loadVarK 0 isAgg27 sizeOf27 rfl rfl rfl) dC (SP.gu (i := 9) rfl (Gd.onT rfl rfl rfl dC) (SU.move rfl) dC (SP.go (i := 10) rfl (Gd.onT rfl rfl rfl dC) (SO.call call14 rfl (refSimplicial_spec E g7 _ _ _ (hl4.mono (hle5.trans (hle6.trans hle7))) hsl hsy)) dC (.inr (by rintro _ g8 _ ⟨rfl, hle8, x8, rfl, hx8⟩; exact ⟨by exact Le.trans (by assumption) (by assumption), (by exact .refl _)⟩)) ?_))))
 rintro _ g8 _ ⟨rfl, hle8, x8, rfl, hx8⟩
 obtain ⟨q8, d8, rfl⟩ := hx8.form
 have hle78 := hle7.trans hle8
 refine SP.go (i := 11) rfl (Gd.onT rfl rfl rfl dC) (SO.call call13 rfl (lawSame_refl E g8 _ _ _ _ (hx6.mono hle78) hx8 (simpC_fits _).1)) dC (.inr (by rintro _ _ _ ⟨rfl, rfl, rfl⟩; exact ⟨by assumption, (by exact .refl _)⟩)) ?_
 rintro _ _ _ ⟨rfl, rfl, rfl⟩
 refine SP.U (i := 12) rfl (SU.pickT rfl rfl) (SP.U (i := 13) rfl (SU.move rfl) (SP.gu (i := 14) rfl (Gd.onT rfl rfl rfl dC) (SU.move rfl) dC (SP.gu (i := 15) rfl (Gd.onT rfl rfl rfl dC) (SU.eq (v' := vb true) (SU.eql rfl rfl) rfl) dC (SP.U (i := 16) rfl (SU.pickT rfl rfl) (SP.U (i := 17) rfl (SU.move rfl) (SP.gu (i := 18) rfl (Gd.onT rfl rfl rfl dC) (SU.move rfl) dC (SP.gu (i := 19) rfl (Gd.onT rfl rfl rfl dC) (SU.eq (v' := vb true) (SU.eql rfl rfl) rfl) dC (SP.U (i := 20) rfl (SU.pickT rfl rfl) (SP.U (i := 21) rfl (SU.assign rfl) (SP.nil (ST.thenN (SC.ret (ST.drop (s' := s) (.cons _ (.cons _ (.refl _))) ?_)))))))))))))
 exact ST.ret1 (.inl rfl) results3 rfl ⟨rfl, rfl, hle13.trans (hle4.trans (hle5.trans (hle6.trans hle78)))⟩
end Go.Proofs.YtkdibcicncjpdaaGreat
