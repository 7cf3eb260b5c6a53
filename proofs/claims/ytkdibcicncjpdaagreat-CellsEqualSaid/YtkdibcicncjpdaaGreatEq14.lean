/- Set3 Prr SyQ Mad1 -/
import Derived.Test.YtkdibcicncjpdaaGreatEq13
import Derived.Test.YtkdibcicncjpdaaGreatEq08
import Derived.Test.YtkdibcicncjpdaaGreatEq07
import Derived.Test.YtkdibcicncjpdaaGreatEq10
set_option linter.unusedSimpArgs false
set_option linter.unusedVariables false
namespace Go.Proofs.YtkdibcicncjpdaaGreat
open _root_.Go.Proofs.Tryz _root_.Go.Proofs.YtkdibcicncjpdaaGreat.Tryz
open Go Go.Sy Go.Pl Go.Proofs
set_option maxRecDepth 100000
abbrev StrictL (l : List (List Int)) : Prop := l.Pairwise fun a b => compareC a b < 0
theorem compareC_asymm {a b : List Int} (h : compareC a b < 0) : ¬ compareC b a < 0 := by have := compareC_antisymm a b; omega
theorem StrictL.srt {l : List (List Int)} (h : StrictL l) : SrtL l := h.imp fun h => compareC_asymm h
theorem strictL_unique : ∀ {l m : List (List Int)}, StrictL l → StrictL m → (∀ x, x ∈ l ↔ x ∈ m) → l = m
  | [], [], _, _, _ => rfl
  | [], y :: m, _, _, h => by have := (h y).2 (by simp); simp at this
  | x :: l, [], _, _, h => by have := (h x).1 (by simp); simp at this
  | x :: l, y :: m, hl, hm, h => by
    obtain ⟨h1, h2⟩ := List.pairwise_cons.1 hl
    obtain ⟨h3, h4⟩ := List.pairwise_cons.1 hm
    have hxy : x = y := by
      rcases List.mem_cons.1 ((h x).1 (by simp)) with e | hx
      · exact e
      · rcases List.mem_cons.1 ((h y).2 (by simp)) with e | hy
        · exact e.symm
        · exact absurd (h1 y hy) (compareC_asymm (h3 x hx))
    subst hxy
    have hself : ¬ compareC x x < 0 := by rw [compareC_self]; decide
    rw [strictL_unique h2 h4 fun z => ?_]
    constructor
    · intro hz
      rcases List.mem_cons.1 ((h z).1 (by simp [hz])) with e | hz'
      · subst e; exact absurd (h1 z hz) hself
      · exact hz'
    · intro hz
      rcases List.mem_cons.1 ((h z).2 (by simp [hz])) with e | hz'
      · subst e; exact absurd (h3 z hz) hself
      · exact hz'
theorem uniqGo_strictL : ∀ {x : List Int} {l : List (List Int)}, SrtL (x :: l) → StrictL (uniqGo eqL x l) ∧ (∀ y ∈ uniqGo eqL x l, compareC x y < 0) ∧ ∀ y, y ∈ l → y = x ∨ y ∈ uniqGo eqL x l
  | x, [], _ => ⟨List.Pairwise.nil, by simp [uniqGo], by simp⟩
  | x, y :: r, h => by
    obtain ⟨h1, h2⟩ := List.pairwise_cons.1 h
    obtain ⟨i1, i2, i3⟩ := uniqGo_strictL h2
    have hxy := h1 y (by simp)
    unfold uniqGo
    by_cases e : y = x
    · subst e
      simp only [eqL, decide_true, if_true]
      refine ⟨i1, i2, fun z hz => ?_⟩
      rcases List.mem_cons.1 hz with rfl | hz
      · exact .inl rfl
      · exact i3 z hz
    · have hlt : compareC x y < 0 := by
        rcases compareC_cases x y with h | h | h
        · exact h
        · exact absurd h.symm e
        · exact absurd h hxy
      simp only [eqL, e, decide_false]
      refine ⟨List.pairwise_cons.2 ⟨i2, i1⟩, fun z hz => ?_, fun z hz => ?_⟩
      · rcases List.mem_cons.1 hz with rfl | hz
        · exact hlt
        · exact compareC_trans _ _ _ hlt (i2 z hz)
      · rcases List.mem_cons.1 hz with rfl | hz
        · exact .inr (by simp)
        · rcases i3 z hz with rfl | h
          · exact .inr (by simp)
          · refine .inr ?_
            simp
            exact .inr h
theorem addSets_strict (all : List (List Int)) (t : List Int) : StrictL (addSets all t) := by
  have hs := sortL_srt (all ++ subsetsC t)
  unfold addSets
  cases h : sortL (all ++ subsetsC t) with
  | nil => exact List.Pairwise.nil
  | cons x r =>
    rw [h] at hs
    obtain ⟨h1, h2, _⟩ := uniqGo_strictL hs
    exact List.pairwise_cons.2 ⟨h2, h1⟩
theorem addSets_iff (all : List (List Int)) (t x : List Int) : x ∈ addSets all t ↔ x ∈ all ∨ x ∈ subsetsC t := by
  refine ⟨addSets_mem, fun h => ?_⟩
  have hs := sortL_srt (all ++ subsetsC t)
  have hm : x ∈ sortL (all ++ subsetsC t) := (sortL_perm _).symm.subset (List.mem_append.2 h)
  unfold addSets
  cases hc : sortL (all ++ subsetsC t) with
  | nil => rw [hc] at hm; simp at hm
  | cons y r =>
    rw [hc] at hs hm
    rcases List.mem_cons.1 hm with rfl | hm
    · simp [uniq]
    · rcases (uniqGo_strictL hs).2.2 x hm with rfl | h
      · simp [uniq]
      · simp [uniq, h]
theorem lbL_split : ∀ {l : List (List Int)} (t : List Int), SrtL l → (∀ y ∈ l.take (lbL l t), compareC y t < 0) ∧ ∀ y ∈ l.drop (lbL l t), ¬ compareC y t < 0
  | [], t, _ => ⟨by simp, by simp⟩
  | a :: r, t, hs => by
    obtain ⟨h1, h2⟩ := List.pairwise_cons.1 hs
    obtain ⟨i1, i2⟩ := lbL_split t h2
    by_cases ha : compareC a t < 0
    · have hl : lbL (a :: r) t = lbL r t + 1 := by simp [lbL, ha]
      rw [hl, List.take_succ_cons, List.drop_succ_cons]
      refine ⟨fun y hy => ?_, i2⟩
      rcases List.mem_cons.1 hy with rfl | hy
      · exact ha
      · exact i1 y hy
    · have hall : ∀ y ∈ a :: r, ¬ compareC y t < 0 := fun y hy => by
        rcases List.mem_cons.1 hy with rfl | hy
        · exact ha
        · exact compareC_ntrans y a t (h1 y hy) ha
      have hz : lbL (a :: r) t = 0 := by
        unfold lbL
        rw [List.length_eq_zero_iff, List.filter_eq_nil_iff]
        intro y hy
        simpa using hall y hy
      rw [hz]
      exact ⟨by simp, by simpa using hall⟩
theorem insL_strict {l : List (List Int)} {t : List Int} (hs : StrictL l) (hn : l.contains t = false) : StrictL (l.take (lbL l t) ++ t :: l.drop (lbL l t)) := by
  obtain ⟨h1, h2⟩ := lbL_split t hs.srt
  have hs' : StrictL (l.take (lbL l t) ++ l.drop (lbL l t)) := by rw [List.take_append_drop]; exact hs
  have h3 := List.pairwise_append.1 hs'
  refine List.pairwise_append.2 ⟨h3.1, List.pairwise_cons.2 ⟨fun y hy => ?_, h3.2.1⟩, fun y hy z hz => ?_⟩
  · rcases compareC_cases t y with h | h | h
    · exact h
    · have : l.contains t = true := by rw [h]; simpa using List.mem_of_mem_drop hy
      rw [hn] at this; cases this
    · exact absurd h (h2 y hy)
  · rcases List.mem_cons.1 hz with rfl | hz
    · exact h1 y hy
    · exact h3.2.2 y hy z hz
theorem simp_srt (all : List (List Int)) : Srt Cl.id (simpCells all) := by
  unfold Srt
  rw [List.pairwise_iff_getElem]
  intro i j hi hj hij
  simp [simpCells, simpCell]
  omega
theorem canon_simp (all : List (List Int)) : canonC (simpCells all) = (simpCells all).map normC := by
  unfold canonC
  rw [← eq_sortBy (simp_srt all) (Stab.refl _)]
theorem tmod_two (k : Nat) : ((k : Nat) : Int).tmod 2 = ((k : Nat) : Int) % 2 := Int.tmod_eq_emod_of_nonneg (by omega)
theorem refSimplicial_spec (E : World) (g : PH) (s : Own) (v : Value) (ls : List (List Int)) (hv : Lists g v ls) (hn : ls.length < 1099511627776) (hl : ∀ x ∈ ls, x.length < 1099511627776) :
    Ctr Tryz.prog E 14 #[v] g s (fun r g' s' => s = s' ∧ Le g g' ∧ ∃ u, r = .agg #[u] ∧ Cells g' u (simpC ls)) := by
  obtain ⟨rs0, hrs0, hall0⟩ := hv
  have hlen0 := hall0.length
  obtain ⟨p, c, rfl⟩ := SlA.form hrs0
  refine Ctr.of (args := [.slice p rs0.length c]) func14 rfl ntmps14 (Nat.le_of_ble_eq_true rfl) ?_
  refine SC.seq (SC.region (SL.W (SO.alloc zeroValue27) ?_))
  rintro _ _ _ ⟨b2, rfl, rfl, rfl⟩
  refine SL.nil (ST.thenN (SC.seq (SC.region (SL.A rfl (SL.nil (ST.thenN (SC.seq (SC.seq (SC.region (SL.A rfl (SL.nil (ST.thenN (SC.block ?_)))))))))))))
  refine SC.loop (ι := PH × Value × List (List Int) × Nat) (fun i => [(0, .slice p rs0.length c), (2, pp b2 0), (3, i.2.1), (4, vi i.2.2.2)]) (fun i => i.1)
    (fun _ => pt b2 (.cells #[.slice none 0 0] 27 (0, 0)) :: s)
    (fun i => Le g i.1 ∧ i.2.2.2 ≤ rs0.length ∧ Lists i.1 i.2.1 i.2.2.1 ∧ (i.2.2.1.length ≤ 4000 ∧ ∀ x ∈ i.2.2.1, x.length ≤ 9) ∧ StrictL i.2.2.1 ∧ simpAll [] ls = simpAll i.2.2.1 (ls.drop i.2.2.2)) (fun i => rs0.length - i.2.2.2)
    (g, .slice none 0 0, [], 0) ⟨rfl, rfl, rfl, rfl, trivial⟩ rfl rfl ⟨Le.refl g, Nat.zero_le _, ⟨[], Sl.nil g _, trivial⟩, ⟨Nat.zero_le _, by simp⟩, List.Pairwise.nil, rfl⟩ ?_
  rintro ⟨g1, av, all, i⟩ ⟨hle, hi, hav, ⟨hal, has⟩, hstr, hsa⟩
  dsimp only at hle hi hav hal has hstr hsa ⊢
  refine SC.seq (SC.seq (SC.region (SL.M rfl (SL.M rfl (SL.U (SU.lenN underlying22 rfl) (SL.U (SU.lss rfl rfl) (SL.nil (ST.thenN ?_))))))))
  refine SC.ifP rfl (fun hlt => ?_) (fun hlt => ?_)
  · have hkl : i < ls.length := by omega
    have hkr : i < rs0.length := by omega
    have hR := (hall0.get (List.getElem?_eq_getElem hkl) (List.getElem?_eq_getElem hkr)).mono hle
    have hxl := hl _ (List.getElem_mem hkl)
    have hb1 := hrs0.based (by omega)
    have hdrop : ls.drop i = ls[i] :: ls.drop (i + 1) := List.drop_eq_getElem_cons hkl
    rw [hdrop] at hsa
    generalize hx : ls[i] = x at *
    generalize hr : rs0[i] = r at *
    have hgr : rs0[((i : Nat) : Int).toNat]? = some r := by rw [← hr]; exact List.getElem?_eq_getElem hkr
    refine SC.skip (ST.thenN (SC.seq (SC.block (SC.seq (SC.region (SL.M rfl (SL.M rfl (SL.U (SU.indexAddr underlying22 sizeOf45 rfl rfl hb1 (by omega) (by simp only [slen]; omega)) (SL.K (SQ.elem1 isAgg45 rfl (hrs0.mono hle).rd hgr rfl) (SL.W (SO.call call54 rfl (set_spec E g1 _ _ x hR hxl)) ?_))))))))))
    rintro v31 g2 _ ⟨rfl, hle2, hset⟩
    have hav2 := hav.mono hle2
    rcases hset with ⟨hok, u, rfl, hu⟩ | ⟨hok, rfl⟩
    · obtain ⟨hs9, hsb⟩ := okS_good hok
      obtain ⟨q, d, rfl⟩ := SlA.form hu
      have hpow := pow_le (setC x).length hs9
      refine SL.M rfl (SL.U (SU.extract rfl rfl) (SL.U (SU.extract rfl rfl) (SL.A rfl (SL.A rfl (SL.nil (ST.thenN ?_))))))
      refine SC.cut (ι := PH × Value × List (List Int)) (fun j => [(0, .slice p rs0.length c), (2, pp b2 0), (3, j.2.1), (4, vi i)]) (fun j => j.1) (fun _ => pt b2 (.cells #[.slice none 0 0] 27 (0, 0)) :: s)
        (fun j => Le g j.1 ∧ Lists j.1 j.2.1 j.2.2 ∧ StrictL j.2.2 ∧ (∀ y, y ∈ j.2.2 ↔ y ∈ all ∨ y ∈ subsetsC (setC x)) ∧ j.2.2.length ≤ 4600) ?_ ?_
      · skip
        refine SC.seq (SC.region (SL.A rfl (SL.nil (ST.thenN (SC.block ?_)))))
        refine SC.loop (ι := PH × Value × List (List Int) × Nat) (fun j => [(0, .slice p rs0.length c), (2, pp b2 0), (3, j.2.1), (4, vi i), (5, .slice q (setC x).length d), (6, vb true), (7, vi (j.2.2.2 + 1 : Nat))]) (fun j => j.1) (fun _ => pt b2 (.cells #[.slice none 0 0] 27 (0, 0)) :: s)
          (fun j => Le g2 j.1 ∧ j.2.2.2 + 1 ≤ 2 ^ (setC x).length ∧ Lists j.1 j.2.1 j.2.2.1 ∧ StrictL j.2.2.1 ∧ (∀ y, y ∈ j.2.2.1 ↔ y ∈ all ∨ y ∈ (List.range j.2.2.2).map fun m => pickB (m + 1) (setC x)) ∧ j.2.2.1.length ≤ 4000 + j.2.2.2) (fun j => 2 ^ (setC x).length - j.2.2.2)
          (g2, av, all, 0) ⟨rfl, rfl, rfl, rfl, rfl, rfl, rfl, trivial⟩ rfl rfl ⟨Le.refl g2, Nat.one_le_two_pow, hav2, hstr, by simp, by (first | with_reducible rfl | ((try dsimp only); (try simp only [List.length_append, List.length_cons, List.length_nil, List.length_singleton, List.length_take, List.length_drop]) <;> omega))⟩ ?_
        rintro ⟨g3, bv, al, b⟩ ⟨hle3, hb, hbv, hbs, hbm, hbl⟩
        dsimp only at hle3 hb hbv hbs hbm hbl ⊢
        have hals : ∀ y ∈ al, y.length ≤ 9 := fun y hy => by
          rcases (hbm y).1 hy with h | h
          · exact has y h
          · obtain ⟨m, _, rfl⟩ := List.mem_map.1 h
            exact Nat.le_trans (pickB_length _ _) hs9
        refine SC.seq (SC.seq (SC.region (SL.M rfl (SL.M rfl (SL.Y rfl rfl rfl (SU.move rfl) (SL.Y rfl rfl rfl (SU.move rfl) (SL.Y rfl rfl rfl (SU.lenN underlying45 rfl) (SL.Y rfl rfl rfl (SU.eq (v' := vi ((2 ^ (setC x).length : Nat) : Int)) (SU.shl rfl rfl (by omega)) (congrArg vi (shl_one (setC x).length (by omega)))) (SL.Y rfl rfl rfl (SU.lss rfl rfl) (SL.U (SU.pickT rfl rfl) (SL.nil (ST.thenN ?_))))))))))))
        refine SC.ifP rfl (fun hlt2 => ?_) (fun hlt2 => ?_)
        · have hbl2 : b + 1 < 2 ^ (setC x).length := by omega
          refine SC.skip (ST.thenN (SC.seq (SC.block (SC.seq (SC.region (SL.A rfl (SL.nil (ST.thenN (SC.seq (SC.seq (SC.nilRow 3 1 (SC.region (SL.A rfl (SL.nil (ST.thenN (SC.block ?_))))))))))))))))
          refine SC.loop (ι := Value × Nat) (fun k => [(0, .slice p rs0.length c), (2, pp b2 0), (3, bv), (4, vi i), (5, .slice q (setC x).length d), (6, vb true), (7, vi (b + 1 : Nat)), (8, k.1), (9, vi k.2)]) (fun _ => g3)
            (fun k => rowA encInt 3 k.1 (pickB (b + 1) ((setC x).take k.2)) :: pt b2 (.cells #[.slice none 0 0] 27 (0, 0)) :: s) (fun k => k.2 ≤ (setC x).length) (fun k => (setC x).length - k.2) (.slice none 0 0, 0)
            ⟨rfl, rfl, rfl, rfl, rfl, rfl, rfl, rfl, rfl, trivial⟩ rfl rfl (Nat.zero_le _) ?_
          rintro ⟨cv, k⟩ hk
          dsimp only at hk ⊢
          have hpl := pickB_length (b + 1) ((setC x).take k)
          rw [List.length_take] at hpl
          refine SC.seq (SC.seq (SC.region (SL.M rfl (SL.M rfl (SL.U (SU.lenN underlying45 rfl) (SL.U (SU.lss rfl rfl) (SL.nil (ST.thenN ?_))))))))
          refine SC.ifP rfl (fun hlt3 => ?_) (fun hlt3 => ?_)
          · have hkl : k < (setC x).length := by omega
            have hbu := SlA.based (hu.mono hle3) (by omega)
            have hsucc := pickB_succ (bits := b + 1) hkl
            refine SC.skip (ST.thenN (SC.seq (SC.block (SC.seq (SC.region (SL.M rfl (SL.M rfl (SL.U (SU.shr rfl rfl (by omega)) (SL.U (SU.eq (v' := vi (((b + 1) / 2 ^ k % 2 : Nat) : Int)) (SU.and rfl rfl) (congrArg vi ((and_one _).trans (shr_bit (b + 1) k (by omega))))) (SL.U (SU.eql rfl rfl) (SL.nil (ST.thenN ?_))))))))))))
            refine SC.ifP rfl (fun hbit => ?_) (fun hbit => ?_)
            · skip
              refine SC.region (SL.M rfl (SL.M rfl (SL.M rfl (SL.U (SU.indexAddr underlying45 sizeOf3 rfl rfl hbu (by omega) (by simp only [slen]; omega)) ?_))))
              refine SL.q (SQ.elem1 isAgg3 rfl (SlA.rd (hu.mono hle3)) (List.getElem?_eq_getElem hkl) rfl) (by decide) ?_
              refine SL.W (SO.buildSlice sty45 rfl rfl rfl (szs_mk (by exact ⟨rfl, trivial⟩)) (by decide)) ?_
              rintro _ _ _ ⟨b60, rfl, rfl, rfl⟩
              refine SL.W (SO.app1A (e := encInt) 0 (setC x)[k] sty45 rfl rfl rfl rfl rfl (by omega) (by omega)) ?_
              rintro cv' _ _ ⟨rfl, rfl⟩
              refine SL.A rfl (SL.nil (ST.blockN (ST.thenN (SC.region (SL.M rfl (SL.U (SU.add rfl rfl (by omega)) (SL.A rfl (SL.nil ?_))))))))
              refine ST.to (fun w hw => ?_) (g' := g3) (s' := rowA encInt 3 cv' (pickB (b + 1) ((setC x).take (k + 1))) :: pt b2 (.cells #[.slice none 0 0] 27 (0, 0)) :: s) ?_
              · rw [hsucc, if_pos (by omega)]; exact hw
              exact ST.again (cv', k + 1) ⟨rfl, rfl, rfl, rfl, rfl, rfl, rfl, rfl, rfl, trivial⟩ rfl rfl (by (first | with_reducible rfl | ((try dsimp only); (try simp only [List.length_append, List.length_cons, List.length_nil, List.length_singleton, List.length_take, List.length_drop]) <;> omega))) (by (first | with_reducible rfl | ((try dsimp only); (try simp only [List.length_append, List.length_cons, List.length_nil, List.length_singleton, List.length_take, List.length_drop]) <;> omega)))
            · skip
              refine SC.skip (ST.blockN (ST.thenN (SC.region (SL.M rfl (SL.U (SU.add rfl rfl (by omega)) (SL.A rfl (SL.nil ?_)))))))
              refine ST.to (fun w hw => ?_) (g' := g3) (s' := rowA encInt 3 cv (pickB (b + 1) ((setC x).take (k + 1))) :: pt b2 (.cells #[.slice none 0 0] 27 (0, 0)) :: s) ?_
              · rw [hsucc, if_neg (by omega)]; exact hw
              exact ST.again (cv, k + 1) ⟨rfl, rfl, rfl, rfl, rfl, rfl, rfl, rfl, rfl, trivial⟩ rfl rfl (by (first | with_reducible rfl | ((try dsimp only); (try simp only [List.length_append, List.length_cons, List.length_nil, List.length_singleton, List.length_take, List.length_drop]) <;> omega))) (by (first | with_reducible rfl | ((try dsimp only); (try simp only [List.length_append, List.length_cons, List.length_nil, List.length_singleton, List.length_take, List.length_drop]) <;> omega)))
          · have hkk : (setC x).take k = setC x := List.take_of_length_le (by omega)
            have htl := pickB_length (b + 1) (setC x)
            have hmem2 : ∀ nw : List (List Int), (∀ y, y ∈ nw ↔ y = pickB (b + 1) (setC x) ∨ y ∈ al) → ∀ y, y ∈ nw ↔ y ∈ all ∨ y ∈ (List.range (b + 1)).map fun m => pickB (m + 1) (setC x) := fun nw h y => by
              rw [h, hbm, List.range_succ, List.map_append, List.mem_append]
              simp
              constructor
              · rintro (h | h | h)
                · exact .inr (.inr h)
                · exact .inl h
                · exact .inr (.inl h)
              · rintro (h | h | h)
                · exact .inr (.inl h)
                · exact .inr (.inr h)
                · exact .inl h
            generalize hpk : pickB (b + 1) (setC x) = t at *
            refine SC.exit (ST.thenX (ST.thenX (ST.blockX (ST.thenN (SC.seq (SC.freezeRow fun g4 hle4 hs4 => ?_))))))
            rw [hkk, hpk] at hs4
            have ht : Ints g4 cv t := hs4
            have hbv4 := hbv.mono hle4
            refine SC.region (SL.M rfl (SL.M rfl (SL.W (SO.call call55 rfl (place_spec E g4 _ _ _ al t hbv4 ht (by omega) (fun y hy => by have := hals y hy; omega) (by omega) hbs.srt)) ?_)))
            rintro _ _ _ ⟨rfl, rfl, rfl⟩
            refine SL.M rfl (SL.U (SU.extract rfl rfl) (SL.U (SU.extract rfl rfl) (SL.A rfl (SL.A rfl (SL.nil (ST.thenN (SC.seq (SC.region (SL.M rfl (SL.U (SU.not rfl) (SL.nil (ST.thenN ?_))))))))))))
            refine SC.ifB rfl (fun hthere => ?_) (fun hthere => ?_)
            · have hth : al.contains t = false := by simpa using hthere
              have hlb := lbL_le al t
              obtain ⟨ra, hra, halr⟩ := hbv4
              have hral := halr.length
              obtain ⟨qa, da, rfl⟩ := SlA.form hra
              have hcapa := (SlA.cap hra).2
              obtain ⟨qt, dt, rfl⟩ := SlA.form ht
              have hca := SlA.cut hra (l := lbL al t) (m := ra.length) (by omega) (Nat.le_refl _)
              have hcb := SlA.cut hra (l := 0) (m := lbL al t) (Nat.zero_le _) (by omega)
              rw [List.take_of_length_le (by rw [List.length_drop]; exact Nat.le_refl _)] at hca
              rw [List.drop_zero, Nat.sub_zero] at hcb
              refine SC.seq (SC.region (SL.M rfl (SL.W (SO.buildSlice sty22 rfl rfl rfl (szs_mk ⟨rfl, trivial⟩) (by decide)) ?_)))
              rintro _ _ _ ⟨b71, rfl, rfl, rfl⟩
              refine SL.to (fun w hw => At.litRow (e := encSv) (l := [⟨qt, t.length, dt⟩]) (n := 0) hw rfl rfl (by decide)) ?_
              refine SL.M rfl (SL.M rfl (SL.U (SU.sliceL underlying22 sizeOf45 rfl rfl (by omega) (by omega)) (SL.W (SO.appA (e := encSv) 0 sty22 rfl rfl rfl hca (by rw [List.length_drop]; (first | with_reducible rfl | ((try dsimp only); (try simp only [List.length_append, List.length_cons, List.length_nil, List.length_singleton, List.length_take, List.length_drop]) <;> omega))) (by rw [List.length_drop]; (first | with_reducible rfl | ((try dsimp only); (try simp only [List.length_append, List.length_cons, List.length_nil, List.length_singleton, List.length_take, List.length_drop]) <;> omega)))) ?_)))
              rintro v75 _ _ ⟨rfl, rfl⟩
              refine SL.A rfl (SL.nil (ST.thenN (SC.freezeRow fun g5 hle5 hs5 => ?_)))
              have hrest : SlA encSv g5 v75 ([⟨qt, t.length, dt⟩] ++ ra.drop (lbL al t)) := hs5
              refine SC.region (SL.W (SO.buildSlice sty22 rfl rfl rfl (szs_mk trivial) (by decide)) ?_)
              rintro _ _ _ ⟨b76, rfl, rfl, rfl⟩
              refine SL.emptyRow 45 1 (some ⟨b76, 0, none⟩) (SL.M rfl (SL.M rfl (SL.U (SU.sliceH underlying22 sizeOf45 rfl rfl (by omega) (by omega)) (SL.W (SO.appA (e := encSv) (l := []) 0 sty22 rfl rfl rfl (hcb.mono hle5) (by rw [List.length_take]; (first | with_reducible rfl | ((try dsimp only); (try simp only [List.length_append, List.length_cons, List.length_nil, List.length_singleton, List.length_take, List.length_drop]) <;> omega))) (by rw [List.length_take]; (first | with_reducible rfl | ((try dsimp only); (try simp only [List.length_append, List.length_cons, List.length_nil, List.length_singleton, List.length_take, List.length_drop]) <;> omega)))) ?_))))
              rintro v80 _ _ ⟨rfl, rfl⟩
              refine SL.M rfl (SL.W (SO.appA (e := encSv) 0 sty22 rfl rfl rfl hrest (by (first | with_reducible rfl | ((try dsimp only); (try simp only [List.length_append, List.length_cons, List.length_nil, List.length_singleton, List.length_take, List.length_drop]) <;> omega))) (by (first | with_reducible rfl | ((try dsimp only); (try simp only [List.length_append, List.length_cons, List.length_nil, List.length_singleton, List.length_take, List.length_drop]) <;> omega)))) ?_)
              rintro v82 _ _ ⟨rfl, rfl⟩
              refine SL.A rfl (SL.nil (ST.blockN (ST.thenN (SC.region (SL.M rfl (SL.U (SU.add rfl rfl (by omega)) (SL.A rfl (SL.nil (ST.freezeRow fun g6 hle6 hs6 => ?_)))))))))
              refine ST.drop (s' := pt b2 (.cells #[.slice none 0 0] 27 (0, 0)) :: s) (.cons _ (.refl _)) ?_
              have hres : Lists g6 v82 (al.take (lbL al t) ++ t :: al.drop (lbL al t)) := by
                refine ⟨ra.take (lbL al t) ++ ⟨qt, t.length, dt⟩ :: ra.drop (lbL al t), ?_, ?_⟩
                · have h : SlA encSv g6 v82 ([] ++ ra.take (lbL al t) ++ ([⟨qt, t.length, dt⟩] ++ ra.drop (lbL al t))) := hs6
                  simpa using h
                · exact ((All2.take _ halr).mono fun _ _ => ListR.mono (hle5.trans hle6)).append ⟨ht.mono (hle5.trans hle6), (All2.drop _ halr).mono fun _ _ => ListR.mono (hle5.trans hle6)⟩
              exact ST.again (g6, v82, al.take (lbL al t) ++ t :: al.drop (lbL al t), b + 1) ⟨rfl, rfl, rfl, rfl, rfl, rfl, vi_eq (by simp), trivial⟩ rfl rfl ⟨hle3.trans (hle4.trans (hle5.trans hle6)), hbl2, hres, insL_strict hbs hth, hmem2 _ (fun y => mem_ins), by (first | with_reducible rfl | ((try dsimp only); (try simp only [List.length_append, List.length_cons, List.length_nil, List.length_singleton, List.length_take, List.length_drop]) <;> omega))⟩ (by (first | with_reducible rfl | ((try dsimp only); (try simp only [List.length_append, List.length_cons, List.length_nil, List.length_singleton, List.length_take, List.length_drop]) <;> omega)))
            · have hth : t ∈ al := by simpa using hthere
              refine SC.skip (ST.blockN (ST.thenN (SC.region (SL.M rfl (SL.U (SU.add rfl rfl (by omega)) (SL.A rfl (SL.nil ?_)))))))
              exact ST.again (g4, bv, al, b + 1) ⟨rfl, rfl, rfl, rfl, rfl, rfl, vi_eq (by simp), trivial⟩ rfl rfl ⟨hle3.trans hle4, hbl2, hbv4, hbs, hmem2 _ (fun y => ⟨.inr, fun h => h.elim (fun e => by rw [e]; exact hth) id⟩), by (first | with_reducible rfl | ((try dsimp only); (try simp only [List.length_append, List.length_cons, List.length_nil, List.length_singleton, List.length_take, List.length_drop]) <;> omega))⟩ (by (first | with_reducible rfl | ((try dsimp only); (try simp only [List.length_append, List.length_cons, List.length_nil, List.length_singleton, List.length_take, List.length_drop]) <;> omega)))
        · have hbb : b = 2 ^ (setC x).length - 1 := by omega
          refine SC.exit (ST.thenX (ST.thenX (ST.blockX ?_)))
          exact ST.mid (g3, bv, al) ⟨rfl, rfl, rfl, rfl, trivial⟩ rfl rfl ⟨hle.trans (hle2.trans hle3), hbv, hbs, fun y => by dsimp only; rw [hbm]; unfold subsetsC; rw [hbb], by (first | with_reducible rfl | ((try dsimp only); (try simp only [List.length_append, List.length_cons, List.length_nil, List.length_singleton, List.length_take, List.length_drop]) <;> omega))⟩
      · rintro ⟨g3, bv, al⟩ ⟨hle3, hbv, hbs, hbm, hbl⟩
        dsimp only at hle3 hbv hbs hbm hbl ⊢
        have hals : ∀ y ∈ al, y.length ≤ 9 := fun y hy => by
          rcases (hbm y).1 hy with h | h
          · exact has y h
          · exact subsetsC_short hs9 y h
        have key : ((al.length : Int) > 4000 → simpAll [] ls = none) ∧ (¬ (al.length : Int) > 4000 → simpAll [] ls = simpAll al (ls.drop (i + 1))) := by
          by_cases hb : badSet (setC x) = true
          · have he := hsb hb
            have hal2 : al = all := strictL_unique hbs hstr fun y => by rw [hbm, he]; simp [subsetsC]
            refine ⟨fun h => by rw [hal2] at h; omega, fun _ => by rw [hsa, simpAll, if_pos hb, hal2]⟩
          · have hal2 : al = addSets all (setC x) := strictL_unique hbs (addSets_strict _ _) fun y => by rw [hbm, addSets_iff]
            refine ⟨fun h => by rw [hsa, simpAll, if_neg hb, if_pos (by rw [← hal2]; exact h)], fun h => by rw [hsa, simpAll, if_neg hb, if_neg (by rw [← hal2]; exact h), ← hal2]⟩
        obtain ⟨ra, hra, halr⟩ := hbv
        have hbv : Lists g3 bv al := ⟨ra, hra, halr⟩
        have hral := halr.length
        obtain ⟨qa, da, rfl⟩ := SlA.form hra
        refine SC.seq (SC.region (SL.M rfl (SL.U (SU.lenN underlying22 rfl) (SL.U (SU.gtr rfl rfl) (SL.nil (ST.thenN ?_))))))
        refine SC.ifP rfl (fun hmany => ?_) (fun hmany => ?_)
        · skip
          refine SC.seq (SC.region (SL.U (SU.build rfl (buildE27)) (SL.on (SO.storeAllK 0 sizeOf27 rfl rfl rfl rfl rfl (by exact ⟨rfl, trivial⟩)) ?_)))
          rintro _ _ _ ⟨rfl, rfl⟩
          refine SL.nil (ST.thenN (SC.ret (ST.blockR (ST.thenR (ST.thenR (ST.blockR (ST.thenR ?_)))))))
          exact ST.retCD 0 s (.inl rfl) results14 rfl isAgg27 sizeOf27 rfl rfl (.cons _ (.refl _)) ⟨rfl, hle3, _, rfl, by simp only [simpC, key.1 (by omega)]; exact ⟨[], Sl.nil _ _, trivial⟩⟩
        · skip
          refine SC.skip (ST.blockN (ST.thenN (SC.region (SL.M rfl (SL.U (SU.add rfl rfl (by omega)) (SL.A rfl (SL.nil ?_)))))))
          exact ST.again (g3, _, al, i + 1) ⟨rfl, rfl, rfl, rfl, trivial⟩ rfl rfl ⟨hle3, by (first | with_reducible rfl | ((try dsimp only); (try simp only [List.length_append, List.length_cons, List.length_nil, List.length_singleton, List.length_take, List.length_drop]) <;> omega)), hbv, ⟨by (first | with_reducible rfl | ((try dsimp only); (try simp only [List.length_append, List.length_cons, List.length_nil, List.length_singleton, List.length_take, List.length_drop]) <;> omega)), hals⟩, hbs, key.2 (by omega)⟩ (by (first | with_reducible rfl | ((try dsimp only); (try simp only [List.length_append, List.length_cons, List.length_nil, List.length_singleton, List.length_take, List.length_drop]) <;> omega)))
    · have hb := okS_bad hok
      obtain ⟨ra, hra, halr⟩ := hav2
      have hav2 : Lists g2 av all := ⟨ra, hra, halr⟩
      have hral := halr.length
      obtain ⟨qa, da, rfl⟩ := SlA.form hra
      refine SL.M rfl (SL.U (SU.extract rfl rfl) (SL.U (SU.extract rfl rfl) (SL.A rfl (SL.A rfl (SL.nil (ST.thenN (SC.seq (SC.seq (SC.region (SL.A rfl (SL.nil (ST.thenN (SC.block ?_)))))))))))))
      refine SC.loop (ι := Unit) (fun _ => [(0, .slice p rs0.length c), (2, pp b2 0), (3, .slice qa ra.length da), (4, vi i), (5, .slice none 0 0), (6, vb false), (7, vi 1)]) (fun _ => g2) (fun _ => pt b2 (.cells #[.slice none 0 0] 27 (0, 0)) :: s) (fun _ => True) (fun _ => 0) () ⟨rfl, rfl, rfl, rfl, rfl, rfl, rfl, trivial⟩ rfl rfl trivial ?_
      rintro ⟨⟩ -
      refine SC.seq (SC.seq (SC.region (SL.M rfl (SL.M rfl (SL.Z rfl rfl rfl (SL.Z rfl rfl rfl (SL.Z rfl rfl rfl (SL.Z rfl rfl rfl (SL.Z rfl rfl rfl (SL.U (SU.pickF rfl rfl) (SL.nil (ST.thenN (SC.condF rfl (SC.exit (ST.thenX (ST.thenX (ST.blockX (ST.thenN (SC.seq (SC.region (SL.M rfl (SL.U (SU.lenN underlying22 rfl) (SL.U (SU.gtr rfl rfl) (SL.nil (ST.thenN ?_)))))))))))))))))))))))))
      refine SC.ifP rfl (fun hmany => ?_) (fun hmany => ?_)
      · exfalso
        omega
      · skip
        refine SC.skip (ST.blockN (ST.thenN (SC.region (SL.M rfl (SL.U (SU.add rfl rfl (by omega)) (SL.A rfl (SL.nil ?_)))))))
        exact ST.again (g2, _, all, i + 1) ⟨rfl, rfl, rfl, rfl, trivial⟩ rfl rfl ⟨hle.trans hle2, by (first | with_reducible rfl | ((try dsimp only); (try simp only [List.length_append, List.length_cons, List.length_nil, List.length_singleton, List.length_take, List.length_drop]) <;> omega)), hav2, ⟨hal, has⟩, hstr, by dsimp only; rw [hsa, simpAll, if_pos hb]⟩ (by (first | with_reducible rfl | ((try dsimp only); (try simp only [List.length_append, List.length_cons, List.length_nil, List.length_singleton, List.length_take, List.length_drop]) <;> omega)))
  · have hk0 : i = rs0.length := by omega
    have hsome : simpAll [] ls = some all := by rw [hsa, hk0, ← hlen0, List.drop_length]; rfl
    obtain ⟨rs, hrs, hall⟩ := hav
    have hav : Lists g1 av all := ⟨rs, hrs, hall⟩
    have hrl := hall.length
    obtain ⟨q, d, rfl⟩ := SlA.form hrs
    refine SC.exit (ST.thenX (ST.thenX (ST.blockX (ST.thenN (SC.seq (SC.region (SL.W (SO.alloc zeroValue27) ?_)))))))
    rintro _ _ _ ⟨b13, rfl, rfl, rfl⟩
    refine SL.nil (ST.thenN (SC.seq (SC.seq (SC.region (SL.A rfl (SL.nil (ST.thenN (SC.block (SC.nilRow 51 3 ?_)))))))))
    refine SC.loop (ι := PH × Value × List Rc × Nat) (fun i => [(2, pp b2 0), (3, .slice q rs.length d), (13, pp b13 0), (14, vi i.2.2.2)]) (fun i => i.1)
      (fun i => rowA encCell 51 i.2.1 i.2.2.1 :: pt b13 (.cells #[i.2.1] 27 (0, 0)) :: pt b2 (.cells #[.slice none 0 0] 27 (0, 0)) :: s)
      (fun i => Le g1 i.1 ∧ i.2.2.2 ≤ rs.length ∧ All2 (CellR i.1) (((simpCells all).take i.2.2.2).map normC) i.2.2.1) (fun i => rs.length - i.2.2.2)
      (g1, .slice none 0 0, [], 0) ⟨rfl, rfl, rfl, rfl, trivial⟩ rfl rfl ⟨Le.refl g1, Nat.zero_le _, trivial⟩ ?_
    rintro ⟨g3, ov, rcs, n⟩ ⟨hle3, hn3, hrcs⟩
    dsimp only at hle3 hn3 hrcs ⊢
    have hrcl := hrcs.length
    rw [List.length_map, List.length_take, simpCells_length] at hrcl
    refine SC.seq (SC.seq (SC.region (SL.M rfl (SL.M rfl (SL.U (SU.lenN underlying22 rfl) (SL.U (SU.lss rfl rfl) (SL.nil (ST.thenN ?_))))))))
    refine SC.ifP rfl (fun hlt2 => ?_) (fun hlt2 => ?_)
    · have hnl : n < all.length := by omega
      have hnr : n < rs.length := by omega
      have hb1 := hrs.based (by omega)
      have hR := (hall.get (List.getElem?_eq_getElem hnl) (List.getElem?_eq_getElem hnr)).mono hle3
      have hRl := hR.len
      have hx9 := has _ (List.getElem_mem hnl)
      have hget := simpCells_get hnl
      generalize hx : all[n] = x at *
      generalize hr : rs[n] = r at *
      obtain ⟨rp, rn, rc⟩ := r
      dsimp only at hRl
      subst hRl
      have hxs : Ints g3 (.slice rp x.length rc) x := hR
      have hgr : rs[((n : Nat) : Int).toNat]? = some ⟨rp, x.length, rc⟩ := by rw [← hr]; exact List.getElem?_eq_getElem hnr
      refine SC.skip (ST.thenN (SC.seq (SC.block (SC.seq (SC.region (SL.M rfl (SL.U (SU.add rfl rfl (by omega)) (SL.M rfl (SL.M rfl (SL.U (SU.indexAddr underlying22 sizeOf45 rfl rfl hb1 (by omega) (by simp only [slen]; omega)) (SL.K (SQ.elem1 (u := .slice rp x.length rc) isAgg45 rfl (hrs.mono hle3).rd hgr rfl) (SL.U (SU.lenN underlying45 rfl) (SL.U (SU.sub rfl rfl (by omega)) (SL.U (SU.build rfl (buildC51 _ _)) (SL.W (SO.alloc zeroValue51) ?_)))))))))))))))
      rintro _ _ _ ⟨b15, rfl, rfl, rfl⟩
      refine SL.on (SO.storeAllK 0 sizeOf51 rfl rfl rfl rfl rfl (by exact ⟨rfl, rfl, rfl, trivial⟩)) ?_
      rintro _ _ _ ⟨rfl, rfl⟩
      refine SL.nil (ST.thenN ?_)
      refine SC.cut (ι := PH × Value) (fun i => [(2, pp b2 0), (3, .slice q rs.length d), (13, pp b13 0), (14, vi n), (15, pp b15 0)]) (fun i => i.1)
        (fun i => rowA encSide 55 i.2 (simpSides all x x.length) :: pt b15 (.cells #[vi ((n : Int) + 1), vi ((x.length : Int) - 1), i.2] 51 (0, 0)) :: rowA encCell 51 ov rcs :: pt b13 (.cells #[ov] 27 (0, 0)) :: pt b2 (.cells #[.slice none 0 0] 27 (0, 0)) :: s)
        (fun i => Le g3 i.1) ?_ ?_
      · skip
        refine SC.seq (SC.nilRow 55 2 (SC.region (SL.A rfl (SL.nil (ST.thenN (SC.block ?_))))))
        refine SC.loop (ι := PH × Value × Nat) (fun i => [(2, pp b2 0), (3, .slice q rs.length d), (13, pp b13 0), (14, vi n), (15, pp b15 0), (16, vi i.2.2)]) (fun i => i.1)
          (fun i => rowA encSide 55 i.2.1 (simpSides all x i.2.2) :: pt b15 (.cells #[vi ((n : Int) + 1), vi ((x.length : Int) - 1), i.2.1] 51 (0, 0)) :: rowA encCell 51 ov rcs :: pt b13 (.cells #[ov] 27 (0, 0)) :: pt b2 (.cells #[.slice none 0 0] 27 (0, 0)) :: s)
          (fun i => Le g3 i.1 ∧ i.2.2 ≤ x.length) (fun i => x.length - i.2.2)
          (g3, .slice none 0 0, 0) ⟨rfl, rfl, rfl, rfl, rfl, rfl, trivial⟩ rfl rfl ⟨Le.refl g3, Nat.zero_le _⟩ ?_
        rintro ⟨g4, sv, j⟩ ⟨hle4, hj⟩
        dsimp only at hle4 hj ⊢
        have hssl := simpSides_length all x j
        have hsucc := simpSides_succ all x j
        have hxs4 : Ints g4 (.slice rp x.length rc) x := hxs.mono hle4
        by_cases hjl : j < x.length
        · have hjd : ((j : Nat) : Int) < ((x.length : Nat) : Int) := by omega
          by_cases hdim : ((x.length : Int) - 1) > 0
          · have hel : (x.eraseIdx j).length = x.length - 1 := by rw [List.length_eraseIdx]; simp [hjl]
            have hside : sideAt all x j = [⟨lbL all (x.eraseIdx j) + 1, signC j⟩] := by unfold sideAt; rw [if_pos (by omega)]
            have hlb := lbL_le all (x.eraseIdx j)
            rw [hside] at hsucc
            have hcap := (SlA.cap hxs4).2
            have hc1 := SlA.cut hxs4 (l := 0) (m := j) (by omega) (by omega)
            have hc2 := SlA.cut hxs4 (l := j + 1) (m := x.length) (by omega) (by omega)
            have he1 : (x.drop 0).take (j - 0) = x.take j := by simp
            have he2 : (x.drop (j + 1)).take (x.length - (j + 1)) = x.drop (j + 1) := List.take_of_length_le (by rw [List.length_drop]; omega)
            rw [he1] at hc1
            rw [he2] at hc2
            have her : [] ++ x.take j ++ x.drop (j + 1) = x.eraseIdx j := by rw [List.eraseIdx_eq_take_drop_succ]; simp
            have hcl1 : ([] ++ x.take j).length = j := by simp; omega
            refine SC.seq (SC.seq (SC.region (SL.M rfl (SL.M rfl (SL.M rfl (SL.U (SU.indexAddr underlying22 sizeOf45 rfl rfl hb1 (by omega) (by simp only [slen]; omega)) (SL.K (SQ.elem1 (u := .slice rp x.length rc) isAgg45 rfl (hrs.mono (hle3.trans hle4)).rd hgr rfl) (SL.U (SU.lenN underlying45 rfl) (SL.U (SU.eq (v' := vb true) (SU.lss rfl rfl) (congrArg vb (decide_eq_true hjd))) (SL.M rfl (SL.Y rfl rfl rfl (SU.fieldAddr underlying51 rfl sizeOf3 rfl) (SL.gq (Gd.onT rfl rfl rfl (by decide)) (SQ.load (v := vi ((x.length : Int) - 1)) isAgg3 rfl (CellAt.own 1 rfl rfl)) (by decide) (SL.Y rfl rfl rfl (SU.eq (v' := vb true) (SU.gtr rfl rfl) (congrArg vb (decide_eq_true hdim))) (SL.U (SU.pickT rfl rfl) (SL.nil (ST.thenN (SC.condT rfl (SC.skip (ST.thenN (SC.seq (SC.block (SC.seq ?_))))))))))))))))))))))
            refine SC.draw [15] [(1, 2), (2, 2), (3, 2), (4, 1), (5, 2), (6, 2), (8, 2), (9, 2), (10, 2), (11, 1), (12, 2), (13, 2), (14, 2), (0, 0), (7, 0), (15, 0), (16, 2)] Tryz.mixed (by kernel_rfl) ?_
            refine SP.U (i := 1) rfl (SU.move rfl) (SP.U (i := 2) rfl (SU.move rfl) (SP.U (i := 3) rfl (SU.indexAddr underlying22 sizeOf45 rfl rfl hb1 (by omega) (by simp only [slen]; omega)) (SP.K (i := 4) rfl (SQ.elem1 (u := .slice rp x.length rc) isAgg45 rfl (hrs.mono (hle3.trans hle4)).rd hgr rfl) (SP.U (i := 5) rfl (SU.move rfl) (SP.U (i := 6) rfl (SU.sliceH underlying45 sizeOf3 rfl rfl (by omega) (by omega)) (SP.U (i := 8) rfl (SU.move rfl) (SP.U (i := 9) rfl (SU.move rfl) (SP.U (i := 10) rfl (SU.indexAddr underlying22 sizeOf45 rfl rfl hb1 (by omega) (by simp only [slen]; omega)) (SP.K (i := 11) rfl (SQ.elem1 (u := .slice rp x.length rc) isAgg45 rfl (hrs.mono (hle3.trans hle4)).rd hgr rfl) (SP.U (i := 12) rfl (SU.move rfl) (SP.U (i := 13) rfl (SU.add rfl rfl (by omega)) (SP.U (i := 14) rfl (SU.eq (v' := sliced rp (j + 1) x.length rc 1) (SU.sliceL underlying45 sizeOf3 rfl rfl (by omega) (by omega)) (by rw [show ((j : Int) + 1).toNat = j + 1 by omega])) ?_))))))))))))
            refine SP.o (i := 0) rfl (SO.buildSlice sty45 rfl rfl rfl (szs_mk trivial) (by decide)) (by decide) (.inr (by rintro _ _ _ ⟨b116, rfl, rfl, rfl⟩; exact ⟨by exact Le.refl _, (by exact .cons _ (.refl _))⟩)) ?_
            rintro _ _ _ ⟨b116, rfl, rfl, rfl⟩
            refine SP.to (fun w hw => hw.emptyRow 3 1 (some ⟨b116, 0, none⟩)) ?_
            refine SP.o (i := 7) rfl (SO.appA (e := encInt) (l := []) 0 sty45 rfl rfl rfl hc1 (by rw [List.length_take]; (first | with_reducible rfl | ((try dsimp only); (try simp only [List.length_append, List.length_cons, List.length_nil, List.length_singleton, List.length_take, List.length_drop]) <;> omega))) (by rw [List.length_take]; (first | with_reducible rfl | ((try dsimp only); (try simp only [List.length_append, List.length_cons, List.length_nil, List.length_singleton, List.length_take, List.length_drop]) <;> omega)))) (by decide) (.inr (by rintro v123 _ _ ⟨rfl, rfl⟩; exact ⟨by exact Le.refl _, (by exact .cons _ (.cons _ (.refl _)))⟩)) ?_
            rintro v123 _ _ ⟨rfl, rfl⟩
            refine SP.o (i := 15) rfl (SO.appA (e := encInt) 0 sty45 rfl rfl rfl hc2 (by rw [List.length_drop, hcl1]; omega) (by rw [List.length_drop, hcl1]; omega)) (by decide) (.inl (by decide)) ?_
            rintro v131 _ _ ⟨rfl, rfl⟩
            refine SP.U (i := 16) rfl (SU.assign rfl) (SP.nil (ST.thenN (SC.seq (SC.freezeRow fun g6 hle6 hs6 => ?_))))
            have hrest : Ints g6 v131 (x.eraseIdx j) := (by rw [← her]; exact hs6)
            refine SC.drop (s' := rowA encSide 55 sv (simpSides all x j) :: pt b15 (.cells #[vi ((n : Int) + 1), vi ((x.length : Int) - 1), sv] 51 (0, 0)) :: rowA encCell 51 ov rcs :: pt b13 (.cells #[ov] 27 (0, 0)) :: pt b2 (.cells #[.slice none 0 0] 27 (0, 0)) :: s) (.cons _ (.refl _)) (SC.region (SL.M rfl (SL.M rfl (SL.W (SO.call call55 rfl (place_spec E g6 _ _ _ all (x.eraseIdx j) (hav.mono (hle3.trans (hle4.trans hle6))) hrest (by omega) (fun y hy => by have := has y hy; omega) (by omega) hstr.srt)) ?_))))
            rintro _ _ _ ⟨rfl, rfl, rfl⟩
            refine SL.M rfl (SL.U (SU.extract rfl rfl) (SL.U (SU.extract rfl rfl) (SL.A rfl (SL.A rfl (SL.nil (ST.thenN (SC.region (SL.U (SU.fieldAddr underlying51 rfl sizeOf49 rfl) (SL.K (SQ.load (v := sv) isAgg49 rfl (CellAt.own 1 rfl rfl)) (SL.M rfl (SL.U (SU.add rfl rfl (by omega)) (SL.M rfl (SL.U (SU.eq (v' := vi ((j : Int) % 2)) (SU.rem rfl rfl (by decide)) (congrArg vi (tmod_two j))) (SL.U (SU.mul rfl rfl (by omega)) (SL.U (SU.eq (v' := vi (signC j)) (SU.sub rfl rfl (by omega)) rfl) (SL.U (SU.build rfl (buildS55 _ _)) (SL.W (SO.buildSlice sty49 rfl rfl rfl (szs_mk (by exact ⟨rfl, trivial⟩)) (by decide)) ?_)))))))))))))))))
            rintro _ _ _ ⟨b147, rfl, rfl, rfl⟩
            refine SL.W (SO.app1A (e := encSide) 0 ⟨lbL all (x.eraseIdx j) + 1, signC j⟩ sty49 rfl rfl rfl rfl rfl (by omega) (by omega)) ?_
            rintro v148 _ _ ⟨rfl, rfl⟩
            rw [← hsucc]
            refine SL.facts fun ⟨w0, hw0⟩ => ?_
            obtain ⟨q148, d148, rfl⟩ := rowA_form (i := 0) hw0 rfl
            clear hw0 w0
            refine SL.U (SU.fieldAddr underlying51 rfl sizeOf49 rfl) (SL.on (SO.store1 1 sizeOf49 rfl rfl rfl rfl (Nat.le_of_ble_eq_true rfl) (by rfl)) ?_)
            rintro _ _ _ ⟨rfl, rfl⟩
            refine SL.nil (ST.blockN (ST.thenN (SC.region (SL.M rfl (SL.U (SU.add rfl rfl (by omega)) (SL.A rfl (SL.nil ?_)))))))
            exact ST.again (g6, _, j + 1) ⟨rfl, rfl, rfl, rfl, rfl, rfl, trivial⟩ rfl rfl ⟨hle4.trans hle6, by (first | with_reducible rfl | ((try dsimp only); (try simp only [List.length_append, List.length_cons, List.length_nil, List.length_singleton, List.length_take, List.length_drop]) <;> omega))⟩ (by (first | with_reducible rfl | ((try dsimp only); (try simp only [List.length_append, List.length_cons, List.length_nil, List.length_singleton, List.length_take, List.length_drop]) <;> omega)))
          · have hx1 : x.length = 1 := by omega
            have hj0 : j = 0 := by omega
            have hempty : simpSides all x x.length = simpSides all x j := by
              rw [hx1, hj0]
              have h0 := simpSides_succ all x 0
              have hs0 : sideAt all x 0 = [] := by
                unfold sideAt
                rw [if_neg]
                rw [List.length_eraseIdx]
                simp [hx1]
              rw [h0, hs0, List.append_nil]
            rw [← hempty]
            refine SC.seq (SC.seq (SC.region (SL.M rfl (SL.M rfl (SL.M rfl (SL.U (SU.indexAddr underlying22 sizeOf45 rfl rfl hb1 (by omega) (by simp only [slen]; omega)) (SL.K (SQ.elem1 (u := .slice rp x.length rc) isAgg45 rfl (hrs.mono (hle3.trans hle4)).rd hgr rfl) (SL.U (SU.lenN underlying45 rfl) (SL.U (SU.eq (v' := vb true) (SU.lss rfl rfl) (congrArg vb (decide_eq_true hjd))) (SL.M rfl (SL.Y rfl rfl rfl (SU.fieldAddr underlying51 rfl sizeOf3 rfl) (SL.gq (Gd.onT rfl rfl rfl (by decide)) (SQ.load (v := vi ((x.length : Int) - 1)) isAgg3 rfl (CellAt.own 1 rfl rfl)) (by decide) (SL.Y rfl rfl rfl (SU.eq (v' := vb false) (SU.gtr rfl rfl) (congrArg vb (decide_eq_false hdim))) (SL.U (SU.pickT rfl rfl) (SL.nil (ST.thenN (SC.condF rfl (SC.exit (ST.thenX (ST.thenX (ST.blockX ?_)))))))))))))))))))))
            exact ST.mid (g4, sv) ⟨rfl, rfl, rfl, rfl, rfl, trivial⟩ rfl rfl hle4
        · have hjd : ¬ ((j : Nat) : Int) < ((x.length : Nat) : Int) := by omega
          have hjj : j = x.length := by omega
          subst hjj
          refine SC.seq (SC.seq (SC.region (SL.M rfl (SL.M rfl (SL.M rfl (SL.U (SU.indexAddr underlying22 sizeOf45 rfl rfl hb1 (by omega) (by simp only [slen]; omega)) (SL.K (SQ.elem1 (u := .slice rp x.length rc) isAgg45 rfl (hrs.mono (hle3.trans hle4)).rd hgr rfl) (SL.U (SU.lenN underlying45 rfl) (SL.U (SU.eq (v' := vb false) (SU.lss rfl rfl) (congrArg vb (decide_eq_false hjd))) (SL.M rfl (SL.Z rfl rfl rfl (SL.Z rfl rfl rfl (SL.Z rfl rfl rfl (SL.U (SU.pickF rfl rfl) (SL.nil (ST.thenN (SC.condF rfl (SC.exit (ST.thenX (ST.thenX (ST.blockX ?_)))))))))))))))))))))
          exact ST.mid (g4, sv) ⟨rfl, rfl, rfl, rfl, rfl, trivial⟩ rfl rfl hle4
      · rintro ⟨g4, sv⟩ hle4
        dsimp only at hle4 ⊢
        have hssl := simpSides_length all x x.length
        refine SC.seq (SC.region (SL.freezeRow fun g5 hle5 hs5 => ?_))
        have hsd : SlA encSide g5 sv (simpSides all x x.length) := hs5
        refine SL.U (SU.fieldAddr underlying51 rfl sizeOf49 rfl) (SL.K (SQ.load (v := sv) isAgg49 rfl (CellAt.own 0 rfl rfl)) (SL.W (SO.call call56 rfl (sides_spec E g5 _ _ (simpSides all x x.length) hsd (by omega))) ?_))
        rintro v152 g6 _ ⟨rfl, hle6, hs6⟩
        obtain ⟨q6, d6, rfl⟩ := SlA.form hs6
        obtain ⟨nc, hnc⟩ : ∃ nc : Rc, nc = ⟨(n : Int) + 1, (x.length : Int) - 1, ⟨q6, (sortBy Side.cell (simpSides all x x.length)).length, d6⟩⟩ := ⟨_, rfl⟩
        refine SL.U (SU.fieldAddr underlying51 rfl sizeOf49 rfl) (SL.on (SO.store1 0 sizeOf49 rfl rfl rfl rfl (Nat.le_of_ble_eq_true rfl) (by rfl)) ?_)
        rintro _ _ _ ⟨rfl, rfl⟩
        refine SL.nil (ST.thenN (SC.region (SL.U (SU.fieldAddr underlying27 rfl sizeOf25 rfl) (SL.K (SQ.load isAgg25 rfl (CellAt.own 2 rfl rfl)) (SL.K (SQ.loadVarK 0 isAgg51 sizeOf51 rfl rfl rfl) (SL.W (SO.buildSlice sty25 rfl rfl rfl (szs_mk (by exact ⟨rfl, trivial⟩)) (by decide)) ?_))))))
        rintro _ _ _ ⟨b157, rfl, rfl, rfl⟩
        refine SL.W (SO.app1A (e := encCell) 1 nc sty25 rfl rfl rfl rfl (by rw [hnc]; rfl) (by omega) (by omega)) ?_
        rintro v158 _ _ ⟨rfl, rfl⟩
        refine SL.facts fun ⟨w0, hw0⟩ => ?_
        obtain ⟨q158, d158, rfl⟩ := rowA_form (i := 1) hw0 rfl
        clear hw0 w0
        refine SL.U (SU.fieldAddr underlying27 rfl sizeOf25 rfl) (SL.on (SO.storeAllK 2 sizeOf25 rfl rfl rfl rfl rfl (by exact ⟨rfl, trivial⟩)) ?_)
        rintro _ _ _ ⟨rfl, rfl⟩
        refine SL.nil (ST.blockN (ST.thenN (SC.region (SL.M rfl (SL.U (SU.add rfl rfl (by omega)) (SL.A rfl (SL.nil (ST.drop (s' := rowA encCell 51 (.slice q158 (rcs ++ [nc]).length d158) (rcs ++ [nc]) :: pt b13 (.cells #[.slice q158 (rcs ++ [nc]).length d158] 27 (0, 0)) :: pt b2 (.cells #[.slice none 0 0] 27 (0, 0)) :: s) (.cons _ (.refl _)) ?_))))))))
        refine ST.again (g6, _, rcs ++ [nc], n + 1) ⟨rfl, rfl, rfl, rfl, trivial⟩ rfl rfl ⟨hle3.trans (hle4.trans (hle5.trans hle6)), by (first | with_reducible rfl | ((try dsimp only); (try simp only [List.length_append, List.length_cons, List.length_nil, List.length_singleton, List.length_take, List.length_drop]) <;> omega)), ?_⟩ (by (first | with_reducible rfl | ((try dsimp only); (try simp only [List.length_append, List.length_cons, List.length_nil, List.length_singleton, List.length_take, List.length_drop]) <;> omega)))
        dsimp only
        rw [take_succ_of hget, List.map_append]
        exact (hrcs.mono fun _ _ => CellR.mono (hle4.trans (hle5.trans hle6))).append ⟨(by rw [hnc]; exact ⟨rfl, rfl, hs6⟩), trivial⟩
    · have hnn : n = rs.length := by omega
      have htk : (simpCells all).take n = simpCells all := List.take_of_length_le (by rw [simpCells_length]; omega)
      rw [htk] at hrcs
      refine SC.exit (ST.thenX (ST.thenX (ST.blockX (ST.thenN (SC.seq (SC.freezeRow fun g4 hle4 hs4 => ?_))))))
      have hov : Cells g4 ov (simpC ls) := (by simp only [simpC, hsome, canon_simp]; exact ⟨rcs, hs4, hrcs.mono fun _ _ => CellR.mono hle4⟩)
      obtain ⟨q9, d9, rfl⟩ := hov.form
      refine SC.region (SL.K (SQ.loadVarK 0 isAgg27 sizeOf27 rfl rfl rfl) (SL.on (SO.storeAllK 1 sizeOf27 rfl rfl rfl rfl rfl (by exact ⟨rfl, trivial⟩)) ?_))
      rintro _ _ _ ⟨rfl, rfl⟩
      refine SL.nil (ST.thenN (SC.ret ?_))
      exact ST.retCD 1 s (.inl rfl) results14 rfl isAgg27 sizeOf27 rfl rfl (.cons _ (.cons _ (.refl _))) ⟨rfl, hle.trans (hle3.trans hle4), _, rfl, hov⟩
end Go.Proofs.YtkdibcicncjpdaaGreat
namespace Go.Proofs.YtkdibcicncjpdaaGreat
open _root_.Go.Proofs.Tryz _root_.Go.Proofs.YtkdibcicncjpdaaGreat.Tryz
open Go Go.Sy Go.Pl Go.Proofs
set_option maxRecDepth 100000
set_option maxHeartbeats 2000000
theorem refRight_facts {l : List Cl} (h : (refCheckC l).2 = 0) : l.length ≤ 4000 ∧ (canonC l).Pairwise (fun a b => a.id < b.id) ∧ tabC l = canonC l ∧ ∀ x ∈ canonC l, formC (tabC l) x = 0 := by
  unfold refCheckC at h
  split at h
  · exact absurd h (by decide)
  · rename_i hl
    cases hc : chk1 (tabC l) (canonC l) 0 with
    | some p => rw [hc] at h; exact absurd h (chk1_ne hc)
    | none =>
      have hst := (chk1_strict hc).2
      exact ⟨by omega, hst, tabC_strict hst, chk1_none hc⟩
theorem lbI_self : ∀ {l : List Int} {k : Nat} (h : k < l.length), l.Pairwise (· < ·) → lbI l l[k] = k := by
  intro l
  induction l with
  | nil => intro k h; simp at h
  | cons a r ih =>
    intro k h hs
    obtain ⟨h1, h2⟩ := List.pairwise_cons.1 hs
    cases k with
    | zero =>
      unfold lbI
      rw [List.length_eq_zero_iff, List.filter_eq_nil_iff]
      intro y hy
      rcases List.mem_cons.1 hy with rfl | hy
      · simp
      · have := h1 y hy; simp; omega
    | succ k =>
      have hk : k < r.length := by simpa using h
      have hlt := h1 r[k] (List.getElem_mem hk)
      have := ih hk h2
      unfold lbI at this ⊢
      simp [hlt, this]
theorem at_found {tl : List Cl} (hs : (tl.map Cl.id).Pairwise (· ≤ ·)) {id : Int} (h : (findT tl id).isSome = true) : atC tl id = lbI (tl.map Cl.id) id := by
  obtain ⟨c, hc⟩ := Option.isSome_iff_exists.1 h
  have hm : (tl.map Cl.id).contains id = true := by
    obtain ⟨h1, h2⟩ := findT_mem hc
    simp
    exact ⟨c, h1, h2⟩
  unfold atC
  rw [if_pos hm]
def refProdBad (a b : List Cl) : Bool := !decide ((refCheckC a).2 = 0) || !decide ((refCheckC b).2 = 0) || decide (((tabC a).length : Int) * (tabC b).length > 4000)
def refProdC (a b : List Cl) : List Cl := if refProdBad a b then [] else if (refCheckC (prodAll a b)).2 = 0 then canonC (prodAll a b) else []
theorem flatMap_take_succ {α β : Type} {l : List α} {i : Nat} (h : i < l.length) (f : α → List β) : (l.take (i + 1)).flatMap f = (l.take i).flatMap f ++ f l[i] := by
  rw [List.take_succ_eq_append_getElem h, List.flatMap_append]
  simp
theorem refProduct_spec (E : World) (g : PH) (s : Own) (v u : Value) (a b : List Cl) (hv : Cells g v a) (hu : Cells g u b) (ha : Fits a) (hb : Fits b) :
    Ctr Tryz.prog E 18 #[.agg #[v], .agg #[u]] g s (fun r g' s' => s = s' ∧ Le g g' ∧ ∃ x, r = .agg #[x] ∧ Cells g' x (refProdC a b)) := by
  obtain ⟨vp0, vc0, hvf⟩ := hv.form
  obtain ⟨up0, uc0, huf⟩ := hu.form
  have hbadA : ¬ (refCheckC a).2 = 0 → refProdBad a b = true := fun h => by simp [refProdBad, h]
  have hbadB : (refCheckC a).2 = 0 → ¬ (refCheckC b).2 = 0 → refProdBad a b = true := fun h h2 => by simp [refProdBad, h2]
  have hbadC : (refCheckC a).2 = 0 → (refCheckC b).2 = 0 → refProdBad a b = decide (((tabC a).length : Int) * (tabC b).length > 4000) := fun h h2 => by simp [refProdBad, h, h2]
  have hta := tabC_length a
  have htb := tabC_length b
  have hmul : (refCheckC a).2 = 0 → (refCheckC b).2 = 0 → ((tabC a).length : Int) * (tabC b).length ≤ 16000000 ∧ 0 ≤ ((tabC a).length : Int) * (tabC b).length := fun h h2 => mul_le_4000 (Nat.le_trans hta (refRight_facts h).1) (Nat.le_trans htb (refRight_facts h2).1)
  refine Ctr.of (args := [.agg #[v], .agg #[u]]) func18 rfl ntmps18 (Nat.le_of_ble_eq_true rfl) ?_
  refine SC.seq (SC.region (SL.W (SO.box rfl) ?_))
  rintro _ _ _ ⟨b2, rfl, rfl, rfl⟩
  refine SL.W (SO.box rfl) ?_
  rintro _ _ _ ⟨b3, rfl, rfl, rfl⟩
  refine SL.W (SO.alloc zeroValue27) ?_
  rintro _ _ _ ⟨b4, rfl, rfl, rfl⟩
  refine SL.nil (ST.thenN (SC.seq (SC.region (SL.K (SQ.loadVarK 2 isAgg27 sizeOf27 rfl rfl rfl) (SL.W (SO.call call60 rfl (refRight_spec E g _ _ a hv ha)) ?_)))))
  rintro _ g1 _ ⟨rfl, rfl, hle1⟩
  refine SL.A rfl (SL.nil (ST.thenN (SC.seq (SC.region (SL.K (SQ.loadVarK 1 isAgg27 sizeOf27 rfl rfl rfl) (SL.W (SO.call call60 rfl (refRight_spec E g1 _ _ b (hu.mono hle1) hb)) ?_))))))
  rintro _ g2 _ ⟨rfl, rfl, hle2⟩
  refine SL.A rfl (SL.nil (ST.thenN (SC.seq (SC.region (SL.K (SQ.loadVarK 2 isAgg27 sizeOf27 rfl rfl rfl) (SL.W (SO.call call61 rfl (refCells_spec E g2 _ _ a (hv.mono (hle1.trans hle2)) ha)) ?_))))))
  rintro v24 g3 _ ⟨rfl, hle3, hA⟩
  refine SL.A rfl (SL.nil (ST.thenN (SC.seq (SC.region (SL.K (SQ.loadVarK 1 isAgg27 sizeOf27 rfl rfl rfl) (SL.W (SO.call call61 rfl (refCells_spec E g3 _ _ b (hu.mono (hle1.trans (hle2.trans hle3))) hb)) ?_))))))
  rintro v26 g4 _ ⟨rfl, hle4, hB⟩
  obtain ⟨ra, hra0, halla0⟩ := hA
  have hra := hra0.mono hle4
  have halla := halla0.mono fun _ _ => CellR.mono hle4
  obtain ⟨rb, hrb, hallb⟩ := hB
  have eal := halla.length
  have ebl := hallb.length
  obtain ⟨pa, ca, rfl⟩ := hra.form
  obtain ⟨pb, cb, rfl⟩ := hrb.form
  refine SL.A rfl (SL.nil (ST.thenN (SC.seq ?_)))
  refine SC.cutB 40 ((refProdBad a b)) ?_ ?_
  · skip
    refine SC.region (SL.M rfl (SL.U (SU.notP rfl) (SL.M rfl ?_)))
    refine SL.split ?_ ?_
    · intro h29
      refine SL.Z rfl rfl rfl (SL.Z rfl rfl rfl (SL.U (SU.pickT rfl rfl) (SL.M rfl (SL.Z rfl rfl rfl (SL.Z rfl rfl rfl (SL.Z rfl rfl rfl (SL.Z rfl rfl rfl (SL.Z rfl rfl rfl (SL.Z rfl rfl rfl (SL.U (SU.pickT rfl rfl) (SL.nil ?_)))))))))))
      exact ST.mid1 (by (rw [hbadA h29]; rfl)) (by repeat' (first | exact trivial | refine ⟨.inl rfl, ?_⟩ | refine ⟨.inr rfl, ?_⟩))
    · intro h29
      refine SL.Y rfl rfl rfl (SU.move rfl) (SL.Y rfl rfl rfl (SU.notP rfl) (SL.U (SU.pickF rfl rfl) (SL.M rfl ?_)))
      refine SL.split ?_ ?_
      · intro h33
        refine SL.Z rfl rfl rfl (SL.Z rfl rfl rfl (SL.Z rfl rfl rfl (SL.Z rfl rfl rfl (SL.Z rfl rfl rfl (SL.Z rfl rfl rfl (SL.U (SU.pickT rfl rfl) (SL.nil ?_)))))))
        exact ST.mid1 (by (rw [hbadB (Decidable.of_not_not h29) h33]; rfl)) (by repeat' (first | exact trivial | refine ⟨.inl rfl, ?_⟩ | refine ⟨.inr rfl, ?_⟩))
      · intro h33
        refine SL.Y rfl rfl rfl (SU.move rfl) (SL.Y rfl rfl rfl (SU.lenN underlying25 rfl) (SL.Y rfl rfl rfl (SU.move rfl) (SL.Y rfl rfl rfl (SU.lenN underlying25 rfl) (SL.Y rfl rfl rfl (SU.mul rfl rfl (by have := hmul (Decidable.of_not_not h29) (Decidable.of_not_not h33); rw [eal, ebl] at this; omega)) ?_))))
        refine SL.Y rfl rfl rfl (SU.gtr rfl rfl) (SL.U (SU.pickF rfl rfl) (SL.nil ?_))
        exact ST.mid1 (by (rw [hbadC (Decidable.of_not_not h29) (Decidable.of_not_not h33), eal, ebl]; rfl)) (by repeat' (first | exact trivial | refine ⟨.inl rfl, ?_⟩ | refine ⟨.inr rfl, ?_⟩))
  refine SC.ifB rfl (fun hbad => ?_) (fun hbad => ?_)
  · skip
    refine SC.seq (SC.region (SL.U (SU.build rfl (buildE27)) (SL.on (SO.storeAllK 0 sizeOf27 rfl rfl rfl rfl rfl (by exact ⟨rfl, trivial⟩)) ?_)))
    rintro _ _ _ ⟨rfl, rfl⟩
    refine SL.nil (ST.thenN (SC.ret (ST.thenR ?_)))
    exact ST.retCD 0 s (.inl rfl) results18 rfl isAgg27 sizeOf27 rfl rfl (.cons _ (.cons _ (.cons _ (.refl _)))) ⟨rfl, hle1.trans (hle2.trans (hle3.trans hle4)), _, rfl, by unfold refProdC; rw [if_pos hbad]; exact ⟨[], Sl.nil _ _, trivial⟩⟩
  · have hra0 : (refCheckC a).2 = 0 := Decidable.of_not_not fun h => by rw [hbadA h] at hbad; cases hbad
    have hrb0 : (refCheckC b).2 = 0 := Decidable.of_not_not fun h => by rw [hbadB hra0 h] at hbad; cases hbad
    have hsz : ((tabC a).length : Int) * (tabC b).length ≤ 4000 := by rw [hbadC hra0 hrb0] at hbad; simp at hbad; omega
    obtain ⟨hal, hastr, hat, haf⟩ := refRight_facts hra0
    obtain ⟨hbl, hbstr, hbt, hbf⟩ := refRight_facts hrb0
    rw [← hat] at hastr haf
    rw [← hbt] at hbstr hbf
    have hats := tabC_sorted a
    have hbts := tabC_sorted b
    have hai : ((tabC a).map Cl.id).Pairwise (· < ·) := List.pairwise_map.2 hastr
    have hbi : ((tabC b).map Cl.id).Pairwise (· < ·) := List.pairwise_map.2 hbstr
    have hall4 : tabC a = canonC a → tabC b = canonC b → prodAll a b = (tabC a).flatMap fun x => (tabC b).map (prodCell (tabC a) (tabC b) x) := fun h h2 => by unfold prodAll; rw [← h, ← h2]
    have hprod := hall4 hat hbt
    have hCa : Cells g4 (.slice pa ra.length ca) (tabC a) := ⟨ra, hra, halla⟩
    have hCb : Cells g4 (.slice pb rb.length cb) (tabC b) := ⟨rb, hrb, hallb⟩
    refine SC.skip (ST.thenN (SC.seq (SC.region (SL.M rfl (SL.U (SU.lenN underlying25 rfl) (SL.A rfl (SL.nil (ST.thenN (SC.seq (SC.region (SL.W (SO.alloc zeroValue27) ?_)))))))))))
    rintro _ _ _ ⟨b10, rfl, rfl, rfl⟩
    refine SL.nil (ST.thenN (SC.seq (SC.seq (SC.region (SL.A rfl (SL.nil (ST.thenN (SC.block (SC.nilRow 51 3 ?_)))))))))
    refine SC.loop (ι := PH × Value × List Rc × Nat) (fun i => [(2, pp b2 0), (3, pp b3 0), (4, pp b4 0), (7, .slice pa ra.length ca), (8, .slice pb rb.length cb), (9, vi rb.length), (10, pp b10 0), (11, vi i.2.2.2)]) (fun i => i.1) (fun i => rowA encCell 51 i.2.1 i.2.2.1 :: pt b10 (.cells #[i.2.1] 27 (0, 0)) :: pt b4 (.cells #[.slice none 0 0] 27 (0, 0)) :: pt b3 (.cells #[u] 27 (0, 0)) :: pt b2 (.cells #[v] 27 (0, 0)) :: s)
      (fun i => Le g4 i.1 ∧ i.2.2.2 ≤ ra.length ∧ All2 (CellR i.1) (((tabC a).take i.2.2.2).flatMap fun x => (tabC b).map (prodCell (tabC a) (tabC b) x)) i.2.2.1) (fun i => ra.length - i.2.2.2)
      (g4, .slice none 0 0, [], 0) ⟨rfl, rfl, rfl, rfl, rfl, rfl, rfl, rfl, trivial⟩ rfl rfl ⟨Le.refl g4, Nat.zero_le _, trivial⟩ ?_
    rintro ⟨g5, ov, rcs, i⟩ ⟨hle5, hi, hrcs⟩
    dsimp only at hle5 hi hrcs ⊢
    refine SC.seq (SC.seq (SC.region (SL.M rfl (SL.M rfl (SL.U (SU.lenN underlying25 rfl) (SL.U (SU.lss rfl rfl) (SL.nil (ST.thenN ?_))))))))
    refine SC.ifP rfl (fun hlt => ?_) (fun hlt => ?_)
    · have hil : i < (tabC a).length := by omega
      have hir : i < ra.length := by omega
      have hb1 := hra.based (by omega)
      have hxr := halla.get (List.getElem?_eq_getElem hil) (List.getElem?_eq_getElem hir)
      have hgx0 : ra[((i : Nat) : Int).toNat]? = some ra[i] := List.getElem?_eq_getElem hir
      have hxm := List.getElem_mem hil
      have hxi : lbI ((tabC a).map Cl.id) (tabC a)[i].id = i := by
        have := lbI_self (l := (tabC a).map Cl.id) (k := i) (by simpa using hil) hai
        simpa using this
      have hsucc := flatMap_take_succ hil fun x => (tabC b).map (prodCell (tabC a) (tabC b) x)
      generalize hxe : (tabC a)[i] = x at *
      obtain ⟨xp, xcap, hrx, hxs⟩ := cellR_form hxr
      rw [hrx] at hgx0
      have hgx := hgx0
      have hxf := haf x hxm
      have hxd := form_dim hxf
      have hxo := form_ok hxf
      have hxfd := form_found hxf
      refine SC.skip (ST.thenN (SC.seq (SC.block (SC.seq (SC.region (SL.A rfl (SL.nil (ST.thenN (SC.block ?_)))))))))
      refine SC.loop (ι := PH × Value × List Rc × Nat) (fun k => [(2, pp b2 0), (3, pp b3 0), (4, pp b4 0), (7, .slice pa ra.length ca), (8, .slice pb rb.length cb), (9, vi rb.length), (10, pp b10 0), (11, vi i), (12, vi k.2.2.2)]) (fun k => k.1) (fun k => rowA encCell 51 k.2.1 k.2.2.1 :: pt b10 (.cells #[k.2.1] 27 (0, 0)) :: pt b4 (.cells #[.slice none 0 0] 27 (0, 0)) :: pt b3 (.cells #[u] 27 (0, 0)) :: pt b2 (.cells #[v] 27 (0, 0)) :: s)
        (fun k => Le g5 k.1 ∧ k.2.2.2 ≤ rb.length ∧ All2 (CellR k.1) ((((tabC a).take i).flatMap fun x => (tabC b).map (prodCell (tabC a) (tabC b) x)) ++ ((tabC b).take k.2.2.2).map (prodCell (tabC a) (tabC b) x)) k.2.2.1) (fun k => rb.length - k.2.2.2)
        (g5, ov, rcs, 0) ⟨rfl, rfl, rfl, rfl, rfl, rfl, rfl, rfl, rfl, trivial⟩ rfl rfl ⟨Le.refl g5, Nat.zero_le _, by simpa using hrcs⟩ ?_
      rintro ⟨g6, ov2, rcs2, k⟩ ⟨hle6, hk, hrcs2⟩
      dsimp only at hle6 hk hrcs2 ⊢
      refine SC.seq (SC.seq (SC.region (SL.M rfl (SL.M rfl (SL.U (SU.lss rfl rfl) (SL.nil (ST.thenN ?_)))))))
      refine SC.ifP rfl (fun hlt2 => ?_) (fun hlt2 => ?_)
      · have hkl : k < (tabC b).length := by omega
        have hkr : k < rb.length := by omega
        have hb2 := hrb.based (by omega)
        have hyr := hallb.get (List.getElem?_eq_getElem hkl) (List.getElem?_eq_getElem hkr)
        have hgy0 : rb[((k : Nat) : Int).toNat]? = some rb[k] := List.getElem?_eq_getElem hkr
        have hym := List.getElem_mem hkl
        have hyi : lbI ((tabC b).map Cl.id) (tabC b)[k].id = k := by
          have := lbI_self (l := (tabC b).map Cl.id) (k := k) (by simpa using hkl) hbi
          simpa using this
        have htk : ((tabC b).take (k + 1)).map (prodCell (tabC a) (tabC b) x) = ((tabC b).take k).map (prodCell (tabC a) (tabC b) x) ++ [prodCell (tabC a) (tabC b) x (tabC b)[k]] := by rw [List.take_succ_eq_append_getElem hkl, List.map_append]; rfl
        generalize hye : (tabC b)[k] = y at *
        obtain ⟨yp, ycap, hry, hys⟩ := cellR_form hyr
        rw [hry] at hgy0
        have hgy := hgy0
        have hyf := hbf y hym
        have hyd := form_dim hyf
        have hyo := form_ok hyf
        have hyfd := form_found hyf
        have hlenr := hrcs2.length
        have hbnd : (i : Int) * rb.length ≤ 4000 := by
          have h1 : (i : Int) * rb.length ≤ (ra.length : Int) * rb.length := Int.mul_le_mul_of_nonneg_right (by omega) (by omega)
          rw [eal, ebl] at hsz
          omega
        have hbnd0 : 0 ≤ (i : Int) * rb.length := Int.mul_nonneg (by omega) (by omega)
        have hrcl : rcs2.length ≤ 4000 := by
          have h1 : rcs2.length = i * rb.length + k := by
            rw [← hlenr, List.length_append, List.length_map, List.length_take, flatMap_len, List.length_take, ← ebl]
            rw [Nat.min_eq_left (by omega), Nat.min_eq_left (by omega)]
          have h2 : i * rb.length + k ≤ ra.length * rb.length := by
            have h3 : (i + 1) * rb.length ≤ ra.length * rb.length := Nat.mul_le_mul_right _ (by omega)
            rw [Nat.succ_mul] at h3
            omega
          have h4 : ((ra.length * rb.length : Nat) : Int) ≤ 4000 := by rw [eal, ebl] at hsz; rw [Int.natCast_mul]; exact hsz
          omega
        have hid : prodId (tabC a) (tabC b) x.id y.id = (i : Int) * rb.length + k + 1 := by unfold prodId; rw [hxi, hyi, ebl]
        have hra6 := hra.mono (hle5.trans hle6)
        have hrb6 := hrb.mono (hle5.trans hle6)
        have hxs6 := hxs.mono (hle5.trans hle6)
        have hys6 := hys.mono (hle5.trans hle6)
        refine SC.skip (ST.thenN (SC.seq (SC.block (SC.seq ?_))))
        refine SC.draw [] [(0, 2), (1, 2), (2, 2), (3, 2), (4, 2), (5, 2), (6, 2), (7, 2), (8, 2), (9, 2), (10, 1), (11, 2), (12, 2), (13, 2), (14, 2), (15, 1), (16, 2), (17, 2), (18, 0), (19, 0)] Tryz.mixed (by kernel_rfl) ?_
        refine SP.U (i := 0) rfl (SU.move rfl) (SP.U (i := 1) rfl (SU.move rfl) (SP.U (i := 2) rfl (SU.mul rfl rfl (by omega)) (SP.U (i := 3) rfl (SU.move rfl) (SP.U (i := 4) rfl (SU.add rfl rfl (by omega)) (SP.U (i := 5) rfl (SU.add rfl rfl (by omega)) (SP.U (i := 6) rfl (SU.move rfl) (SP.U (i := 7) rfl (SU.move rfl) (SP.U (i := 8) rfl (SU.indexAddr underlying25 sizeOf51 rfl rfl hb1 (by omega) (by simp only [slen]; omega)) (SP.U (i := 9) rfl (SU.fieldAddrC underlying51 rfl sizeOf3 rfl hb1) (SP.K (i := 10) rfl (SQ.partA (e := encCell) (o := 1) (u := vi x.dim) isAgg3 rfl hra6.rd hgx rfl) (SP.U (i := 11) rfl (SU.move rfl) (SP.U (i := 12) rfl (SU.move rfl) (SP.U (i := 13) rfl (SU.indexAddr underlying25 sizeOf51 rfl rfl hb2 (by omega) (by simp only [slen]; omega)) (SP.U (i := 14) rfl (SU.fieldAddrC underlying51 rfl sizeOf3 rfl hb2) (SP.K (i := 15) rfl (SQ.partA (e := encCell) (o := 1) (u := vi y.dim) isAgg3 rfl hrb6.rd hgy rfl) (SP.U (i := 16) rfl (SU.add rfl rfl (by omega)) (SP.U (i := 17) rfl (SU.build rfl (buildC51 _ _)) (SP.o (i := 18) rfl (SO.alloc zeroValue51) (by decide) (.inr (by rintro _ _ _ ⟨b13, rfl, rfl, rfl⟩; exact ⟨by exact Le.refl _, (by exact .cons _ (.refl _))⟩)) ?_))))))))))))))))))
        rintro _ _ _ ⟨b13, rfl, rfl, rfl⟩
        refine SP.on (i := 19) rfl (SO.storeAllK 0 sizeOf51 rfl rfl rfl rfl rfl (by exact ⟨rfl, rfl, rfl, trivial⟩)) (.inr (by rintro _ _ _ ⟨rfl, rfl⟩; exact ⟨by exact Le.refl _, (by exact .cons _ (.refl _))⟩)) ?_
        rintro _ _ _ ⟨rfl, rfl⟩
        refine SP.nil (ST.thenN (SC.seq (SC.seq (SC.region (SL.A rfl (SL.nil (ST.thenN (SC.block ?_))))))))
        refine SC.to (fun w hw => ?_) (g' := g6) (s' := pt b13 (.cells #[vi (prodId (tabC a) (tabC b) x.id y.id), vi (x.dim + y.dim), .slice none 0 0] 51 (0, 0)) :: rowA encCell 51 ov2 rcs2 :: pt b10 (.cells #[ov2] 27 (0, 0)) :: pt b4 (.cells #[.slice none 0 0] 27 (0, 0)) :: pt b3 (.cells #[u] 27 (0, 0)) :: pt b2 (.cells #[v] 27 (0, 0)) :: s) ?_
        · rw [hid]; exact hw
        refine SC.nilRow 55 2 ?_
        refine SC.loop (ι := Value × Nat) (fun j => [(2, pp b2 0), (3, pp b3 0), (4, pp b4 0), (7, .slice pa ra.length ca), (8, .slice pb rb.length cb), (9, vi rb.length), (10, pp b10 0), (11, vi i), (12, vi k), (13, pp b13 0), (14, vi j.2)]) (fun _ => g6)
          (fun j => rowA encSide 55 j.1 ((x.sides.take j.2).map fun q => (⟨prodId (tabC a) (tabC b) q.cell y.id, q.sign⟩ : Side)) :: pt b13 (.cells #[vi (prodId (tabC a) (tabC b) x.id y.id), vi (x.dim + y.dim), j.1] 51 (0, 0)) :: rowA encCell 51 ov2 rcs2 :: pt b10 (.cells #[ov2] 27 (0, 0)) :: pt b4 (.cells #[.slice none 0 0] 27 (0, 0)) :: pt b3 (.cells #[u] 27 (0, 0)) :: pt b2 (.cells #[v] 27 (0, 0)) :: s)
          (fun j => j.2 ≤ x.sides.length) (fun j => x.sides.length - j.2) (.slice none 0 0, 0) ⟨rfl, rfl, rfl, rfl, rfl, rfl, rfl, rfl, rfl, rfl, rfl, trivial⟩ rfl rfl (Nat.zero_le _) ?_
        rintro ⟨sv, j⟩ hj
        dsimp only at hj ⊢
        refine SC.seq (SC.seq (SC.region (SL.M rfl (SL.M rfl (SL.M rfl (SL.U (SU.indexAddr underlying25 sizeOf51 rfl rfl hb1 (by omega) (by simp only [slen]; omega)) (SL.U (SU.fieldAddrC underlying51 rfl sizeOf49 rfl hb1) (SL.K (SQ.partA (e := encCell) (o := 2) (u := .slice xp x.sides.length xcap) isAgg49 rfl hra6.rd hgx rfl) (SL.U (SU.lenN underlying49 rfl) (SL.U (SU.lss rfl rfl) (SL.nil (ST.thenN ?_))))))))))))
        refine SC.ifP rfl (fun hlt3 => ?_) (fun hlt3 => ?_)
        · have hjl : j < x.sides.length := by omega
          have hb3 := hxs6.based (by omega)
          have hjx : x.sides[((j : Nat) : Int).toNat]? = some x.sides[j] := List.getElem?_eq_getElem hjl
          have htj : (x.sides.take (j + 1)).map (fun q => (⟨prodId (tabC a) (tabC b) q.cell y.id, q.sign⟩ : Side)) = (x.sides.take j).map (fun q => (⟨prodId (tabC a) (tabC b) q.cell y.id, q.sign⟩ : Side)) ++ [⟨prodId (tabC a) (tabC b) x.sides[j].cell y.id, x.sides[j].sign⟩] := by rw [List.take_succ_eq_append_getElem hjl, List.map_append]; rfl
          have hqf := hxfd _ (List.getElem_mem hjl)
          generalize x.sides[j] = z at *
          have hatz := at_found hats hqf
          have hlbz := lbI_le ((tabC a).map Cl.id) z.cell
          rw [List.length_map] at hlbz
          have hidz : prodId (tabC a) (tabC b) z.cell y.id = ((lbI ((tabC a).map Cl.id) z.cell : Nat) : Int) * rb.length + k + 1 := by unfold prodId; rw [hyi, ebl]
          have hbz : ((lbI ((tabC a).map Cl.id) z.cell : Nat) : Int) * rb.length ≤ 4000 := by
            have h1 : ((lbI ((tabC a).map Cl.id) z.cell : Nat) : Int) * rb.length ≤ (ra.length : Int) * rb.length := Int.mul_le_mul_of_nonneg_right (by omega) (by omega)
            rw [eal, ebl] at hsz
            omega
          have hbz0 : 0 ≤ ((lbI ((tabC a).map Cl.id) z.cell : Nat) : Int) * rb.length := Int.mul_nonneg (by omega) (by omega)
          refine SC.skip (ST.thenN (SC.seq (SC.block (SC.seq (SC.region (SL.M rfl (SL.M rfl (SL.U (SU.indexAddr underlying25 sizeOf51 rfl rfl hb1 (by omega) (by simp only [slen]; omega)) (SL.U (SU.fieldAddrC underlying51 rfl sizeOf49 rfl hb1) (SL.K (SQ.partA (e := encCell) (o := 2) (u := .slice xp x.sides.length xcap) isAgg49 rfl hra6.rd hgx rfl) (SL.M rfl (SL.U (SU.indexAddr underlying49 sizeOf55 rfl rfl hb3 (by omega) (by simp only [slen]; omega)) (SL.K (SQ.elemA isAgg55 sizeOf55 rfl hxs6.rd hjx) (SL.W (SO.alloc zeroValue55) ?_))))))))))))))
          rintro _ _ _ ⟨b15, rfl, rfl, rfl⟩
          refine SL.on (SO.storeAllK 0 sizeOf55 rfl rfl rfl rfl rfl (by exact ⟨rfl, rfl, trivial⟩)) ?_
          rintro _ _ _ ⟨rfl, rfl⟩
          refine SL.nil (ST.thenN ?_)
          refine SC.to (fun w hw => hw) (g' := g6) (s' := pt b15 (.cells #[vi z.cell, vi z.sign] 55 (0, 0)) :: rowA encSide 55 sv ((x.sides.take j).map fun q => (⟨prodId (tabC a) (tabC b) q.cell y.id, q.sign⟩ : Side)) :: pt b13 (.cells #[vi (prodId (tabC a) (tabC b) x.id y.id), vi (x.dim + y.dim), sv] 51 (0, 0)) :: rowA encCell 51 ov2 rcs2 :: pt b10 (.cells #[ov2] 27 (0, 0)) :: pt b4 (.cells #[.slice none 0 0] 27 (0, 0)) :: pt b3 (.cells #[u] 27 (0, 0)) :: pt b2 (.cells #[v] 27 (0, 0)) :: s) ?_
          refine SC.draw [15, 16, 17] [(0, 2), (1, 1), (2, 2), (3, 2), (4, 1), (6, 2), (8, 2), (11, 2), (12, 1), (5, 0), (7, 2), (9, 2), (10, 2), (13, 2), (14, 0), (15, 0), (16, 0), (17, 0)] Tryz.mixed (by kernel_rfl) ?_
          refine SP.U (i := 0) rfl (SU.fieldAddr underlying51 rfl sizeOf49 rfl) (SP.K (i := 1) rfl (SQ.load (v := sv) isAgg49 rfl (CellAt.own 2 rfl rfl)) (SP.U (i := 2) rfl (SU.move rfl) (SP.U (i := 3) rfl (SU.fieldAddr underlying55 rfl sizeOf3 rfl) (SP.K (i := 4) rfl (SQ.load (v := vi z.cell) isAgg3 rfl (CellAt.own 0 rfl rfl)) (SP.U (i := 6) rfl (SU.move rfl) (SP.U (i := 8) rfl (SU.move rfl) (SP.U (i := 11) rfl (SU.fieldAddr underlying55 rfl sizeOf3 rfl) (SP.K (i := 12) rfl (SQ.load (v := vi z.sign) isAgg3 rfl (CellAt.own 0 rfl rfl)) (SP.o (i := 5) rfl (SO.call call62 rfl (at_spec E g6 _ _ (tabC a) z.cell (hCa.mono (hle5.trans hle6)) (by omega) hats)) (by decide) (.inr (by rintro _ _ _ ⟨rfl, rfl, rfl⟩; exact ⟨by exact Le.refl _, (by exact .refl _)⟩)) ?_)))))))))
          rintro _ _ _ ⟨rfl, rfl, rfl⟩
          rw [hatz]
          refine SP.U (i := 7) rfl (SU.mul rfl rfl (by omega)) (SP.U (i := 9) rfl (SU.add rfl rfl (by omega)) (SP.U (i := 10) rfl (SU.eq (v' := vi (prodId (tabC a) (tabC b) z.cell y.id)) (SU.add rfl rfl (by omega)) (congrArg vi hidz.symm)) (SP.U (i := 13) rfl (SU.build rfl (buildS55 _ _)) (SP.o (i := 14) rfl (SO.buildSlice sty49 rfl rfl rfl (szs_mk (by exact ⟨rfl, trivial⟩)) (by decide)) (by decide) (.inr (by rintro _ _ _ ⟨b105, rfl, rfl, rfl⟩; exact ⟨by exact Le.refl _, (by exact .cons _ (.refl _))⟩)) ?_))))
          rintro _ _ _ ⟨b105, rfl, rfl, rfl⟩
          refine SP.o (i := 15) rfl (SO.app1A (e := encSide) 1 ⟨prodId (tabC a) (tabC b) z.cell y.id, z.sign⟩ sty49 rfl rfl rfl rfl rfl (by simp; omega) (by simp; omega)) (by decide) (.inl (by decide)) ?_
          rintro sv' _ _ ⟨rfl, rfl⟩
          rw [← htj]
          refine SP.facts fun ⟨w0, hw0⟩ => ?_
          obtain ⟨q6, d6, rfl⟩ := rowA_form (i := 1) hw0 rfl
          clear hw0 w0
          refine SP.ou (i := 16) rfl (SU.fieldAddr underlying51 rfl sizeOf49 rfl) (by decide) (.inl (by decide)) (SP.on (i := 17) rfl (SO.store1 2 sizeOf49 rfl rfl rfl rfl (Nat.le_of_ble_eq_true rfl) (by rfl)) (.inl (by decide)) ?_)
          rintro _ _ _ ⟨rfl, rfl⟩
          refine SP.nil (ST.blockN (ST.thenN (SC.region (SL.M rfl (SL.U (SU.add rfl rfl (by omega)) (SL.A rfl (SL.nil (ST.drop (s' := rowA encSide 55 (.slice q6 ((x.sides.take (j + 1)).map fun q => (⟨prodId (tabC a) (tabC b) q.cell y.id, q.sign⟩ : Side)).length d6) ((x.sides.take (j + 1)).map fun q => (⟨prodId (tabC a) (tabC b) q.cell y.id, q.sign⟩ : Side)) :: pt b13 (.cells #[vi (prodId (tabC a) (tabC b) x.id y.id), vi (x.dim + y.dim), .slice q6 ((x.sides.take (j + 1)).map fun q => (⟨prodId (tabC a) (tabC b) q.cell y.id, q.sign⟩ : Side)).length d6] 51 (0, 0)) :: rowA encCell 51 ov2 rcs2 :: pt b10 (.cells #[ov2] 27 (0, 0)) :: pt b4 (.cells #[.slice none 0 0] 27 (0, 0)) :: pt b3 (.cells #[u] 27 (0, 0)) :: pt b2 (.cells #[v] 27 (0, 0)) :: s) (.cons _ (.refl _)) ?_))))))))
          exact ST.again (_, j + 1) ⟨rfl, rfl, rfl, rfl, rfl, rfl, rfl, rfl, rfl, rfl, rfl, trivial⟩ rfl rfl (by (first | with_reducible rfl | ((try dsimp only); (try simp only [List.length_append, List.length_cons, List.length_nil, List.length_singleton, List.length_take, List.length_drop]) <;> omega))) (by (first | with_reducible rfl | ((try dsimp only); (try simp only [List.length_append, List.length_cons, List.length_nil, List.length_singleton, List.length_take, List.length_drop]) <;> omega)))
        · have hjj : x.sides.take j = x.sides := List.take_of_length_le (by omega)
          rw [hjj]
          generalize hfl1 : x.sides.map (fun q => (⟨prodId (tabC a) (tabC b) q.cell y.id, q.sign⟩ : Side)) = fl1 at *
          have hfl1l : fl1.length = x.sides.length := by rw [← hfl1, List.length_map]
          refine SC.exit (ST.thenX (ST.thenX (ST.blockX (ST.thenN (SC.seq (SC.seq (SC.region (SL.A rfl (SL.nil (ST.thenN (SC.block ?_)))))))))))
          refine SC.loop (ι := Value × Nat) (fun m => [(2, pp b2 0), (3, pp b3 0), (4, pp b4 0), (7, .slice pa ra.length ca), (8, .slice pb rb.length cb), (9, vi rb.length), (10, pp b10 0), (11, vi i), (12, vi k), (13, pp b13 0), (16, vi m.2)]) (fun _ => g6)
            (fun m => rowA encSide 55 m.1 (fl1 ++ (y.sides.take m.2).map fun q => (⟨prodId (tabC a) (tabC b) x.id q.cell, signC x.dim * q.sign⟩ : Side)) :: pt b13 (.cells #[vi (prodId (tabC a) (tabC b) x.id y.id), vi (x.dim + y.dim), m.1] 51 (0, 0)) :: rowA encCell 51 ov2 rcs2 :: pt b10 (.cells #[ov2] 27 (0, 0)) :: pt b4 (.cells #[.slice none 0 0] 27 (0, 0)) :: pt b3 (.cells #[u] 27 (0, 0)) :: pt b2 (.cells #[v] 27 (0, 0)) :: s)
            (fun m => m.2 ≤ y.sides.length) (fun m => y.sides.length - m.2) (sv, 0) ⟨rfl, rfl, rfl, rfl, rfl, rfl, rfl, rfl, rfl, rfl, rfl, trivial⟩ rfl (by simp) (Nat.zero_le _) ?_
          rintro ⟨sv2, m⟩ hm
          dsimp only at hm ⊢
          refine SC.seq (SC.seq (SC.region (SL.M rfl (SL.M rfl (SL.M rfl (SL.U (SU.indexAddr underlying25 sizeOf51 rfl rfl hb2 (by omega) (by simp only [slen]; omega)) (SL.U (SU.fieldAddrC underlying51 rfl sizeOf49 rfl hb2) (SL.K (SQ.partA (e := encCell) (o := 2) (u := .slice yp y.sides.length ycap) isAgg49 rfl hrb6.rd hgy rfl) (SL.U (SU.lenN underlying49 rfl) (SL.U (SU.lss rfl rfl) (SL.nil (ST.thenN ?_))))))))))))
          refine SC.ifP rfl (fun hlt4 => ?_) (fun hlt4 => ?_)
          · have hml : m < y.sides.length := by omega
            have hb3 := hys6.based (by omega)
            have hmx : y.sides[((m : Nat) : Int).toNat]? = some y.sides[m] := List.getElem?_eq_getElem hml
            have htm : fl1 ++ (y.sides.take (m + 1)).map (fun q => (⟨prodId (tabC a) (tabC b) x.id q.cell, signC x.dim * q.sign⟩ : Side)) = fl1 ++ (y.sides.take m).map (fun q => (⟨prodId (tabC a) (tabC b) x.id q.cell, signC x.dim * q.sign⟩ : Side)) ++ [⟨prodId (tabC a) (tabC b) x.id y.sides[m].cell, signC x.dim * y.sides[m].sign⟩] := by rw [List.take_succ_eq_append_getElem hml, List.map_append]; simp
            have hqf := hyfd _ (List.getElem_mem hml)
            have hqs := hyo.2 _ (List.getElem_mem hml)
            generalize y.sides[m] = z at *
            have hatz := at_found hbts hqf
            have hlbz := lbI_le ((tabC b).map Cl.id) z.cell
            rw [List.length_map] at hlbz
            have hidz : prodId (tabC a) (tabC b) x.id z.cell = (i : Int) * rb.length + ((lbI ((tabC b).map Cl.id) z.cell : Nat) : Int) + 1 := by unfold prodId; rw [hxi, ebl]
            have hsgn : z.sign * signC x.dim = signC x.dim * z.sign := Int.mul_comm _ _
            have hsgc := signC_cases x.dim
            have htmod : x.dim.tmod 2 = x.dim % 2 := Int.tmod_eq_emod_of_nonneg hxd.1
            have hmulb : -1 ≤ z.sign * signC x.dim ∧ z.sign * signC x.dim ≤ 1 := by rcases hqs with h | h <;> rcases hsgc with h2 | h2 <;> rw [h, h2] <;> decide
            refine SC.skip (ST.thenN (SC.seq (SC.block (SC.seq (SC.region (SL.M rfl (SL.M rfl (SL.U (SU.indexAddr underlying25 sizeOf51 rfl rfl hb2 (by omega) (by simp only [slen]; omega)) (SL.U (SU.fieldAddrC underlying51 rfl sizeOf49 rfl hb2) (SL.K (SQ.partA (e := encCell) (o := 2) (u := .slice yp y.sides.length ycap) isAgg49 rfl hrb6.rd hgy rfl) (SL.M rfl (SL.U (SU.indexAddr underlying49 sizeOf55 rfl rfl hb3 (by omega) (by simp only [slen]; omega)) (SL.K (SQ.elemA isAgg55 sizeOf55 rfl hys6.rd hmx) (SL.W (SO.alloc zeroValue55) ?_))))))))))))))
            rintro _ _ _ ⟨b17, rfl, rfl, rfl⟩
            refine SL.on (SO.storeAllK 0 sizeOf55 rfl rfl rfl rfl rfl (by exact ⟨rfl, rfl, trivial⟩)) ?_
            rintro _ _ _ ⟨rfl, rfl⟩
            refine SL.nil (ST.thenN ?_)
            refine SC.to (fun w hw => hw) (g' := g6) (s' := pt b17 (.cells #[vi z.cell, vi z.sign] 55 (0, 0)) :: rowA encSide 55 sv2 (fl1 ++ (y.sides.take m).map fun q => (⟨prodId (tabC a) (tabC b) x.id q.cell, signC x.dim * q.sign⟩ : Side)) :: pt b13 (.cells #[vi (prodId (tabC a) (tabC b) x.id y.id), vi (x.dim + y.dim), sv2] 51 (0, 0)) :: rowA encCell 51 ov2 rcs2 :: pt b10 (.cells #[ov2] 27 (0, 0)) :: pt b4 (.cells #[.slice none 0 0] 27 (0, 0)) :: pt b3 (.cells #[u] 27 (0, 0)) :: pt b2 (.cells #[v] 27 (0, 0)) :: s) ?_
            refine SC.draw [24, 25, 26] [(0, 2), (1, 1), (2, 2), (3, 2), (4, 2), (5, 2), (6, 2), (7, 1), (11, 2), (12, 1), (13, 2), (14, 2), (15, 2), (16, 2), (17, 1), (18, 2), (19, 2), (20, 2), (21, 2), (8, 0), (9, 2), (10, 2), (22, 2), (23, 0), (24, 0), (25, 0), (26, 0)] Tryz.mixed (by kernel_rfl) ?_
            refine SP.U (i := 0) rfl (SU.fieldAddr underlying51 rfl sizeOf49 rfl) (SP.K (i := 1) rfl (SQ.load (v := sv2) isAgg49 rfl (CellAt.own 2 rfl rfl)) (SP.U (i := 2) rfl (SU.move rfl) (SP.U (i := 3) rfl (SU.move rfl) (SP.U (i := 4) rfl (SU.mul rfl rfl (by omega)) (SP.U (i := 5) rfl (SU.move rfl) (SP.U (i := 6) rfl (SU.fieldAddr underlying55 rfl sizeOf3 rfl) (SP.K (i := 7) rfl (SQ.load (v := vi z.cell) isAgg3 rfl (CellAt.own 0 rfl rfl)) (SP.U (i := 11) rfl (SU.fieldAddr underlying55 rfl sizeOf3 rfl) (SP.K (i := 12) rfl (SQ.load (v := vi z.sign) isAgg3 rfl (CellAt.own 0 rfl rfl)) (SP.U (i := 13) rfl (SU.move rfl) (SP.U (i := 14) rfl (SU.move rfl) (SP.U (i := 15) rfl (SU.indexAddr underlying25 sizeOf51 rfl rfl hb1 (by omega) (by simp only [slen]; omega)) (SP.U (i := 16) rfl (SU.fieldAddrC underlying51 rfl sizeOf3 rfl hb1) (SP.K (i := 17) rfl (SQ.partA (e := encCell) (o := 1) (u := vi x.dim) isAgg3 rfl hra6.rd hgx rfl) (SP.U (i := 18) rfl (SU.eq (v' := vi (x.dim % 2)) (SU.rem rfl rfl (by decide)) (congrArg vi htmod)) (SP.U (i := 19) rfl (SU.mul rfl rfl (by omega)) (SP.U (i := 20) rfl (SU.eq (v' := vi (signC x.dim)) (SU.sub rfl rfl (by omega)) rfl) (SP.U (i := 21) rfl (SU.eq (v' := vi (signC x.dim * z.sign)) (SU.mul rfl rfl (by omega)) (congrArg vi hsgn)) (SP.o (i := 8) rfl (SO.call call62 rfl (at_spec E g6 _ _ (tabC b) z.cell (hCb.mono (hle5.trans hle6)) (by omega) hbts)) (by decide) (.inr (by rintro _ _ _ ⟨rfl, rfl, rfl⟩; exact ⟨by exact Le.refl _, (by exact .refl _)⟩)) ?_)))))))))))))))))))
            rintro _ _ _ ⟨rfl, rfl, rfl⟩
            rw [hatz]
            refine SP.U (i := 9) rfl (SU.add rfl rfl (by omega)) (SP.U (i := 10) rfl (SU.eq (v' := vi (prodId (tabC a) (tabC b) x.id z.cell)) (SU.add rfl rfl (by omega)) (congrArg vi hidz.symm)) (SP.U (i := 22) rfl (SU.build rfl (buildS55 _ _)) (SP.o (i := 23) rfl (SO.buildSlice sty49 rfl rfl rfl (szs_mk (by exact ⟨rfl, trivial⟩)) (by decide)) (by decide) (.inr (by rintro _ _ _ ⟨b149, rfl, rfl, rfl⟩; exact ⟨by exact Le.refl _, (by exact .cons _ (.refl _))⟩)) ?_)))
            rintro _ _ _ ⟨b149, rfl, rfl, rfl⟩
            refine SP.o (i := 24) rfl (SO.app1A (e := encSide) 1 ⟨prodId (tabC a) (tabC b) x.id z.cell, signC x.dim * z.sign⟩ sty49 rfl rfl rfl rfl rfl (by simp; omega) (by simp; omega)) (by decide) (.inl (by decide)) ?_
            rintro sv3 _ _ ⟨rfl, rfl⟩
            rw [← htm]
            refine SP.facts fun ⟨w0, hw0⟩ => ?_
            obtain ⟨q7, d7, rfl⟩ := rowA_form (i := 1) hw0 rfl
            clear hw0 w0
            refine SP.ou (i := 25) rfl (SU.fieldAddr underlying51 rfl sizeOf49 rfl) (by decide) (.inl (by decide)) (SP.on (i := 26) rfl (SO.store1 2 sizeOf49 rfl rfl rfl rfl (Nat.le_of_ble_eq_true rfl) (by rfl)) (.inl (by decide)) ?_)
            rintro _ _ _ ⟨rfl, rfl⟩
            refine SP.nil (ST.blockN (ST.thenN (SC.region (SL.M rfl (SL.U (SU.add rfl rfl (by omega)) (SL.A rfl (SL.nil (ST.drop (s' := rowA encSide 55 (.slice q7 (fl1 ++ (y.sides.take (m + 1)).map fun q => (⟨prodId (tabC a) (tabC b) x.id q.cell, signC x.dim * q.sign⟩ : Side)).length d7) (fl1 ++ (y.sides.take (m + 1)).map fun q => (⟨prodId (tabC a) (tabC b) x.id q.cell, signC x.dim * q.sign⟩ : Side)) :: pt b13 (.cells #[vi (prodId (tabC a) (tabC b) x.id y.id), vi (x.dim + y.dim), .slice q7 (fl1 ++ (y.sides.take (m + 1)).map fun q => (⟨prodId (tabC a) (tabC b) x.id q.cell, signC x.dim * q.sign⟩ : Side)).length d7] 51 (0, 0)) :: rowA encCell 51 ov2 rcs2 :: pt b10 (.cells #[ov2] 27 (0, 0)) :: pt b4 (.cells #[.slice none 0 0] 27 (0, 0)) :: pt b3 (.cells #[u] 27 (0, 0)) :: pt b2 (.cells #[v] 27 (0, 0)) :: s) (.cons _ (.refl _)) ?_))))))))
            exact ST.again (_, m + 1) ⟨rfl, rfl, rfl, rfl, rfl, rfl, rfl, rfl, rfl, rfl, rfl, trivial⟩ rfl rfl (by (first | with_reducible rfl | ((try dsimp only); (try simp only [List.length_append, List.length_cons, List.length_nil, List.length_singleton, List.length_take, List.length_drop]) <;> omega))) (by (first | with_reducible rfl | ((try dsimp only); (try simp only [List.length_append, List.length_cons, List.length_nil, List.length_singleton, List.length_take, List.length_drop]) <;> omega)))
          · have hmm : y.sides.take m = y.sides := List.take_of_length_le (by omega)
            rw [hmm]
            have hpc : prodCell (tabC a) (tabC b) x y = ⟨prodId (tabC a) (tabC b) x.id y.id, x.dim + y.dim, fl1 ++ y.sides.map fun q => (⟨prodId (tabC a) (tabC b) x.id q.cell, signC x.dim * q.sign⟩ : Side)⟩ := by unfold prodCell; rw [hfl1]
            generalize hfl2 : (fl1 ++ y.sides.map fun q => (⟨prodId (tabC a) (tabC b) x.id q.cell, signC x.dim * q.sign⟩ : Side)) = fl2 at *
            refine SC.exit (ST.thenX (ST.thenX (ST.blockX (ST.thenN (SC.region (SL.freezeRow fun g7 hle7 hs7 => ?_))))))
            have hsd : SlA encSide g7 sv2 fl2 := hs7
            obtain ⟨q8, d8, rfl⟩ := SlA.form hsd
            obtain ⟨nc, hnc⟩ : ∃ nc : Rc, nc = ⟨prodId (tabC a) (tabC b) x.id y.id, x.dim + y.dim, ⟨q8, fl2.length, d8⟩⟩ := ⟨_, rfl⟩
            refine SL.U (SU.fieldAddr underlying27 rfl sizeOf25 rfl) (SL.K (SQ.load isAgg25 rfl (CellAt.own 2 rfl rfl)) (SL.K (SQ.loadVarK 0 isAgg51 sizeOf51 rfl rfl rfl) (SL.W (SO.buildSlice sty25 rfl rfl rfl (szs_mk (by exact ⟨rfl, trivial⟩)) (by decide)) ?_)))
            rintro _ _ _ ⟨b155, rfl, rfl, rfl⟩
            refine SL.W (SO.app1A (e := encCell) 1 nc sty25 rfl rfl rfl rfl (by rw [hnc]; rfl) (by omega) (by omega)) ?_
            rintro v156 _ _ ⟨rfl, rfl⟩
            refine SL.facts fun ⟨w0, hw0⟩ => ?_
            obtain ⟨q9, d9, rfl⟩ := rowA_form (i := 1) hw0 rfl
            clear hw0 w0
            refine SL.U (SU.fieldAddr underlying27 rfl sizeOf25 rfl) (SL.on (SO.storeAllK 2 sizeOf25 rfl rfl rfl rfl rfl (by exact ⟨rfl, trivial⟩)) ?_)
            rintro _ _ _ ⟨rfl, rfl⟩
            refine SL.nil (ST.blockN (ST.thenN (SC.region (SL.M rfl (SL.U (SU.add rfl rfl (by omega)) (SL.A rfl (SL.nil (ST.drop (s' := rowA encCell 51 (.slice q9 (rcs2 ++ [nc]).length d9) (rcs2 ++ [nc]) :: pt b10 (.cells #[(.slice q9 (rcs2 ++ [nc]).length d9)] 27 (0, 0)) :: pt b4 (.cells #[.slice none 0 0] 27 (0, 0)) :: pt b3 (.cells #[u] 27 (0, 0)) :: pt b2 (.cells #[v] 27 (0, 0)) :: s) (.cons _ (.refl _)) ?_))))))))
            refine ST.again (g7, _, rcs2 ++ [nc], k + 1) ⟨rfl, rfl, rfl, rfl, rfl, rfl, rfl, rfl, rfl, trivial⟩ rfl rfl ⟨hle6.trans hle7, by (first | with_reducible rfl | ((try dsimp only); (try simp only [List.length_append, List.length_cons, List.length_nil, List.length_singleton, List.length_take, List.length_drop]) <;> omega)), ?_⟩ (by (first | with_reducible rfl | ((try dsimp only); (try simp only [List.length_append, List.length_cons, List.length_nil, List.length_singleton, List.length_take, List.length_drop]) <;> omega)))
            dsimp only
            rw [htk, ← List.append_assoc]
            exact (hrcs2.mono fun _ _ => CellR.mono hle7).append ⟨(by rw [hpc, hnc]; exact ⟨rfl, rfl, hsd⟩), trivial⟩
      · have hkk : (tabC b).take k = tabC b := List.take_of_length_le (by omega)
        rw [hkk] at hrcs2
        refine SC.exit (ST.thenX (ST.thenX (ST.blockX (ST.blockN (ST.thenN (SC.region (SL.M rfl (SL.U (SU.add rfl rfl (by omega)) (SL.A rfl (SL.nil ?_))))))))))
        exact ST.again (g6, ov2, rcs2, i + 1) ⟨rfl, rfl, rfl, rfl, rfl, rfl, rfl, rfl, trivial⟩ rfl rfl ⟨hle5.trans hle6, by (first | with_reducible rfl | ((try dsimp only); (try simp only [List.length_append, List.length_cons, List.length_nil, List.length_singleton, List.length_take, List.length_drop]) <;> omega)), by dsimp only; rw [hsucc]; exact hrcs2⟩ (by (first | with_reducible rfl | ((try dsimp only); (try simp only [List.length_append, List.length_cons, List.length_nil, List.length_singleton, List.length_take, List.length_drop]) <;> omega)))
    · have hii : (tabC a).take i = tabC a := List.take_of_length_le (by omega)
      rw [hii, ← hprod] at hrcs
      have hpl : (prodAll a b).length ≤ 4000 := by
        rw [hprod, flatMap_len]
        have h4 : (((tabC a).length * (tabC b).length : Nat) : Int) ≤ 4000 := by rw [Int.natCast_mul]; exact hsz
        omega
      have hfit : Fits (prodAll a b) := by
        refine ⟨by omega, fun c hc => ?_⟩
        rw [hprod] at hc
        obtain ⟨x, hx, hc⟩ := List.mem_flatMap.1 hc
        obtain ⟨y, hy, rfl⟩ := List.mem_map.1 hc
        have h1 := (form_ok (haf x hx)).1
        have h2 := (form_ok (hbf y hy)).1
        simp [prodCell]
        omega
      refine SC.exit (ST.thenX (ST.thenX (ST.blockX (ST.thenN (SC.seq (SC.freezeRow fun g6 hle6 hs6 => ?_))))))
      have hov : Cells g6 ov (prodAll a b) := ⟨rcs, hs6, hrcs.mono fun _ _ => CellR.mono hle6⟩
      refine SC.region (SL.K (SQ.loadVarK 0 isAgg27 sizeOf27 rfl rfl rfl) (SL.W (SO.call call60 rfl (refRight_spec E g6 _ _ (prodAll a b) hov hfit)) ?_))
      rintro _ g7 _ ⟨rfl, rfl, hle7⟩
      refine SL.A rfl (SL.nil (ST.thenN (SC.seq (SC.seq (SC.region (SL.M rfl (SL.U (SU.notP rfl) (SL.nil (ST.thenN ?_)))))))))
      refine SC.ifP rfl (fun hr => ?_) (fun hr => ?_)
      · skip
        refine SC.seq (SC.region (SL.U (SU.build rfl (buildE27)) (SL.on (SO.storeAllK 1 sizeOf27 rfl rfl rfl rfl rfl (by exact ⟨rfl, trivial⟩)) ?_)))
        rintro _ _ _ ⟨rfl, rfl⟩
        refine SL.nil (ST.thenN (SC.ret (ST.thenR ?_)))
        exact ST.retCD 1 s (.inl rfl) results18 rfl isAgg27 sizeOf27 rfl rfl (.cons _ (.cons _ (.cons _ (.cons _ (.refl _))))) ⟨rfl, hle1.trans (hle2.trans (hle3.trans (hle4.trans (hle5.trans (hle6.trans hle7))))), _, rfl, by unfold refProdC; rw [if_neg (by rw [hbad]; simp), if_neg hr]; exact ⟨[], Sl.nil _ _, trivial⟩⟩
      · skip
        refine SC.skip (ST.thenN (SC.seq (SC.region (SL.K (SQ.loadVarK 0 isAgg27 sizeOf27 rfl rfl rfl) (SL.W (SO.call call63 rfl (refCanon_spec E g7 _ _ (prodAll a b) (hov.mono hle7) hfit)) ?_)))))
        rintro _ g8 _ ⟨rfl, hle8, x8, rfl, hx8⟩
        obtain ⟨q8, d8, rfl⟩ := hx8.form
        refine SL.on (SO.storeAllK 1 sizeOf27 rfl rfl rfl rfl rfl (by exact ⟨rfl, trivial⟩)) ?_
        rintro _ _ _ ⟨rfl, rfl⟩
        refine SL.nil (ST.thenN (SC.ret ?_))
        exact ST.retCD 1 s (.inl rfl) results18 rfl isAgg27 sizeOf27 rfl rfl (.cons _ (.cons _ (.cons _ (.cons _ (.refl _))))) ⟨rfl, hle1.trans (hle2.trans (hle3.trans (hle4.trans (hle5.trans (hle6.trans (hle7.trans hle8)))))), _, rfl, by unfold refProdC; rw [if_neg (by rw [hbad]; simp), if_pos (Decidable.of_not_not hr)]; exact hx8⟩
end Go.Proofs.YtkdibcicncjpdaaGreat
namespace Go.Sy
open Go
section
variable {P : Program} {N : Nat} {E : World} {ops : Array Oper} {Q : Exit → Act → World → Prop} {g0 : PH} {s0 : Own} {tail : List Nat} {f : Fr} {g g' : PH} {s s' : Own} {L : Array Bool} {n : Nat}
theorem SX.to (h : ∀ w, At E g s w → At E g' s' w) (hc : SX P N E ops Q g0 s0 tail L n f g' s') : SX P N E ops Q g0 s0 tail L n f g s := fun a w h1 hcl ha hw hb => hc a w h1 hcl ha (h w hw) hb
theorem SX.facts (h : (∃ w, At E g s w) → SX P N E ops Q g0 s0 tail L n f g s) : SX P N E ops Q g0 s0 tail L n f g s := fun a w h1 hcl ha hw hb => h ⟨w, hw⟩ a w h1 hcl ha hw hb
theorem SX.freezeRow {T : TypeId} {k m : Nat} {v : Value} {xs : List Value} (h : ∀ g', Le g g' → Sl g' k v m xs → SX P N E ops Q g0 s0 tail L n f g' s) : SX P N E ops Q g0 s0 tail L n f g (row T k v m xs :: s) := fun a w h1 hcl ha hw hb => by
  obtain ⟨g', h3, h4, h5⟩ := hw.freezeRow
  exact h g' h3 h5 a w h1 hcl ha h4 hb
end
end Go.Sy
namespace Go.Proofs.YtkdibcicncjpdaaGreat
open _root_.Go.Proofs.Tryz _root_.Go.Proofs.YtkdibcicncjpdaaGreat.Tryz
open Go Go.Sy Go.Pl Go.Proofs
set_option maxRecDepth 100000
def setsC (ls : List (List Int)) : List (List Int) := (ls.take 5).map fun l => (l.take 4).map fun x => modW x 7
theorem map_take_succ {α β : Type} {l : List α} {i : Nat} (h : i < l.length) (f : α → β) : (l.take (i + 1)).map f = (l.take i).map f ++ [f l[i]] := by
  rw [List.take_succ_eq_append_getElem h, List.map_append]; rfl
theorem sets_spec (E : World) (g : PH) (s : Own) (v : Value) (ls : List (List Int)) (hv : Lists g v ls) :
    Ctr Tryz.prog E 10 #[v] g s (fun r g' s' => ∃ rs, s' = rowA encSv 45 r rs :: s ∧ Le g g' ∧ All2 (ListR g') (setsC ls) rs) := by
  obtain ⟨rs0, hrs0, hall0⟩ := hv
  have hlen0 := hall0.length
  obtain ⟨p, c, rfl⟩ := SlA.form hrs0
  refine Ctr.of (args := [.slice p rs0.length c]) func10 rfl ntmps10 (Nat.le_of_ble_eq_true rfl) ?_
  refine SC.seq (SC.region (SL.A rfl (SL.nil (ST.thenN (SC.seq (SC.region (SL.A rfl (SL.nil (ST.thenN (SC.seq (SC.seq (SC.region (SL.A rfl (SL.nil (ST.thenN (SC.block (SC.nilRow 45 1 ?_)))))))))))))))))
  refine SC.loop (ι := PH × Value × List Sv × Nat) (fun i => [(0, .slice p rs0.length c), (2, .slice none 0 0), (3, i.2.1), (4, vi i.2.2.2)]) (fun i => i.1)
    (fun i => rowA encSv 45 i.2.1 i.2.2.1 :: s)
    (fun i => Le g i.1 ∧ i.2.2.2 ≤ rs0.length ∧ i.2.2.2 ≤ 5 ∧ All2 (ListR i.1) ((ls.take i.2.2.2).map fun l => (l.take 4).map fun x => modW x 7) i.2.2.1) (fun i => rs0.length - i.2.2.2)
    (g, .slice none 0 0, [], 0) ⟨rfl, rfl, rfl, rfl, trivial⟩ rfl rfl ⟨Le.refl g, Nat.zero_le _, Nat.zero_le _, trivial⟩ ?_
  rintro ⟨g1, ov, rs, i⟩ ⟨hle, hi, hi5, hrs⟩
  dsimp only at hle hi hi5 hrs ⊢
  have hrl := hrs.length
  rw [List.length_map, List.length_take] at hrl
  have f1 : (i : Int) < (rs0.length : Int) → (decide ((i : Int) < (rs0.length : Int)) && decide ((i : Int) < 5)) = decide ((i : Int) < 5) := fun h => by simp [h]
  have f2 : ¬ (i : Int) < (rs0.length : Int) → (decide ((i : Int) < (rs0.length : Int)) && decide ((i : Int) < 5)) = false := fun h => by simp only [h, decide_false, Bool.false_and]
  refine SC.seq ?_
  refine SC.cutB 14 ((decide ((i : Int) < (rs0.length : Int)) && decide ((i : Int) < 5))) ?_ ?_
  · skip
    refine SC.region (SL.M rfl (SL.M rfl (SL.U (SU.lenN underlying22 rfl) (SL.U (SU.lss rfl rfl) (SL.M rfl ?_)))))
    refine SL.split ?_ ?_
    · intro h11
      refine SL.Y rfl rfl rfl (SU.move rfl) (SL.Y rfl rfl rfl (SU.lss rfl rfl) (SL.U (SU.pickT rfl rfl) (SL.nil ?_)))
      exact ST.mid1 (by (rw [f1 h11]; rfl)) (by repeat' (first | exact trivial | refine ⟨.inl rfl, ?_⟩ | refine ⟨.inr rfl, ?_⟩))
    · intro h11
      refine SL.Z rfl rfl rfl (SL.Z rfl rfl rfl (SL.U (SU.pickF rfl rfl) (SL.nil ?_)))
      exact ST.mid1 (by (rw [f2 h11]; rfl)) (by repeat' (first | exact trivial | refine ⟨.inl rfl, ?_⟩ | refine ⟨.inr rfl, ?_⟩))
  refine SC.ifB rfl (fun hc => ?_) (fun hc => ?_)
  · rw [Bool.and_eq_true, decide_eq_true_iff, decide_eq_true_iff] at hc
    have hil : i < ls.length := by omega
    have hir : i < rs0.length := by omega
    have hb1 := hrs0.based (by omega)
    have hR := (hall0.get (List.getElem?_eq_getElem hil) (List.getElem?_eq_getElem hir)).mono hle
    have hRl := hR.len
    have hsucc := map_take_succ hil fun l => (l.take 4).map fun x => modW x 7
    generalize hx : ls[i] = x at *
    generalize hr : rs0[i] = r at *
    obtain ⟨rp, rn, rc⟩ := r
    dsimp only at hRl
    subst hRl
    have hxs : Ints g1 (.slice rp x.length rc) x := hR
    have hgr : rs0[((i : Nat) : Int).toNat]? = some ⟨rp, x.length, rc⟩ := by rw [← hr]; exact List.getElem?_eq_getElem hir
    refine SC.skip (ST.thenN (SC.seq (SC.block (SC.seq (SC.region (SL.A rfl (SL.nil (ST.thenN (SC.seq (SC.seq (SC.region (SL.A rfl (SL.nil (ST.thenN (SC.block (SC.nilRow 3 1 ?_))))))))))))))))
    refine SC.loop (ι := Value × Nat) (fun k => [(0, .slice p rs0.length c), (2, .slice none 0 0), (3, ov), (4, vi i), (5, k.1), (6, vi k.2)]) (fun _ => g1)
      (fun k => rowA encInt 3 k.1 ((x.take k.2).map fun x => modW x 7) :: rowA encSv 45 ov rs :: s)
      (fun k => k.2 ≤ x.length ∧ k.2 ≤ 4) (fun k => x.length - k.2) (.slice none 0 0, 0) ⟨rfl, rfl, rfl, rfl, rfl, rfl, trivial⟩ rfl rfl ⟨Nat.zero_le _, Nat.zero_le _⟩ ?_
    rintro ⟨iv, k⟩ ⟨hk, hk4⟩
    dsimp only at hk hk4 ⊢
    have f3 : (k : Int) < (x.length : Int) → (decide ((k : Int) < (x.length : Int)) && decide ((k : Int) < 4)) = decide ((k : Int) < 4) := fun h => by simp [h]
    have f4 : ¬ (k : Int) < (x.length : Int) → (decide ((k : Int) < (x.length : Int)) && decide ((k : Int) < 4)) = false := fun h => by simp only [h, decide_false, Bool.false_and]
    refine SC.seq ?_
    refine SC.cutB 27 ((decide ((k : Int) < (x.length : Int)) && decide ((k : Int) < 4))) ?_ ?_
    · skip
      refine SC.region (SL.M rfl (SL.M rfl (SL.M rfl (SL.U (SU.indexAddr underlying22 sizeOf45 rfl rfl hb1 (by omega) (by simp only [slen]; omega)) (SL.K (SQ.elem1 (u := .slice rp x.length rc) isAgg45 rfl (hrs0.mono hle).rd hgr rfl) (SL.U (SU.lenN underlying45 rfl) (SL.U (SU.lss rfl rfl) (SL.M rfl ?_))))))))
      refine SL.split ?_ ?_
      · intro h24
        refine SL.Y rfl rfl rfl (SU.move rfl) (SL.Y rfl rfl rfl (SU.lss rfl rfl) (SL.U (SU.pickT rfl rfl) (SL.nil ?_)))
        exact ST.mid1 (by (rw [f3 h24]; rfl)) (by repeat' (first | exact trivial | refine ⟨.inl rfl, ?_⟩ | refine ⟨.inr rfl, ?_⟩))
      · intro h24
        refine SL.Z rfl rfl rfl (SL.Z rfl rfl rfl (SL.U (SU.pickF rfl rfl) (SL.nil ?_)))
        exact ST.mid1 (by (rw [f4 h24]; rfl)) (by repeat' (first | exact trivial | refine ⟨.inl rfl, ?_⟩ | refine ⟨.inr rfl, ?_⟩))
    refine SC.ifB rfl (fun hc2 => ?_) (fun hc2 => ?_)
    · rw [Bool.and_eq_true, decide_eq_true_iff, decide_eq_true_iff] at hc2
      have hkl : k < x.length := by omega
      have hb2 := SlA.based hxs (by omega)
      have hks := map_take_succ hkl fun x => modW x 7
      have hgk : x[((k : Nat) : Int).toNat]? = some x[k] := List.getElem?_eq_getElem hkl
      generalize x[k] = y at *
      refine SC.skip (ST.thenN (SC.seq (SC.block (SC.region (SL.M rfl (SL.M rfl (SL.M rfl (SL.U (SU.indexAddr underlying22 sizeOf45 rfl rfl hb1 (by omega) (by simp only [slen]; omega)) (SL.K (SQ.elem1 (u := .slice rp x.length rc) isAgg45 rfl (hrs0.mono hle).rd hgr rfl) (SL.M rfl (SL.U (SU.indexAddr underlying45 sizeOf3 rfl rfl hb2 (by omega) (by simp only [slen]; omega)) (SL.K (SQ.elem1 isAgg3 rfl (SlA.rd hxs) hgk rfl) (SL.W (SO.call call38 rfl (mod_spec E g1 _ y 7 (by decide))) ?_)))))))))))))
      rintro _ _ _ ⟨rfl, rfl, rfl⟩
      refine SL.W (SO.buildSlice sty45 rfl rfl rfl (szs_mk (by exact ⟨rfl, trivial⟩)) (by decide)) ?_
      rintro _ _ _ ⟨b39, rfl, rfl, rfl⟩
      refine SL.W (SO.app1A (e := encInt) 0 (modW y 7) sty45 rfl rfl rfl rfl rfl (by rw [List.length_map, List.length_take]; omega) (by rw [List.length_map, List.length_take]; omega)) ?_
      rintro iv' _ _ ⟨rfl, rfl⟩
      refine SL.A rfl (SL.nil (ST.blockN (ST.thenN (SC.region (SL.M rfl (SL.U (SU.add rfl rfl (by omega)) (SL.A rfl (SL.nil ?_))))))))
      refine ST.to (fun w hw => ?_) (g' := g1) (s' := rowA encInt 3 iv' ((x.take (k + 1)).map fun x => modW x 7) :: rowA encSv 45 ov rs :: s) ?_
      · rw [hks]; exact hw
      exact ST.again (iv', k + 1) ⟨rfl, rfl, rfl, rfl, rfl, rfl, trivial⟩ rfl rfl ⟨by (first | with_reducible rfl | ((try dsimp only); (try simp only [List.length_append, List.length_cons, List.length_nil, List.length_singleton, List.length_take, List.length_drop]) <;> omega)), by (first | with_reducible rfl | ((try dsimp only); (try simp only [List.length_append, List.length_cons, List.length_nil, List.length_singleton, List.length_take, List.length_drop]) <;> omega))⟩ (by (first | with_reducible rfl | ((try dsimp only); (try simp only [List.length_append, List.length_cons, List.length_nil, List.length_singleton, List.length_take, List.length_drop]) <;> omega)))
    · have hxk : x.take k = x.take 4 := by
        rw [Bool.and_eq_false_iff, decide_eq_false_iff_not, decide_eq_false_iff_not] at hc2
        by_cases h4 : k = 4
        · rw [h4]
        · rw [List.take_of_length_le (by omega), List.take_of_length_le (by omega)]
      rw [hxk]
      refine SC.exit (ST.thenX (ST.thenX (ST.blockX (ST.thenN (SC.freezeRow fun g2 hle2 hs2 => ?_)))))
      have hiv : Ints g2 iv ((x.take 4).map fun x => modW x 7) := hs2
      obtain ⟨q2, d2, rfl⟩ := SlA.form hiv
      obtain ⟨nl, hnl⟩ : ∃ nl, nl = ((x.take 4).map fun x => modW x 7).length := ⟨_, rfl⟩
      refine SC.region (SL.M rfl (SL.M rfl (SL.W (SO.buildSlice sty22 rfl rfl rfl (szs_mk (by exact ⟨rfl, trivial⟩)) (by decide)) ?_)))
      rintro _ _ _ ⟨b43, rfl, rfl, rfl⟩
      refine SL.W (SO.app1A (e := encSv) 0 ⟨q2, ((x.take 4).map fun x => modW x 7).length, d2⟩ sty22 rfl rfl rfl rfl rfl (by omega) (by omega)) ?_
      rintro ov' _ _ ⟨rfl, rfl⟩
      refine SL.A rfl (SL.nil (ST.blockN (ST.thenN (SC.region (SL.M rfl (SL.U (SU.add rfl rfl (by omega)) (SL.A rfl (SL.nil ?_))))))))
      refine ST.again (g2, ov', rs ++ [⟨q2, ((x.take 4).map fun x => modW x 7).length, d2⟩], i + 1) ⟨rfl, rfl, rfl, rfl, trivial⟩ rfl rfl ⟨hle.trans hle2, by (first | with_reducible rfl | ((try dsimp only); (try simp only [List.length_append, List.length_cons, List.length_nil, List.length_singleton, List.length_take, List.length_drop]) <;> omega)), by (first | with_reducible rfl | ((try dsimp only); (try simp only [List.length_append, List.length_cons, List.length_nil, List.length_singleton, List.length_take, List.length_drop]) <;> omega)), ?_⟩ (by (first | with_reducible rfl | ((try dsimp only); (try simp only [List.length_append, List.length_cons, List.length_nil, List.length_singleton, List.length_take, List.length_drop]) <;> omega)))
      dsimp only
      rw [hsucc]
      exact (hrs.mono fun _ _ => ListR.mono hle2).append ⟨hiv, trivial⟩
  · have hls : ls.take i = ls.take 5 := by
      rw [Bool.and_eq_false_iff, decide_eq_false_iff_not, decide_eq_false_iff_not] at hc
      by_cases h5 : i = 5
      · rw [h5]
      · rw [List.take_of_length_le (by omega), List.take_of_length_le (by omega)]
    rw [hls] at hrs
    refine SC.exit (ST.thenX (ST.thenX (ST.blockX (ST.thenN (SC.seq (SC.region (SL.M rfl (SL.A rfl (SL.nil (ST.thenN (SC.ret ?_)))))))))))
    exact ST.ret1 (.inl rfl) results10 rfl ⟨rs, rfl, hle, hrs⟩
def mixC (id k : Int) : Int := if k = 1 then id else IntKind.i64.wrap ((IntKind.i64.wrap (id * k)).tmod 211 + 1)
theorem mixed_spec (E : World) (g : PH) (s : Own) (a k : Int) : Ctr Tryz.prog E 98 #[vi a, vi k] g s
    (fun r g' s' => r = vi (mixC a k) ∧ g = g' ∧ s = s') := by
  refine Ctr.of (args := [vi a, vi k]) func98 rfl ntmps98 (Nat.le_of_ble_eq_true rfl) ?_
  refine SC.seq (SC.region (SL.A rfl (SL.nil (ST.thenN (SC.seq (SC.seq (SC.region (SL.M rfl (SL.U (SU.eql rfl rfl) (SL.nil (ST.thenN ?_)))))))))))
  refine SC.ifP rfl (fun h1 => ?_) (fun h1 => ?_)
  · skip
    refine SC.seq (SC.region (SL.M rfl (SL.A rfl (SL.nil (ST.thenN (SC.ret (ST.thenR ?_)))))))
    exact ST.ret1 (.inl rfl) results98 rfl ⟨by simp [mixC, h1], rfl, rfl⟩
  · skip
    refine SC.skip (ST.thenN (SC.seq (SC.region (SL.M rfl (SL.M rfl (SL.U (SU.mulW rfl rfl) (SL.U (SU.rem rfl rfl (by decide)) (SL.U (SU.addW rfl rfl) (SL.A rfl (SL.nil (ST.thenN (SC.ret ?_))))))))))))
    exact ST.ret1 (.inl rfl) results98 rfl ⟨by simp [mixC, h1], rfl, rfl⟩
theorem turned_spec (E : World) (g : PH) (s : Own) (a k : Int) (hk : k ≠ 0) : Ctr Tryz.prog E 99 #[vi a, vi k] g s
    (fun r g' s' => r = vb (decide (a.tmod k = 1)) ∧ g = g' ∧ s = s') := by
  refine Ctr.of (args := [vi a, vi k]) func99 rfl ntmps99 (Nat.le_of_ble_eq_true rfl) ?_
  refine SC.seq (SC.region (SL.A rfl (SL.nil (ST.thenN (SC.seq (SC.region (SL.M rfl (SL.M rfl (SL.U (SU.rem rfl rfl (by omega)) (SL.U (SU.eql rfl rfl) (SL.A rfl (SL.nil (ST.thenN (SC.ret ?_))))))))))))))
  exact ST.ret1 (.inl rfl) results99 rfl ⟨rfl, rfl, rfl⟩
theorem simpAll_facts : ∀ (all ls : List (List Int)), all.length ≤ 4000 → (∀ x ∈ all, x.length ≤ 9) → ∀ r, simpAll all ls = some r → r.length ≤ 4000 ∧ ∀ x ∈ r, x.length ≤ 9
  | all, [], h1, h2, r, h => by cases h; exact ⟨h1, h2⟩
  | all, t :: ls, h1, h2, r, h => by
    unfold simpAll at h
    split at h
    · exact simpAll_facts all ls h1 h2 r h
    · rename_i hb
      split at h
      · cases h
      · rename_i hl
        refine simpAll_facts _ ls (by omega) (fun x hx => ?_) r h
        rcases addSets_mem hx with hx | hx
        · exact h2 x hx
        · refine subsetsC_short ?_ x hx
          cases hT : setC t with
          | nil => simp
          | cons a r =>
            rw [hT] at hb
            simp only [badSet, Bool.or_eq_true, decide_eq_true_iff, not_or] at hb
            omega
theorem simpC_fits (ls : List (List Int)) : Fits (simpC ls) ∧ (simpC ls).length ≤ 4000 := by
  unfold simpC
  cases h : simpAll [] ls with
  | none => exact ⟨⟨by simp, by simp⟩, by simp⟩
  | some all =>
    obtain ⟨h1, h2⟩ := simpAll_facts [] ls (by simp) (by simp) all h
    have h3 : (canonC (simpCells all)).length ≤ 4000 := by rw [canonC_length, simpCells_length]; exact h1
    exact ⟨canonC_fits (simpCells_fits h1 h2), h3⟩
theorem refProdC_fits (a b : List Cl) : Fits (refProdC a b) ∧ (refProdC a b).length ≤ 4000 := by
  unfold refProdC
  split
  · exact ⟨⟨by simp, by simp⟩, by simp⟩
  · rename_i hbad
    split
    · have ha : (refCheckC a).2 = 0 := Decidable.of_not_not fun h => hbad (by simp [refProdBad, h])
      have hb : (refCheckC b).2 = 0 := Decidable.of_not_not fun h => hbad (by simp [refProdBad, h])
      have hsz : ((tabC a).length : Int) * (tabC b).length ≤ 4000 := by
        refine Decidable.of_not_not fun h => hbad ?_
        have : ((tabC a).length : Int) * (tabC b).length > 4000 := by omega
        simp [refProdBad, this]
      obtain ⟨_, _, hat, haf⟩ := refRight_facts ha
      obtain ⟨_, _, hbt, hbf⟩ := refRight_facts hb
      rw [← hat] at haf
      rw [← hbt] at hbf
      have hprod : prodAll a b = (tabC a).flatMap fun x => (tabC b).map (prodCell (tabC a) (tabC b) x) := by unfold prodAll; rw [← hat, ← hbt]
      have hpl : (prodAll a b).length ≤ 4000 := by
        rw [hprod, flatMap_len]
        have h4 : (((tabC a).length * (tabC b).length : Nat) : Int) ≤ 4000 := by rw [Int.natCast_mul]; exact hsz
        omega
      have hfit : Fits (prodAll a b) := by
        refine ⟨by omega, fun c hc => ?_⟩
        rw [hprod] at hc
        obtain ⟨x, hx, hc⟩ := List.mem_flatMap.1 hc
        obtain ⟨y, hy, rfl⟩ := List.mem_map.1 hc
        have h1 := (form_ok (haf x hx)).1
        have h2 := (form_ok (hbf y hy)).1
        simp [prodCell]
        omega
      exact ⟨canonC_fits hfit, by rw [canonC_length]; exact hpl⟩
    · exact ⟨⟨by simp, by simp⟩, by simp⟩
def torusC : List Cl := refProdC (simpC [[0, 1], [1, 2], [0, 2]]) (simpC [[0, 1], [1, 2], [0, 2]])
theorem torus_spec (E : World) (g : PH) (s : Own) : Ctr Tryz.prog E 66 #[] g s (fun r g' s' => s = s' ∧ Le g g' ∧ ∃ u, r = .agg #[u] ∧ Cells g' u torusC) := by
  have hf := (simpC_fits [[0, 1], [1, 2], [0, 2]]).1
  refine Ctr.of (args := []) func66 rfl ntmps66 (Nat.le_of_ble_eq_true rfl) ?_
  refine SC.seq (SC.region (SL.W (SO.alloc zeroValue27) ?_))
  rintro _ _ _ ⟨b0, rfl, rfl, rfl⟩
  refine SL.nil (ST.thenN (SC.seq (SC.region (SL.W (SO.buildSlice sty45 rfl rfl rfl (szs_mk ⟨rfl, rfl, trivial⟩) (by decide)) ?_))))
  rintro _ _ _ ⟨b2, rfl, rfl, rfl⟩
  refine SL.freeze fun g1 hle1 hb2 => ?_
  refine SL.W (SO.buildSlice sty45 rfl rfl rfl (szs_mk ⟨rfl, rfl, trivial⟩) (by decide)) ?_
  rintro _ _ _ ⟨b3, rfl, rfl, rfl⟩
  refine SL.freeze fun g2 hle2 hb3 => ?_
  refine SL.W (SO.buildSlice sty45 rfl rfl rfl (szs_mk ⟨rfl, rfl, trivial⟩) (by decide)) ?_
  rintro _ _ _ ⟨b4, rfl, rfl, rfl⟩
  refine SL.freeze fun g3 hle3 hb4 => ?_
  refine SL.W (SO.buildSlice sty22 rfl rfl rfl (szs_mk ⟨rfl, rfl, rfl, trivial⟩) (by decide)) ?_
  rintro _ _ _ ⟨b5, rfl, rfl, rfl⟩
  refine SL.freeze fun g4 hle4 hb5 => ?_
  have hlit : Lists g4 (.slice (some ⟨b5, 0, none⟩) 3 3) [[0, 1], [1, 2], [0, 2]] := ⟨[svOf (.slice (some ⟨b2, 0, none⟩) 2 2), svOf (.slice (some ⟨b3, 0, none⟩) 2 2), svOf (.slice (some ⟨b4, 0, none⟩) 2 2)], SlA.lit hb5 rfl rfl, ⟨SlA.lit (hle4 _ _ (hle3 _ _ (hle2 _ _ hb2))) rfl rfl, SlA.lit (hle4 _ _ (hle3 _ _ hb3)) rfl rfl, SlA.lit (hle4 _ _ hb4) rfl rfl, trivial⟩⟩
  refine SL.W (SO.call call14 rfl (refSimplicial_spec E g4 _ _ _ hlit (by decide) (by decide))) ?_
  rintro _ g5 _ ⟨rfl, hle5, u, rfl, hu⟩
  obtain ⟨q, d, rfl⟩ := hu.form
  refine SL.W (SO.alloc zeroValue27) ?_
  rintro _ _ _ ⟨b1, rfl, rfl, rfl⟩
  refine SL.on (SO.storeAllK 0 sizeOf27 rfl rfl rfl rfl rfl (by exact ⟨rfl, trivial⟩)) ?_
  rintro _ _ _ ⟨rfl, rfl⟩
  refine SL.nil (ST.thenN (SC.seq (SC.region (SL.K (SQ.loadVarK 0 isAgg27 sizeOf27 rfl rfl rfl) (SL.K (SQ.loadVarK 0 isAgg27 sizeOf27 rfl rfl rfl) (SL.W (SO.call call18 rfl (refProduct_spec E g5 _ _ _ _ _ hu hu hf hf)) ?_))))))
  rintro _ g6 _ ⟨rfl, hle6, x, rfl, hx⟩
  obtain ⟨q6, d6, rfl⟩ := hx.form
  refine SL.on (SO.storeAllK 1 sizeOf27 rfl rfl rfl rfl rfl (by exact ⟨rfl, trivial⟩)) ?_
  rintro _ _ _ ⟨rfl, rfl⟩
  refine SL.nil (ST.thenN (SC.ret ?_))
  exact ST.retCD 1 s (.inl rfl) results66 rfl isAgg27 sizeOf27 rfl rfl (.cons _ (.cons _ (.refl _))) ⟨rfl, hle1.trans (hle2.trans (hle3.trans (hle4.trans (hle5.trans hle6)))), _, rfl, hx⟩
end Go.Proofs.YtkdibcicncjpdaaGreat
