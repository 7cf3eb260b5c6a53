/- Ref1 Ref2 -/
import Derived.Test.YtkdibcicncjpdaaGreatEq10
set_option linter.unusedSimpArgs false
set_option linter.unusedVariables false
namespace Go.Proofs.YtkdibcicncjpdaaGreat
open _root_.Go.Proofs.Tryz _root_.Go.Proofs.YtkdibcicncjpdaaGreat.Tryz
open Go Go.Sy Go.Pl Go.Proofs
set_option maxRecDepth 100000
theorem ins_after {α : Type} {key : α → Int} {l out : List α} {x : α} {k : Nat} (hs : Srt key out) (hst : Stab key l out) (h1 : ∀ y ∈ out.take k, key y ≤ key x) (h2 : ∀ y ∈ out.drop k, key x < key y) :
    Srt key (out.take k ++ x :: out.drop k) ∧ Stab key (l ++ [x]) (out.take k ++ x :: out.drop k) := by
  have hs' : Srt key (out.take k ++ out.drop k) := by rw [List.take_append_drop]; exact hs
  have h3 := Srt.append_iff.1 hs'
  refine ⟨Srt.append_iff.2 ⟨h3.1, Srt.cons_iff.2 ⟨fun y hy => Int.le_of_lt (h2 y hy), h3.2.1⟩, fun y hy z hz => ?_⟩, ?_⟩
  · rcases List.mem_cons.1 hz with rfl | hz
    · exact h1 y hy
    · exact h3.2.2 y hy z hz
  · have h4 : Stab key (l ++ [x]) (out ++ [x]) := hst.append (Stab.refl [x])
    have h5 : Stab key (out.drop k ++ [x]) ([x] ++ out.drop k) := Stab.swap (fun y hy z hz => by simp at hz; subst hz; have := h2 y hy; omega)
    have h6 := Stab.append (Stab.refl (key := key) (out.take k)) h5
    have h7 : out ++ [x] = out.take k ++ (out.drop k ++ [x]) := by rw [← List.append_assoc, List.take_append_drop]
    rw [h7] at h4
    simpa using h4.trans h6
theorem srt_drop_gt {α : Type} {key : α → Int} {out : List α} {c : Int} {k : Nat} (hs : Srt key out) (hk : k < out.length) (h : c < key out[k]) : ∀ y ∈ out.drop k, c < key y := by
  rw [List.drop_eq_getElem_cons hk]
  intro y hy
  have h1 : Srt key (out.drop k) := List.Pairwise.sublist (List.drop_sublist k out) hs
  rw [List.drop_eq_getElem_cons hk] at h1
  rcases List.mem_cons.1 hy with rfl | hy
  · exact h
  · have := (Srt.cons_iff.1 h1).1 y hy
    omega
theorem sides_spec (E : World) (g : PH) (s : Own) (v : Value) (l : List Side) (hv : SlA encSide g v l) (hl : l.length < 1099511627776) :
    Ctr Tryz.prog E 56 #[v] g s (fun r g' s' => s = s' ∧ Le g g' ∧ SlA encSide g' r (sortBy Side.cell l)) := by
  obtain ⟨p, c, rfl⟩ := SlA.form hv
  refine Ctr.of (args := [.slice p l.length c]) func56 rfl ntmps56 (Nat.le_of_ble_eq_true rfl) ?_
  refine SC.seq (SC.region (SL.A rfl (SL.nil (ST.thenN (SC.seq (SC.region (SL.A rfl (SL.nil (ST.thenN (SC.seq (SC.seq (SC.region (SL.A rfl (SL.nil (ST.thenN (SC.block ?_))))))))))))))))
  refine SC.loop (ι := PH × Value × List Side × Nat) (fun i => [(0, .slice p l.length c), (3, i.2.1), (4, vi i.2.2.2)]) (fun i => i.1) (fun _ => s)
    (fun i => Le g i.1 ∧ SlA encSide i.1 i.2.1 i.2.2.1 ∧ i.2.2.2 ≤ l.length ∧ Srt Side.cell i.2.2.1 ∧ Stab Side.cell (l.take i.2.2.2) i.2.2.1) (fun i => l.length - i.2.2.2)
    (g, .slice none 0 0, [], 0) ⟨rfl, rfl, rfl, trivial⟩ rfl rfl ⟨Le.refl g, Sl.nil g _, Nat.zero_le _, Srt.nil, Stab.refl _⟩ ?_
  rintro ⟨g1, ov, out, i⟩ ⟨hle, hov, hi, hsrt, hst⟩
  dsimp only at hle hov hi hsrt hst ⊢
  have hol : out.length = i := by have := hst.1; rw [List.length_take] at this; omega
  obtain ⟨q, d, rfl⟩ := SlA.form hov
  have hqc := (SlA.cap hov).2
  refine SC.seq (SC.seq (SC.region (SL.M rfl (SL.M rfl (SL.U (SU.lenN underlying49 rfl) (SL.U (SU.lss rfl rfl) (SL.nil (ST.thenN ?_))))))))
  refine SC.ifP rfl (fun hlt => ?_) (fun hlt => ?_)
  · have hil : i < l.length := by omega
    have hb1 := SlA.based (hv.mono hle) (by omega)
    have hgi : l[((i : Nat) : Int).toNat]? = some l[i] := List.getElem?_eq_getElem hil
    have htk : l.take (i + 1) = l.take i ++ [l[i]] := List.take_succ_eq_append_getElem hil
    generalize l[i] = x at *
    refine SC.skip (ST.thenN (SC.seq (SC.block (SC.seq (SC.region (SL.A rfl (SL.nil (ST.thenN ?_))))))))
    refine SC.cut (ι := Nat) (fun k => [(0, .slice p l.length c), (3, .slice q out.length d), (4, vi i), (5, vi k)]) (fun _ => g1) (fun _ => s) (fun k => k ≤ out.length ∧ (∀ y ∈ out.take k, y.cell ≤ x.cell) ∧ ∀ y ∈ out.drop k, x.cell < y.cell) ?_ ?_
    · skip
      refine SC.block ?_
      refine SC.loop (ι := Nat) (fun k => [(0, .slice p l.length c), (3, .slice q out.length d), (4, vi i), (5, vi k)]) (fun _ => g1) (fun _ => s) (fun k => k ≤ out.length ∧ ∀ y ∈ out.take k, y.cell ≤ x.cell) (fun k => out.length - k) 0
        ⟨rfl, rfl, rfl, rfl, trivial⟩ rfl rfl ⟨Nat.zero_le _, by simp⟩ ?_
      rintro k ⟨hk, htake⟩
      by_cases hin : (k : Int) < (out.length : Int)
      · have hkl : k < out.length := by omega
        have hb2 := SlA.based hov (by omega)
        have hd : decide ((k : Int) < (out.length : Int)) = true := decide_eq_true hin
        refine SC.seq (SC.seq ?_)
        refine SC.draw [] [(0, 2), (1, 2), (2, 2), (3, 2), (4, 2), (5, 2), (6, 2), (7, 2), (8, 2), (9, 1), (10, 2), (11, 2), (12, 2), (13, 2), (14, 1), (15, 2), (16, 2)] Tryz.mixed (by kernel_rfl) ?_
        refine SP.U (i := 0) rfl (SU.move rfl) (SP.U (i := 1) rfl (SU.move rfl) (SP.U (i := 2) rfl (SU.lenN underlying49 rfl) (SP.U (i := 3) rfl (SU.eq (SU.lss rfl rfl) (congrArg vb hd)) (SP.U (i := 4) rfl (SU.move rfl) (SP.gu (i := 5) rfl (Gd.onT rfl rfl rfl (by decide)) (SU.move rfl) (by decide) (SP.gu (i := 6) rfl (Gd.onT rfl rfl rfl (by decide)) (SU.move rfl) (by decide) (SP.gu (i := 7) rfl (Gd.onT rfl rfl rfl (by decide)) (SU.indexAddr underlying49 sizeOf55 rfl rfl hb2 (by omega) (by simp only [slen]; omega)) (by decide) (SP.gu (i := 8) rfl (Gd.onT rfl rfl rfl (by decide)) (SU.fieldAddrC underlying55 rfl sizeOf3 rfl hb2) (by decide) ?_))))))))
        refine SP.gq (i := 9) rfl (Gd.onT rfl rfl rfl (by decide)) (SQ.partA (o := 0) isAgg3 rfl hov.rd (List.getElem?_eq_getElem hkl) rfl) (by decide) ?_
        refine SP.gu (i := 10) rfl (Gd.onT rfl rfl rfl (by decide)) (SU.move rfl) (by decide) (SP.gu (i := 11) rfl (Gd.onT rfl rfl rfl (by decide)) (SU.move rfl) (by decide) (SP.gu (i := 12) rfl (Gd.onT rfl rfl rfl (by decide)) (SU.indexAddr underlying49 sizeOf55 rfl rfl hb1 (by omega) (by simp only [slen]; omega)) (by decide) (SP.gu (i := 13) rfl (Gd.onT rfl rfl rfl (by decide)) (SU.fieldAddrC underlying55 rfl sizeOf3 rfl hb1) (by decide) (SP.gq (i := 14) rfl (Gd.onT rfl rfl rfl (by decide)) (SQ.partA (o := 0) isAgg3 rfl (hv.mono hle).rd hgi rfl) (by decide) (SP.gu (i := 15) rfl (Gd.onT rfl rfl rfl (by decide)) (SU.leq rfl rfl) (by decide) (SP.U (i := 16) rfl (SU.pickT rfl rfl) (SP.nil (ST.thenN ?_))))))))
        refine SC.ifP rfl (fun hc => ?_) (fun hc => ?_)
        · skip
          refine SC.skip (ST.thenN (SC.block (SC.region (SL.M rfl (SL.U (SU.add rfl rfl (by omega)) (SL.A rfl (SL.nil (ST.blockN ?_))))))))
          exact ST.again (k + 1) ⟨rfl, rfl, rfl, rfl, trivial⟩ rfl rfl ⟨by omega, by
            rw [List.take_succ_eq_append_getElem hkl]
            intro y hy
            rcases List.mem_append.1 hy with h | h
            · exact htake y h
            · simp at h; subst h; exact hc⟩ (by omega)
        · skip
          refine SC.exit (ST.thenX (ST.thenX (ST.blockX ?_)))
          exact ST.mid k ⟨rfl, rfl, rfl, rfl, trivial⟩ rfl rfl ⟨hk, htake, srt_drop_gt hsrt hkl (by omega)⟩
      · have hd : decide ((k : Int) < (out.length : Int)) = false := decide_eq_false hin
        refine SC.seq (SC.seq ?_)
        refine SC.draw [] [(0, 2), (1, 2), (2, 2), (3, 2), (4, 2), (5, 2), (6, 2), (7, 2), (8, 2), (9, 1), (10, 2), (11, 2), (12, 2), (13, 2), (14, 1), (15, 2), (16, 2)] Tryz.mixed (by kernel_rfl) ?_
        refine SP.U (i := 0) rfl (SU.move rfl) (SP.U (i := 1) rfl (SU.move rfl) (SP.U (i := 2) rfl (SU.lenN underlying49 rfl) (SP.U (i := 3) rfl (SU.eq (SU.lss rfl rfl) (congrArg vb hd)) (SP.U (i := 4) rfl (SU.move rfl) (SP.off (i := 5) rfl (Gd.onF rfl rfl rfl (by decide)) (by decide) (SP.off (i := 6) rfl (Gd.onF rfl rfl rfl (by decide)) (by decide) (SP.off (i := 7) rfl (Gd.onF rfl rfl rfl (by decide)) (by decide) (SP.off (i := 8) rfl (Gd.onF rfl rfl rfl (by decide)) (by decide) (SP.off1 (i := 9) rfl (Gd.onF rfl rfl rfl (by decide)) (by decide) (SP.off (i := 10) rfl (Gd.onF rfl rfl rfl (by decide)) (by decide) (SP.off (i := 11) rfl (Gd.onF rfl rfl rfl (by decide)) (by decide) (SP.off (i := 12) rfl (Gd.onF rfl rfl rfl (by decide)) (by decide) (SP.off (i := 13) rfl (Gd.onF rfl rfl rfl (by decide)) (by decide) (SP.off1 (i := 14) rfl (Gd.onF rfl rfl rfl (by decide)) (by decide) (SP.off (i := 15) rfl (Gd.onF rfl rfl rfl (by decide)) (by decide) (SP.U (i := 16) rfl (SU.pickF rfl rfl) (SP.nil (ST.thenN (SC.condF rfl (SC.exit (ST.thenX (ST.thenX (ST.blockX ?_)))))))))))))))))))))))
        exact ST.mid k ⟨rfl, rfl, rfl, rfl, trivial⟩ rfl rfl ⟨hk, htake, by rw [List.drop_eq_nil_of_le (by omega)]; simp⟩
    · rintro k ⟨hk, hk1, hk2⟩
      have hnew := ins_after hsrt hst hk1 hk2
      have hc1 := SlA.cut hov (l := k) (m := out.length) hk (Nat.le_refl _)
      have hc2 := SlA.cut hov (l := 0) (m := k) (Nat.zero_le _) hk
      rw [List.take_of_length_le (by rw [List.length_drop]; exact Nat.le_refl _)] at hc1
      rw [List.drop_zero, Nat.sub_zero] at hc2
      refine SC.seq ?_
      refine SC.draw [8] [(0, 2), (1, 2), (2, 2), (3, 1), (5, 2), (6, 2), (7, 2), (4, 0), (8, 0), (9, 2)] Tryz.mixed (by kernel_rfl) ?_
      refine SP.U (i := 0) rfl (SU.move rfl) (SP.U (i := 1) rfl (SU.move rfl) (SP.U (i := 2) rfl (SU.indexAddr underlying49 sizeOf55 rfl rfl hb1 (by omega) (by simp only [slen]; omega)) (SP.K (i := 3) rfl (SQ.elemA isAgg55 sizeOf55 rfl (hv.mono hle).rd hgi) (SP.U (i := 5) rfl (SU.move rfl) (SP.U (i := 6) rfl (SU.move rfl) (SP.U (i := 7) rfl (SU.sliceL underlying49 sizeOf55 rfl rfl (by omega) (by omega)) (SP.o (i := 4) rfl (SO.buildSlice sty49 rfl rfl rfl (szs_mk ⟨rfl, trivial⟩) (by decide)) (by decide) (.inr (by rintro _ _ _ ⟨b36, rfl, rfl, rfl⟩; exact ⟨by exact Le.refl _, (by exact .cons _ (.refl _))⟩)) ?_)))))))
      rintro _ _ _ ⟨b36, rfl, rfl, rfl⟩
      refine SP.to (fun w hw => At.litRow (e := encSide) (l := [x]) (n := 0) hw rfl rfl (by decide)) ?_
      refine SP.o (i := 8) rfl (SO.appA (e := encSide) 0 sty49 rfl rfl rfl hc1 (by rw [List.length_drop]; (first | with_reducible rfl | ((try dsimp only); (try simp only [List.length_append, List.length_cons, List.length_nil, List.length_singleton, List.length_take, List.length_drop]) <;> omega))) (by rw [List.length_drop]; (first | with_reducible rfl | ((try dsimp only); (try simp only [List.length_append, List.length_cons, List.length_nil, List.length_singleton, List.length_take, List.length_drop]) <;> omega)))) (by decide) (.inl (by decide)) ?_
      rintro v40 _ _ ⟨rfl, rfl⟩
      refine SP.U (i := 9) rfl (SU.assign rfl) (SP.nil (ST.thenN (SC.freezeRow fun g2 hle2 hs2 => ?_)))
      have hrest : SlA encSide g2 v40 ([x] ++ out.drop k) := hs2
      refine SC.region (SL.W (SO.buildSlice sty49 rfl rfl rfl (szs_mk trivial) (by decide)) ?_)
      rintro _ _ _ ⟨b41, rfl, rfl, rfl⟩
      refine SL.emptyRow 55 2 (some ⟨b41, 0, none⟩) (SL.M rfl (SL.M rfl (SL.U (SU.sliceH underlying49 sizeOf55 rfl rfl (by omega) (by omega)) (SL.W (SO.appA (e := encSide) (l := []) 0 sty49 rfl rfl rfl (hc2.mono hle2) (by rw [List.length_take]; (first | with_reducible rfl | ((try dsimp only); (try simp only [List.length_append, List.length_cons, List.length_nil, List.length_singleton, List.length_take, List.length_drop]) <;> omega))) (by rw [List.length_take]; (first | with_reducible rfl | ((try dsimp only); (try simp only [List.length_append, List.length_cons, List.length_nil, List.length_singleton, List.length_take, List.length_drop]) <;> omega)))) ?_))))
      rintro v45 _ _ ⟨rfl, rfl⟩
      refine SL.M rfl (SL.W (SO.appA (e := encSide) 0 sty49 rfl rfl rfl hrest (by (first | with_reducible rfl | ((try dsimp only); (try simp only [List.length_append, List.length_cons, List.length_nil, List.length_singleton, List.length_take, List.length_drop]) <;> omega))) (by (first | with_reducible rfl | ((try dsimp only); (try simp only [List.length_append, List.length_cons, List.length_nil, List.length_singleton, List.length_take, List.length_drop]) <;> omega)))) ?_)
      rintro v47 _ _ ⟨rfl, rfl⟩
      refine SL.A rfl (SL.nil (ST.blockN (ST.thenN (SC.region (SL.M rfl (SL.U (SU.add rfl rfl (by omega)) (SL.A rfl (SL.nil (ST.freezeRow fun g3 hle3 hs3 => ?_)))))))))
      refine ST.drop (s' := s) (.cons _ (.refl _)) ?_
      have hres : SlA encSide g3 v47 (out.take k ++ x :: out.drop k) := by have h : SlA encSide g3 v47 ([] ++ out.take k ++ ([x] ++ out.drop k)) := hs3; simpa using h
      exact ST.again (g3, v47, out.take k ++ x :: out.drop k, i + 1) ⟨rfl, rfl, rfl, trivial⟩ rfl rfl ⟨hle.trans (hle2.trans hle3), hres, by (first | with_reducible rfl | ((try dsimp only); (try simp only [List.length_append, List.length_cons, List.length_nil, List.length_singleton, List.length_take, List.length_drop]) <;> omega)), hnew.1, by dsimp only; rw [htk]; exact hnew.2⟩ (by (first | with_reducible rfl | ((try dsimp only); (try simp only [List.length_append, List.length_cons, List.length_nil, List.length_singleton, List.length_take, List.length_drop]) <;> omega)))
  · have hii : l.take i = l := List.take_of_length_le (by omega)
    rw [hii] at hst
    refine SC.exit (ST.thenX (ST.thenX (ST.blockX (ST.thenN (SC.seq (SC.region (SL.M rfl (SL.A rfl (SL.nil (ST.thenN (SC.ret ?_)))))))))))
    exact ST.ret1 (.inl rfl) results56 rfl ⟨rfl, hle, by rw [← eq_sortBy hsrt hst]; exact hov⟩
theorem All2.drop {α β : Type} {R : α → β → Prop} : ∀ {l : List α} {m : List β} (k : Nat), All2 R l m → All2 R (l.drop k) (m.drop k)
  | _, _, 0, h => by simpa using h
  | [], [], k + 1, _ => trivial
  | _ :: _, _ :: _, k + 1, h => by simpa using All2.drop k h.2
  | [], _ :: _, _ + 1, h => h.elim
  | _ :: _, [], _ + 1, h => h.elim
theorem All2.take {α β : Type} {R : α → β → Prop} : ∀ {l : List α} {m : List β} (k : Nat), All2 R l m → All2 R (l.take k) (m.take k)
  | _, _, 0, _ => by simp; trivial
  | [], [], k + 1, _ => trivial
  | _ :: _, _ :: _, k + 1, h => ⟨h.1, All2.take k h.2⟩
  | [], _ :: _, _ + 1, h => h.elim
  | _ :: _, [], _ + 1, h => h.elim
theorem Cells.cut {g : PH} {p : Option Addr} {c a b n : Nat} {l : List Cl} (h : Cells g (.slice p n c) l) (ha : a ≤ b) (hb : b ≤ l.length) : Cells g (sliced p a b c 3) ((l.drop a).take (b - a)) := by
  obtain ⟨rs, h1, h2⟩ := h
  have hl := h2.length
  have hn := (SlA.cap h1).1
  subst hn
  exact ⟨_, SlA.cut h1 ha (by omega), All2.take (b - a) (All2.drop a h2)⟩
theorem Cells.cap {g : PH} {p : Option Addr} {c n : Nat} {l : List Cl} (h : Cells g (.slice p n c) l) : n = l.length ∧ l.length ≤ c := by
  obtain ⟨rs, h1, h2⟩ := h
  have := SlA.cap h1
  rw [h2.length]
  exact ⟨this.1, this.2⟩
theorem canonC_alt (l : List Cl) : canonC l = sortBy Cl.id (l.map normC) := by
  unfold canonC
  rw [sortBy_map]
  rfl
theorem canonC_srt (l : List Cl) : Srt Cl.id (canonC l) := by rw [canonC_alt]; exact sortBy_srt _
theorem canonC_stab (l : List Cl) : Stab Cl.id (l.map normC) (canonC l) := by rw [canonC_alt]; exact sortBy_stab _
theorem Tryz.buildF51 (x y : Int) (v : Value) (hv : v.cells = #[v]) (w : World) : (Instr.build 51 #[(0, vi x), (1, vi y), (2, v)]).run Tryz.prog w = .ok (.agg #[vi x, vi y, v]) w := by
  have hz : (Value.agg #[vi 0, vi 0, Value.slice none 0 0]).cells = #[vi 0, vi 0, .slice none 0 0] := rfl
  have h1 : (vi x).cells = #[vi x] := rfl
  have h2 : (vi y).cells = #[vi y] := rfl
  simp [Instr.build, Instr.fill, hv, hz, h1, h2]
theorem half_tdiv (n : Nat) (h : n < 4611686018427387904) : IntKind.i64.wrap (((n : Nat) : Int).tdiv 2) = ((n / 2 : Nat) : Int) := by
  have h1 : ((n : Nat) : Int).tdiv 2 = ((n / 2 : Nat) : Int) := by
    rw [Int.tdiv_eq_ediv_of_nonneg (by omega)]; simp
  rw [h1, IntWalk.i64_in _ (by omega)]
theorem ordered_spec (E : World) : ∀ (n : Nat) (g : PH) (s : Own) (v : Value) (l : List Cl), l.length ≤ n → Cells g v l → Fits l →
    Ctr Tryz.prog E 97 #[v] g s (fun r g' s' => s = s' ∧ Le g g' ∧ Cells g' r (canonC l)) := by
  intro n
  induction n with
  | zero =>
    intro g s v l hn hv hf
    have hl0 : l = [] := List.eq_nil_of_length_eq_zero (by omega)
    subst hl0
    obtain ⟨p, c, rfl⟩ := hv.form
    refine Ctr.of (args := [.slice p 0 c]) func97 rfl ntmps97 (Nat.le_of_ble_eq_true rfl) ?_
    refine SC.seq (SC.region (SL.A rfl (SL.nil (ST.thenN (SC.seq (SC.seq (SC.region (SL.M rfl (SL.U (SU.lenN underlying25 rfl) (SL.U (SU.eql rfl rfl) (SL.nil (ST.thenN ?_))))))))))))
    refine SC.ifP rfl (fun h0 => ?_) (fun h0 => ?_)
    · skip
      refine SC.seq (SC.region (SL.A rfl (SL.nil (ST.thenN (SC.ret (ST.thenR ?_))))))
      exact ST.ret1 (.inl rfl) results97 rfl ⟨rfl, Le.refl g, [], Sl.nil g _, trivial⟩
    · exact absurd rfl h0
  | succ n ih =>
    intro g s v l hn hv hf
    obtain ⟨rs, hrs, hall⟩ := hv
    have hv : Cells g v l := ⟨rs, hrs, hall⟩
    have hlen := hall.length
    have hfl := hf.1
    obtain ⟨p, c, rfl⟩ := hv.form
    have hcap := (Cells.cap hv).2
    refine Ctr.of (args := [.slice p l.length c]) func97 rfl ntmps97 (Nat.le_of_ble_eq_true rfl) ?_
    refine SC.seq (SC.region (SL.A rfl (SL.nil (ST.thenN (SC.seq (SC.seq (SC.region (SL.M rfl (SL.U (SU.lenN underlying25 rfl) (SL.U (SU.eql rfl rfl) (SL.nil (ST.thenN ?_))))))))))))
    refine SC.ifP rfl (fun h0 => ?_) (fun h0 => ?_)
    · have hl0 : l = [] := List.eq_nil_of_length_eq_zero (by omega)
      subst hl0
      refine SC.seq (SC.region (SL.A rfl (SL.nil (ST.thenN (SC.ret (ST.thenR ?_))))))
      exact ST.ret1 (.inl rfl) results97 rfl ⟨rfl, Le.refl g, [], Sl.nil g _, trivial⟩
    · skip
      refine SC.skip (ST.thenN (SC.seq (SC.seq (SC.region (SL.M rfl (SL.U (SU.lenN underlying25 rfl) (SL.U (SU.eql rfl rfl) (SL.nil (ST.thenN ?_)))))))))
      refine SC.ifP rfl (fun h1 => ?_) (fun h1 => ?_)
      · obtain ⟨x, hx⟩ : ∃ x, l = [x] := by
          match l, h1 with
          | [x], _ => exact ⟨x, rfl⟩
          | [], h => simp at h
          | _ :: _ :: _, h => simp at h; omega
        subst hx
        obtain ⟨r, rs', rfl, hr, hn'⟩ := All2.cons_left hall
        have hrs0 := All2.nil_left hn'
        subst hrs0
        obtain ⟨rp, rd, rfl, hsd⟩ := cellR_form hr
        have hb1 := hrs.based (by simp)
        have hxl := hf.2 x (by simp)
        refine SC.seq ?_
        refine SC.draw [] [(0, 2), (1, 2), (2, 2), (3, 1), (4, 2), (5, 2), (6, 2), (7, 1), (8, 2), (9, 2), (10, 2), (11, 1), (12, 0), (13, 2), (14, 0), (15, 2)] Tryz.mixed (by kernel_rfl) ?_
        refine SP.U (i := 0) rfl (SU.move rfl) (SP.U (i := 1) rfl (SU.indexAddr underlying25 sizeOf51 rfl rfl hb1 (by decide) (show (0 : Int) < ((1 : Nat) : Int) by decide)) ?_)
        refine SP.U (i := 2) rfl (SU.fieldAddrC underlying51 rfl sizeOf3 rfl hb1) (SP.K (i := 3) rfl (SQ.partA (e := encCell) (o := 0) (j := 0) (u := vi x.id) isAgg3 rfl hrs.rd rfl rfl) (SP.U (i := 4) rfl (SU.move rfl) (SP.U (i := 5) rfl (SU.indexAddr underlying25 sizeOf51 rfl rfl hb1 (by decide) (show (0 : Int) < ((1 : Nat) : Int) by decide)) ?_)))
        refine SP.U (i := 6) rfl (SU.fieldAddrC underlying51 rfl sizeOf3 rfl hb1) (SP.K (i := 7) rfl (SQ.partA (e := encCell) (o := 1) (j := 0) (u := vi x.dim) isAgg3 rfl hrs.rd rfl rfl) (SP.U (i := 8) rfl (SU.move rfl) (SP.U (i := 9) rfl (SU.indexAddr underlying25 sizeOf51 rfl rfl hb1 (by decide) (show (0 : Int) < ((1 : Nat) : Int) by decide)) ?_)))
        refine SP.U (i := 10) rfl (SU.fieldAddrC underlying51 rfl sizeOf49 rfl hb1) (SP.K (i := 11) rfl (SQ.partA (e := encCell) (o := 2) (j := 0) (u := .slice rp x.sides.length rd) isAgg49 rfl hrs.rd rfl rfl) (SP.o (i := 12) rfl (SO.call call56 rfl (sides_spec E g _ _ x.sides hsd hxl)) (by decide) (.inr (by rintro v24 g1 _ ⟨rfl, hle1, hs1⟩; exact ⟨by assumption, (by exact .refl _)⟩)) ?_))
        rintro v24 g1 _ ⟨rfl, hle1, hs1⟩
        obtain ⟨q, d, rfl⟩ := SlA.form hs1
        refine SP.U (i := 13) rfl (SU.build rfl (buildF51 _ _ _ rfl)) (SP.o (i := 14) rfl (SO.buildSlice sty25 rfl rfl rfl (szs_mk (by exact ⟨rfl, trivial⟩)) (by decide)) (by decide) (.inr (by rintro _ _ _ ⟨b26, rfl, rfl, rfl⟩; exact ⟨by assumption, (by exact .cons _ (.refl _))⟩)) ?_)
        rintro _ _ _ ⟨b26, rfl, rfl, rfl⟩
        refine SP.U (i := 15) rfl (SU.assign rfl) (SP.nil (ST.thenN (SC.ret (ST.thenR (ST.freeze fun g2 hle2 hb => ?_)))))
        exact ST.ret1 (.inl rfl) results97 rfl ⟨rfl, hle1.trans hle2, [⟨x.id, x.dim, ⟨q, (sortBy Side.cell x.sides).length, d⟩⟩], SlA.lit hb rfl rfl, ⟨⟨rfl, rfl, hs1.mono hle2⟩, trivial⟩⟩
      · have hm1 : l.length / 2 < l.length := by omega
        have hm0 : 0 < l.length / 2 := by omega
        have hc1 := Cells.cut hv (a := 0) (b := l.length / 2) (by omega) (by omega)
        have hc2 := Cells.cut hv (a := l.length / 2) (b := l.length) (by omega) (by omega)
        rw [List.drop_zero, Nat.sub_zero] at hc1
        rw [List.take_of_length_le (by rw [List.length_drop]; exact Nat.le_refl _)] at hc2
        have hf1 : Fits (l.take (l.length / 2)) := ⟨by rw [List.length_take]; omega, fun c hc => hf.2 c (List.mem_of_mem_take hc)⟩
        have hf2 : Fits (l.drop (l.length / 2)) := ⟨by rw [List.length_drop]; omega, fun c hc => hf.2 c (List.mem_of_mem_drop hc)⟩
        have hca := canonC_length (l.take (l.length / 2))
        have hcb := canonC_length (l.drop (l.length / 2))
        have hsa := canonC_srt (l.take (l.length / 2))
        have hsb := canonC_srt (l.drop (l.length / 2))
        have hst : Stab Cl.id (l.map normC) (canonC (l.take (l.length / 2)) ++ canonC (l.drop (l.length / 2))) := by
          have h2 := (canonC_stab (l.take (l.length / 2))).append (canonC_stab (l.drop (l.length / 2)))
          rwa [← List.map_append, List.take_append_drop] at h2
        rw [List.length_take] at hca
        rw [List.length_drop] at hcb
        refine SC.skip (ST.thenN (SC.seq (SC.region (SL.M rfl (SL.M rfl (SL.U (SU.lenN underlying25 rfl) (SL.U (SU.eq (v' := vi ((l.length / 2 : Nat) : Int)) (SU.quo rfl rfl (by decide)) (congrArg vi (half_tdiv _ (by omega)))) (SL.U (SU.sliceH underlying25 sizeOf51 rfl rfl (by omega) (by omega)) (SL.W (SO.call call97 rfl (ih g _ _ (l.take (l.length / 2)) (by rw [List.length_take]; omega) hc1 hf1)) ?_)))))))))
        rintro va0 g1 _ ⟨rfl, hle1, hA⟩
        refine SL.A rfl (SL.nil (ST.thenN (SC.seq (SC.region (SL.M rfl (SL.M rfl (SL.U (SU.lenN underlying25 rfl) (SL.U (SU.eq (v' := vi ((l.length / 2 : Nat) : Int)) (SU.quo rfl rfl (by decide)) (congrArg vi (half_tdiv _ (by omega)))) (SL.U (SU.sliceL underlying25 sizeOf51 rfl rfl (by omega) (by omega)) (SL.W (SO.call call97 rfl (ih g1 _ _ (l.drop (l.length / 2)) (by rw [List.length_drop]; omega) (hc2.mono hle1) hf2)) ?_))))))))))
        rintro vb0 g2 _ ⟨rfl, hle2, hB⟩
        refine SL.A rfl (SL.nil (ST.thenN (SC.seq (SC.region (SL.A rfl (SL.nil (ST.thenN ?_)))))))
        generalize hA0 : canonC (l.take (l.length / 2)) = A0 at *
        generalize hB0 : canonC (l.drop (l.length / 2)) = B0 at *
        refine SC.nilRow 51 3 ?_
        refine SC.cut (ι := Value × Value × Value × List Cl × List Cl × List Cl × List Rc) (fun i => [(3, i.1), (4, i.2.1), (5, i.2.2.1)]) (fun _ => g2) (fun i => rowA encCell 51 i.2.2.1 i.2.2.2.2.2.2 :: s)
          (fun i => Cells g2 i.1 i.2.2.2.1 ∧ Cells g2 i.2.1 i.2.2.2.2.1 ∧ All2 (CellR g2) i.2.2.2.2.2.1 i.2.2.2.2.2.2 ∧ i.2.2.2.2.2.1 ++ i.2.2.2.1 ++ i.2.2.2.2.1 = canonC l) ?_ ?_
        · skip
          refine SC.block ?_
          refine SC.loop (ι := Value × Value × Value × List Cl × List Cl × List Cl × List Cl × List Cl × List Rc) (fun i => [(3, i.1), (4, i.2.1), (5, i.2.2.1)]) (fun _ => g2) (fun i => rowA encCell 51 i.2.2.1 i.2.2.2.2.2.2.2.2 :: s)
            (fun i => (Cells g2 i.1 i.2.2.2.2.1 ∧ Cells g2 i.2.1 i.2.2.2.2.2.2.1) ∧ All2 (CellR g2) i.2.2.2.2.2.2.2.1 i.2.2.2.2.2.2.2.2 ∧ A0 = i.2.2.2.1 ++ i.2.2.2.2.1 ∧ B0 = i.2.2.2.2.2.1 ++ i.2.2.2.2.2.2.1 ∧ Srt Cl.id i.2.2.2.2.2.2.2.1 ∧ Stab Cl.id (i.2.2.2.1 ++ i.2.2.2.2.2.1) i.2.2.2.2.2.2.2.1 ∧
              (∀ y ∈ i.2.2.2.2.2.2.2.1, ∀ z ∈ i.2.2.2.2.1 ++ i.2.2.2.2.2.2.1, y.id ≤ z.id) ∧ (∀ y ∈ i.2.2.2.2.2.1, ∀ z ∈ i.2.2.2.2.1, y.id < z.id)) (fun i => i.2.2.2.2.1.length + i.2.2.2.2.2.2.1.length)
            (va0, vb0, .slice none 0 0, [], A0, [], B0, [], []) ⟨rfl, rfl, rfl, trivial⟩ rfl rfl ⟨⟨hA.mono hle2, hB⟩, trivial, rfl, rfl, Srt.nil, Stab.refl _, by simp, by simp⟩ ?_
          rintro ⟨va, vb1, vo, A1, A2, B1, B2, out, ro⟩ ⟨⟨hva, hvb⟩, hro, hA', hB', hso, hto, hout, hlt⟩
          dsimp only at hva hvb hro hA' hB' hso hto hout hlt ⊢
          have hol : out.length = A1.length + B1.length := by have := hto.1; simpa using this
          have hrol := hro.length
          have hAl : A0.length = A1.length + A2.length := by rw [hA']; simp
          have hBl : B0.length = B1.length + B2.length := by rw [hB']; simp
          rw [hA'] at hsa
          rw [hB'] at hsb
          have hsa2 := (Srt.append_iff.1 hsa).2.1
          have hsb2 := (Srt.append_iff.1 hsb).2.1
          obtain ⟨pa, ca, rfl⟩ := hva.form
          obtain ⟨pb, cb, rfl⟩ := hvb.form
          have hcapa := (Cells.cap hva).2
          have hcapb := (Cells.cap hvb).2
          have hfin : A2 = [] ∨ B2 = [] → out ++ A2 ++ B2 = canonC l := fun h => by
            rw [canonC_alt]
            refine eq_sortBy ?_ ?_
            · rw [List.append_assoc]
              refine Srt.append_iff.2 ⟨hso, ?_, hout⟩
              rcases h with rfl | rfl
              · simpa using hsb2
              · simpa using hsa2
            · refine hst.trans ?_
              rw [hA', hB']
              rcases h with rfl | rfl
              · have h2 := hto.append (Stab.refl (key := Cl.id) B2)
                simpa using h2
              · have h3 : Stab Cl.id (A2 ++ B1) (B1 ++ A2) := Stab.swap (fun x hx y hy => by have := hlt y hy x hx; omega)
                have h4 := (Stab.refl (key := Cl.id) A1).append h3
                have h5 := hto.append (Stab.refl (key := Cl.id) A2)
                simp only [List.append_nil, List.append_assoc] at h4 h5 ⊢
                exact h4.trans h5
          cases A2 with
          | nil =>
            refine SC.seq (SC.seq (SC.region (SL.M rfl (SL.U (SU.lenN underlying25 rfl) (SL.U (SU.eq (v' := vb false) (SU.gtr rfl rfl) rfl) (SL.M rfl (SL.Z rfl rfl rfl (SL.Z rfl rfl rfl (SL.Z rfl rfl rfl (SL.U (SU.pickF rfl rfl) (SL.nil (ST.thenN (SC.condF rfl (SC.exit (ST.thenX (ST.thenX (ST.blockX ?_)))))))))))))))))
            exact ST.mid (_, _, vo, [], B2, out, ro) ⟨rfl, rfl, rfl, trivial⟩ rfl rfl ⟨hva, hvb, hro, hfin (.inl rfl)⟩
          | cons x A3 =>
            have hpa : (0 : Int) < ((x :: A3).length : Int) := by simp
            cases B2 with
            | nil =>
              refine SC.seq (SC.seq (SC.region (SL.M rfl (SL.U (SU.lenN underlying25 rfl) (SL.U (SU.eq (v' := vb true) (SU.gtr rfl rfl) (congrArg vb (decide_eq_true hpa))) (SL.M rfl (SL.Y rfl rfl rfl (SU.move rfl) (SL.Y rfl rfl rfl (SU.lenN underlying25 rfl) (SL.Y rfl rfl rfl (SU.eq (v' := vb false) (SU.gtr rfl rfl) rfl) (SL.U (SU.pickT rfl rfl) (SL.nil (ST.thenN (SC.condF rfl (SC.exit (ST.thenX (ST.thenX (ST.blockX ?_)))))))))))))))))
              exact ST.mid (_, _, vo, x :: A3, [], out, ro) ⟨rfl, rfl, rfl, trivial⟩ rfl rfl ⟨hva, hvb, hro, hfin (.inr rfl)⟩
            | cons y B3 =>
              have hpb : (0 : Int) < ((y :: B3).length : Int) := by simp
              obtain ⟨ra, hra, halla⟩ := hva
              obtain ⟨rb, hrb, hallb⟩ := hvb
              have hva : Cells g2 _ (x :: A3) := ⟨ra, hra, halla⟩
              have hvb : Cells g2 _ (y :: B3) := ⟨rb, hrb, hallb⟩
              have hna := Cells.cut hva (a := 1) (b := (x :: A3).length) (by simp) (Nat.le_refl _)
              have hnb := Cells.cut hvb (a := 1) (b := (y :: B3).length) (by simp) (Nat.le_refl _)
              have hda : ((x :: A3).drop 1).take ((x :: A3).length - 1) = A3 := by simp
              have hdb : ((y :: B3).drop 1).take ((y :: B3).length - 1) = B3 := by simp
              rw [hda] at hna
              rw [hdb] at hnb
              obtain ⟨x', ra', rfl, hx, _⟩ := All2.cons_left halla
              obtain ⟨y', rb', rfl, hy, _⟩ := All2.cons_left hallb
              have hba := hra.based (by simp)
              have hbb := hrb.based (by simp)
              have hlen3 : A3.length + 1 + (B3.length + 1) + out.length ≤ l.length := by simp only [List.length_cons] at hAl hBl; omega
              refine SC.seq (SC.seq (SC.region (SL.M rfl (SL.U (SU.lenN underlying25 rfl) (SL.U (SU.eq (v' := vb true) (SU.gtr rfl rfl) (congrArg vb (decide_eq_true hpa))) (SL.M rfl (SL.Y rfl rfl rfl (SU.move rfl) (SL.Y rfl rfl rfl (SU.lenN underlying25 rfl) (SL.Y rfl rfl rfl (SU.eq (v' := vb true) (SU.gtr rfl rfl) (congrArg vb (decide_eq_true hpb))) (SL.U (SU.pickT rfl rfl) (SL.nil (ST.thenN (SC.condT rfl (SC.skip (ST.thenN (SC.block (SC.seq ?_)))))))))))))))))
              refine SC.draw [] [(0, 2), (1, 2), (2, 2), (3, 1), (4, 2), (5, 2), (6, 2), (7, 1), (8, 2)] Tryz.mixed (by kernel_rfl) ?_
              refine SP.U (i := 0) rfl (SU.move rfl) (SP.U (i := 1) rfl (SU.indexAddr underlying25 sizeOf51 rfl rfl hbb (by decide) hpb) (SP.U (i := 2) rfl (SU.fieldAddrC underlying51 rfl sizeOf3 rfl hbb) (SP.K (i := 3) rfl (SQ.partA (e := encCell) (o := 0) (j := 0) (u := vi y'.id) isAgg3 rfl hrb.rd rfl rfl) (SP.U (i := 4) rfl (SU.move rfl) (SP.U (i := 5) rfl (SU.indexAddr underlying25 sizeOf51 rfl rfl hba (by decide) hpa) (SP.U (i := 6) rfl (SU.fieldAddrC underlying51 rfl sizeOf3 rfl hba) (SP.K (i := 7) rfl (SQ.partA (e := encCell) (o := 0) (j := 0) (u := vi x'.id) isAgg3 rfl hra.rd rfl rfl) (SP.U (i := 8) rfl (SU.lss rfl rfl) (SP.nil (ST.thenN ?_))))))))))
              refine SC.ifP rfl (fun hc => ?_) (fun hc => ?_)
              · skip
                refine SC.seq (SC.region (SL.M rfl (SL.M rfl (SL.U (SU.indexAddr underlying25 sizeOf51 rfl rfl hbb (by decide) hpb) (SL.K (SQ.elemA (e := encCell) (a := y') (j := 0) isAgg51 sizeOf51 rfl hrb.rd rfl) (SL.W (SO.buildSlice sty25 rfl rfl rfl (szs_mk (by exact ⟨rfl, trivial⟩)) (by decide)) ?_))))))
                rintro _ _ _ ⟨b60, rfl, rfl, rfl⟩
                refine SL.W (SO.app1A (e := encCell) 0 y' sty25 rfl rfl rfl rfl rfl (by omega) (by omega)) ?_
                rintro v61 _ _ ⟨rfl, rfl⟩
                refine SL.A rfl (SL.nil (ST.thenN (SC.region (SL.M rfl (SL.U (SU.sliceL underlying25 sizeOf51 rfl rfl (by decide) (by simp only [List.length_cons]; omega)) ?_)))))
                refine SL.A rfl (SL.nil (ST.blockN ?_))
                rw [hx.1, hy.1] at hc
                refine ST.again (_, _, v61, A1, x :: A3, B1 ++ [y], B3, out ++ [y], ro ++ [y']) ⟨rfl, rfl, rfl, trivial⟩ rfl rfl ⟨⟨hva, hnb⟩, hro.append ⟨hy, trivial⟩, hA', by rw [hB']; simp, ?_, ?_, ?_, ?_⟩ (by (first | with_reducible rfl | ((try dsimp only); (try simp only [List.length_append, List.length_cons, List.length_nil, List.length_singleton, List.length_take, List.length_drop]) <;> omega)))
                · refine Srt.append_iff.2 ⟨hso, Srt.one y, fun a ha b hb => ?_⟩
                  simp at hb; subst hb; exact hout a ha b (by simp)
                · have h2 := hto.append (Stab.refl (key := Cl.id) [y])
                  simpa using h2
                · intro a ha b hb
                  dsimp only at ha hb
                  rcases List.mem_append.1 ha with ha | ha
                  · refine hout a ha b ?_
                    simp at hb ⊢
                    rcases hb with h | h | h
                    · exact .inl h
                    · exact .inr (.inl h)
                    · exact .inr (.inr (.inr h))
                  · simp at ha; subst ha
                    rcases List.mem_append.1 hb with hb | hb
                    · rcases List.mem_cons.1 hb with rfl | hb
                      · omega
                      · have := (Srt.cons_iff.1 hsa2).1 b hb; omega
                    · exact (Srt.cons_iff.1 hsb2).1 b hb
                · intro a ha b hb
                  dsimp only at ha hb
                  rcases List.mem_append.1 ha with ha | ha
                  · exact hlt a ha b hb
                  · simp at ha; subst ha
                    rcases List.mem_cons.1 hb with rfl | hb
                    · omega
                    · have := (Srt.cons_iff.1 hsa2).1 b hb; omega
              · skip
                refine SC.seq (SC.region (SL.M rfl (SL.M rfl (SL.U (SU.indexAddr underlying25 sizeOf51 rfl rfl hba (by decide) hpa) (SL.K (SQ.elemA (e := encCell) (a := x') (j := 0) isAgg51 sizeOf51 rfl hra.rd rfl) (SL.W (SO.buildSlice sty25 rfl rfl rfl (szs_mk (by exact ⟨rfl, trivial⟩)) (by decide)) ?_))))))
                rintro _ _ _ ⟨b68, rfl, rfl, rfl⟩
                refine SL.W (SO.app1A (e := encCell) 0 x' sty25 rfl rfl rfl rfl rfl (by omega) (by omega)) ?_
                rintro v69 _ _ ⟨rfl, rfl⟩
                refine SL.A rfl (SL.nil (ST.thenN (SC.region (SL.M rfl (SL.U (SU.sliceL underlying25 sizeOf51 rfl rfl (by decide) (by simp only [List.length_cons]; omega)) ?_)))))
                refine SL.A rfl (SL.nil (ST.blockN ?_))
                rw [hx.1, hy.1] at hc
                refine ST.again (_, _, v69, A1 ++ [x], A3, B1, y :: B3, out ++ [x], ro ++ [x']) ⟨rfl, rfl, rfl, trivial⟩ rfl rfl ⟨⟨hna, hvb⟩, hro.append ⟨hx, trivial⟩, by rw [hA']; simp, hB', ?_, ?_, ?_, ?_⟩ (by (first | with_reducible rfl | ((try dsimp only); (try simp only [List.length_append, List.length_cons, List.length_nil, List.length_singleton, List.length_take, List.length_drop]) <;> omega)))
                · refine Srt.append_iff.2 ⟨hso, Srt.one x, fun a ha b hb => ?_⟩
                  simp at hb; subst hb; exact hout a ha b (by simp)
                · have h2 : Stab Cl.id ([x] ++ B1) (B1 ++ [x]) := Stab.swap (fun a ha b hb => by simp at ha; subst ha; have := hlt b hb a (by simp); omega)
                  have h3 := (Stab.refl (key := Cl.id) A1).append h2
                  have h4 := hto.append (Stab.refl (key := Cl.id) [x])
                  dsimp only
                  simp only [List.append_assoc] at h3 h4 ⊢
                  exact h3.trans h4
                · intro a ha b hb
                  dsimp only at ha hb
                  rcases List.mem_append.1 ha with ha | ha
                  · refine hout a ha b ?_
                    simp at hb ⊢
                    rcases hb with h | h | h
                    · exact .inr (.inl h)
                    · exact .inr (.inr (.inl h))
                    · exact .inr (.inr (.inr h))
                  · simp at ha; subst ha
                    rcases List.mem_append.1 hb with hb | hb
                    · exact (Srt.cons_iff.1 hsa2).1 b hb
                    · rcases List.mem_cons.1 hb with rfl | hb
                      · omega
                      · have := (Srt.cons_iff.1 hsb2).1 b hb; omega
                · intro a ha b hb
                  exact hlt a ha b (by simp [hb])
        · rintro ⟨va, vb1, vo, A2, B2, out, ro⟩ ⟨hva, hvb, hro, hres⟩
          dsimp only at hva hvb hro hres ⊢
          obtain ⟨ra, hra, halla⟩ := hva
          obtain ⟨rb, hrb, hallb⟩ := hvb
          have hl1 := congrArg List.length hres
          rw [canonC_length] at hl1
          simp only [List.length_append] at hl1
          have e1 := hro.length
          have e2 := halla.length
          have e3 := hallb.length
          refine SC.seq (SC.region (SL.M rfl (SL.M rfl (SL.W (SO.appA (e := encCell) 0 sty25 rfl rfl rfl hra (by omega) (by omega)) ?_))))
          rintro v74 _ _ ⟨rfl, rfl⟩
          refine SL.M rfl (SL.W (SO.appA (e := encCell) 0 sty25 rfl rfl rfl hrb (by (first | with_reducible rfl | ((try dsimp only); (try simp only [List.length_append, List.length_cons, List.length_nil, List.length_singleton, List.length_take, List.length_drop]) <;> omega))) (by (first | with_reducible rfl | ((try dsimp only); (try simp only [List.length_append, List.length_cons, List.length_nil, List.length_singleton, List.length_take, List.length_drop]) <;> omega)))) ?_)
          rintro v76 _ _ ⟨rfl, rfl⟩
          refine SL.A rfl (SL.nil (ST.thenN (SC.ret (ST.freezeRow fun g3 hle3 hs3 => ?_))))
          exact ST.ret1 (.inl rfl) results97 rfl ⟨rfl, hle1.trans (hle2.trans hle3), ro ++ ra ++ rb, hs3, by rw [← hres]; exact (((hro.append halla).append hallb).mono fun _ _ => CellR.mono hle3)⟩
end Go.Proofs.YtkdibcicncjpdaaGreat
namespace Go.Proofs.YtkdibcicncjpdaaGreat
open _root_.Go.Proofs.Tryz _root_.Go.Proofs.YtkdibcicncjpdaaGreat.Tryz
open Go Go.Sy Go.Pl Go.Proofs
set_option maxRecDepth 100000
theorem refCanon_spec (E : World) (g : PH) (s : Own) (v : Value) (l : List Cl) (hv : Cells g v l) (hf : Fits l) :
    Ctr Tryz.prog E 63 #[.agg #[v]] g s (fun r g' s' => s = s' ∧ Le g g' ∧ ∃ u, r = .agg #[u] ∧ Cells g' u (canonC l)) := by
  obtain ⟨p, c, rfl⟩ := hv.form
  refine Ctr.of (args := [.agg #[.slice p l.length c]]) func63 rfl ntmps63 (Nat.le_of_ble_eq_true rfl) ?_
  refine SC.seq (SC.region (SL.W (SO.box rfl) ?_))
  rintro _ _ _ ⟨b1, rfl, rfl, rfl⟩
  refine SL.W (SO.alloc zeroValue27) ?_
  rintro _ _ _ ⟨b2, rfl, rfl, rfl⟩
  refine SL.nil (ST.thenN (SC.seq (SC.region (SL.U (SU.fieldAddr underlying27 rfl sizeOf25 rfl) (SL.K (SQ.load isAgg25 rfl (CellAt.own 1 rfl rfl)) (SL.W (SO.call call97 rfl (ordered_spec E l.length g _ _ l (Nat.le_refl _) hv hf)) ?_))))))
  rintro v5 g1 _ ⟨rfl, hle, h5⟩
  obtain ⟨q, d, rfl⟩ := h5.form
  refine SL.U (SU.build rfl (build27 _ rfl)) (SL.on (SO.storeAllK 0 sizeOf27 rfl rfl rfl rfl rfl (by exact ⟨rfl, trivial⟩)) ?_)
  rintro _ _ _ ⟨rfl, rfl⟩
  refine SL.nil (ST.thenN (SC.ret ?_))
  exact ST.retCD 0 s (.inl rfl) results63 rfl isAgg27 sizeOf27 rfl rfl (.cons _ (.cons _ (.refl _))) ⟨rfl, hle, _, rfl, h5⟩
theorem sameCell_spec (E : World) (g : PH) (s : Own) (a b : Cl) (ra rb : Rc) (ha : CellR g a ra) (hb : CellR g b rb) (hl : a.sides.length < 1099511627776) :
    Ctr Tryz.prog E 53 #[rcv ra, rcv rb] g s (fun r g' s' => r = vb (decide (a = b)) ∧ g = g' ∧ s = s') := by
  obtain ⟨p, c, rfl, hsa⟩ := cellR_form ha
  obtain ⟨q, d, rfl, hsb⟩ := cellR_form hb
  have f1 : a.id ≠ b.id → (decide (a.id ≠ b.id) || decide (a.dim ≠ b.dim) || decide ((a.sides.length : Int) ≠ b.sides.length)) = true := fun h => by simp [h]
  have f2 : ¬ a.id ≠ b.id → a.dim ≠ b.dim → (decide (a.id ≠ b.id) || decide (a.dim ≠ b.dim) || decide ((a.sides.length : Int) ≠ b.sides.length)) = true := fun h h2 => by simp [h, h2]
  have f3 : ¬ a.id ≠ b.id → ¬ a.dim ≠ b.dim → (decide (a.id ≠ b.id) || decide (a.dim ≠ b.dim) || decide ((a.sides.length : Int) ≠ b.sides.length)) = decide ((a.sides.length : Int) ≠ b.sides.length) := fun h h2 => by simp [h, h2]
  refine Ctr.of (args := [.agg #[vi a.id, vi a.dim, .slice p a.sides.length c], .agg #[vi b.id, vi b.dim, .slice q b.sides.length d]]) func53 rfl ntmps53 (Nat.le_of_ble_eq_true rfl) ?_
  refine SC.seq (SC.region (SL.W (SO.box rfl) ?_))
  rintro _ _ _ ⟨b2, rfl, rfl, rfl⟩
  refine SL.W (SO.box rfl) ?_
  rintro _ _ _ ⟨b3, rfl, rfl, rfl⟩
  refine SL.A rfl (SL.nil (ST.thenN (SC.seq ?_)))
  refine SC.to (g' := g) (s' := pt b3 (.cells #[vi b.id, vi b.dim, .slice q b.sides.length d] 51 (0, 0)) :: pt b2 (.cells #[vi a.id, vi a.dim, .slice p a.sides.length c] 51 (0, 0)) :: s) (fun w hw => hw) ?_
  refine SC.cutB 26 ((decide (a.id ≠ b.id) || decide (a.dim ≠ b.dim) || decide ((a.sides.length : Int) ≠ b.sides.length))) ?_ ?_
  · skip
    refine SC.region (SL.U (SU.fieldAddr underlying51 rfl sizeOf3 rfl) (SL.K (SQ.load (v := vi a.id) isAgg3 rfl (CellAt.own 1 rfl rfl)) (SL.U (SU.fieldAddr underlying51 rfl sizeOf3 rfl) (SL.K (SQ.load (v := vi b.id) isAgg3 rfl (CellAt.own 0 rfl rfl)) (SL.U (SU.neq rfl rfl) (SL.M rfl ?_))))))
    refine SL.split ?_ ?_
    · intro h11
      refine SL.Z rfl rfl rfl (SL.Z rfl rfl rfl (SL.Z rfl rfl rfl (SL.Z rfl rfl rfl (SL.Z rfl rfl rfl (SL.U (SU.pickT rfl rfl) (SL.M rfl (SL.Z rfl rfl rfl (SL.Z rfl rfl rfl (SL.Z rfl rfl rfl (SL.Z rfl rfl rfl (SL.Z rfl rfl rfl (SL.Z rfl rfl rfl (SL.Z rfl rfl rfl (SL.U (SU.pickT rfl rfl) (SL.nil ?_)))))))))))))))
      exact ST.mid1 (by (rw [f1 h11]; rfl)) (by repeat' (first | exact trivial | refine ⟨.inl rfl, ?_⟩ | refine ⟨.inr rfl, ?_⟩))
    · intro h11
      refine SL.Y rfl rfl rfl (SU.fieldAddr underlying51 rfl sizeOf3 rfl) (SL.gq (Gd.onT rfl rfl rfl (by decide)) (SQ.load (v := vi a.dim) isAgg3 rfl (CellAt.own 1 rfl rfl)) (by decide) (SL.Y rfl rfl rfl (SU.fieldAddr underlying51 rfl sizeOf3 rfl) (SL.gq (Gd.onT rfl rfl rfl (by decide)) (SQ.load (v := vi b.dim) isAgg3 rfl (CellAt.own 0 rfl rfl)) (by decide) (SL.Y rfl rfl rfl (SU.neq rfl rfl) (SL.U (SU.pickF rfl rfl) (SL.M rfl ?_))))))
      refine SL.split ?_ ?_
      · intro h18
        refine SL.Z rfl rfl rfl (SL.Z rfl rfl rfl (SL.Z rfl rfl rfl (SL.Z rfl rfl rfl (SL.Z rfl rfl rfl (SL.Z rfl rfl rfl (SL.Z rfl rfl rfl (SL.U (SU.pickT rfl rfl) (SL.nil ?_))))))))
        exact ST.mid1 (by (rw [f2 h11 h18]; rfl)) (by repeat' (first | exact trivial | refine ⟨.inl rfl, ?_⟩ | refine ⟨.inr rfl, ?_⟩))
      · intro h18
        refine SL.Y rfl rfl rfl (SU.fieldAddr underlying51 rfl sizeOf49 rfl) (SL.gq (Gd.onT rfl rfl rfl (by decide)) (SQ.load (v := .slice p a.sides.length c) isAgg49 rfl (CellAt.own 1 rfl rfl)) (by decide) (SL.Y rfl rfl rfl (SU.lenN underlying49 rfl) (SL.Y rfl rfl rfl (SU.fieldAddr underlying51 rfl sizeOf49 rfl) (SL.gq (Gd.onT rfl rfl rfl (by decide)) (SQ.load (v := .slice q b.sides.length d) isAgg49 rfl (CellAt.own 0 rfl rfl)) (by decide) (SL.Y rfl rfl rfl (SU.lenN underlying49 rfl) (SL.Y rfl rfl rfl (SU.neq rfl rfl) (SL.U (SU.pickF rfl rfl) (SL.nil ?_))))))))
        exact ST.mid1 (by (rw [f3 h11 h18]; rfl)) (by repeat' (first | exact trivial | refine ⟨.inl rfl, ?_⟩ | refine ⟨.inr rfl, ?_⟩))
  refine SC.ifB rfl (fun hbad => ?_) (fun hbad => ?_)
  · skip
    refine SC.seq (SC.region (SL.A rfl (SL.nil (ST.thenN (SC.ret (ST.thenR (ST.drop (s' := s) (.cons _ (.cons _ (.refl _))) ?_)))))))
    exact ST.ret1 (.inl rfl) results53 rfl ⟨congrArg vb (Eq.symm (decide_eq_false fun e => by rw [e] at hbad; simp at hbad)), rfl, rfl⟩
  · have hid : a.id = b.id := by simp at hbad; exact hbad.1.1
    have hdim : a.dim = b.dim := by simp at hbad; exact hbad.1.2
    have hln : a.sides.length = b.sides.length := by simp at hbad; omega
    refine SC.skip (ST.thenN (SC.seq (SC.seq (SC.region (SL.A rfl (SL.nil (ST.thenN (SC.block ?_))))))))
    refine SC.loop (ι := Nat) (fun k => [(2, pp b2 0), (3, pp b3 0), (5, vi k)]) (fun _ => g) (fun _ => pt b3 (.cells #[vi b.id, vi b.dim, .slice q b.sides.length d] 51 (0, 0)) :: pt b2 (.cells #[vi a.id, vi a.dim, .slice p a.sides.length c] 51 (0, 0)) :: s) (fun k => k ≤ a.sides.length ∧ a.sides.take k = b.sides.take k) (fun k => a.sides.length - k) 0
      ⟨rfl, rfl, rfl, trivial⟩ rfl rfl ⟨Nat.zero_le _, by simp⟩ ?_
    rintro k ⟨hk, heq⟩
    refine SC.seq (SC.seq (SC.region (SL.M rfl (SL.U (SU.fieldAddr underlying51 rfl sizeOf49 rfl) (SL.K (SQ.load (v := .slice p a.sides.length c) isAgg49 rfl (CellAt.own 1 rfl rfl)) (SL.U (SU.lenN underlying49 rfl) (SL.U (SU.lss rfl rfl) (SL.nil (ST.thenN ?_)))))))))
    refine SC.ifP rfl (fun hlt => ?_) (fun hlt => ?_)
    · have hka : k < a.sides.length := by omega
      have hkb : k < b.sides.length := by omega
      have hb1 := hsa.based (by omega)
      have hb2 := hsb.based (by omega)
      refine SC.skip (ST.thenN (SC.seq (SC.block (SC.seq ?_))))
      refine SC.draw [] [(0, 2), (1, 1), (2, 2), (3, 2), (4, 1), (5, 2), (6, 1), (7, 2), (8, 2), (9, 1), (10, 2)] Tryz.mixed (by kernel_rfl) ?_
      refine SP.U (i := 0) rfl (SU.fieldAddr underlying51 rfl sizeOf49 rfl) (SP.K (i := 1) rfl (SQ.load (v := .slice p a.sides.length c) isAgg49 rfl (CellAt.own 1 rfl rfl)) (SP.U (i := 2) rfl (SU.move rfl) (SP.U (i := 3) rfl (SU.indexAddr underlying49 sizeOf55 rfl rfl hb1 (by omega) (by simp only [slen]; omega)) ?_)))
      refine SP.q (i := 4) rfl (SQ.elemA isAgg55 sizeOf55 rfl hsa.rd (List.getElem?_eq_getElem hka)) (by decide) ?_
      refine SP.U (i := 5) rfl (SU.fieldAddr underlying51 rfl sizeOf49 rfl) (SP.K (i := 6) rfl (SQ.load (v := .slice q b.sides.length d) isAgg49 rfl (CellAt.own 0 rfl rfl)) (SP.U (i := 7) rfl (SU.move rfl) (SP.U (i := 8) rfl (SU.indexAddr underlying49 sizeOf55 rfl rfl hb2 (by omega) (by simp only [slen]; omega)) ?_)))
      refine SP.q (i := 9) rfl (SQ.elemA isAgg55 sizeOf55 rfl hsb.rd (List.getElem?_eq_getElem hkb)) (by decide) ?_
      refine SP.U (i := 10) rfl (SU.neqSide rfl rfl) (SP.nil (ST.thenN ?_))
      refine SC.ifP rfl (fun hne => ?_) (fun hne => ?_)
      · skip
        refine SC.seq (SC.region (SL.A rfl (SL.nil (ST.thenN (SC.ret (ST.blockR (ST.thenR (ST.thenR (ST.blockR (ST.thenR (ST.drop (s' := s) (.cons _ (.cons _ (.refl _))) ?_)))))))))))
        exact ST.ret1 (.inl rfl) results53 rfl ⟨congrArg vb (Eq.symm (decide_eq_false fun e => hne (by simp [e]))), rfl, rfl⟩
      · skip
        refine SC.skip (ST.blockN (ST.thenN (SC.region (SL.M rfl (SL.U (SU.add rfl rfl (by omega)) (SL.A rfl (SL.nil ?_)))))))
        exact ST.again (k + 1) ⟨rfl, rfl, rfl, trivial⟩ rfl rfl ⟨by omega, take_eq_succ hka hkb heq (Decidable.of_not_not hne)⟩ (by omega)
    · have hkk : k = a.sides.length := by omega
      subst hkk
      have hs := take_eq_all hln heq
      refine SC.exit (ST.thenX (ST.thenX (ST.blockX (ST.thenN (SC.seq (SC.region (SL.A rfl (SL.nil (ST.thenN (SC.ret (ST.drop (s' := s) (.cons _ (.cons _ (.refl _))) ?_)))))))))))
      exact ST.ret1 (.inl rfl) results53 rfl ⟨congrArg vb (Eq.symm (decide_eq_true (cl_eq.2 ⟨hid, hdim, hs⟩))), rfl, rfl⟩
theorem refEqual_spec (E : World) (g : PH) (s : Own) (v u : Value) (l m : List Cl) (hv : Cells g v l) (hu : Cells g u m) (hl : Fits l) (hm : Fits m) :
    Ctr Tryz.prog E 22 #[.agg #[v], .agg #[u]] g s (fun r g' s' => r = vb (decide (canonC l = canonC m)) ∧ s = s' ∧ Le g g') := by
  have hfl := (canonC_fits hl).1
  obtain ⟨pv, cv, rfl⟩ := hv.form
  obtain ⟨pu, cu, rfl⟩ := hu.form
  refine Ctr.of (args := [.agg #[.slice pv l.length cv], .agg #[.slice pu m.length cu]]) func22 rfl ntmps22 (Nat.le_of_ble_eq_true rfl) ?_
  refine SC.seq (SC.region (SL.W (SO.box rfl) ?_))
  rintro _ _ _ ⟨b2, rfl, rfl, rfl⟩
  refine SL.W (SO.box rfl) ?_
  rintro _ _ _ ⟨b3, rfl, rfl, rfl⟩
  refine SL.A rfl (SL.nil (ST.thenN (SC.seq (SC.region (SL.K (SQ.loadVarK 1 isAgg27 sizeOf27 rfl rfl rfl) (SL.W (SO.call call63 rfl (refCanon_spec E g _ _ l hv hl)) ?_))))))
  rintro _ g1 _ ⟨rfl, hle1, x, rfl, hx⟩
  obtain ⟨p, c, rfl⟩ := hx.form
  refine SL.U (SU.field underlying27 rfl isAgg25 rfl rfl) (SL.A rfl (SL.nil (ST.thenN (SC.seq (SC.region (SL.K (SQ.loadVarK 0 isAgg27 sizeOf27 rfl rfl rfl) (SL.W (SO.call call63 rfl (refCanon_spec E g1 _ _ m (hu.mono hle1) hm)) ?_)))))))
  rintro _ g2 _ ⟨rfl, hle2, y, rfl, hy⟩
  obtain ⟨q, d, rfl⟩ := hy.form
  have hx2 := hx.mono hle2
  obtain ⟨rx, hrx, hax⟩ := hx2
  obtain ⟨ry, hry, hay⟩ := hy
  have exl := hax.length
  have eyl := hay.length
  refine SL.U (SU.field underlying27 rfl isAgg25 rfl rfl) (SL.A rfl (SL.nil (ST.thenN (SC.seq (SC.seq (SC.region (SL.M rfl (SL.U (SU.lenN underlying25 rfl) (SL.M rfl (SL.U (SU.lenN underlying25 rfl) (SL.U (SU.neq rfl rfl) (SL.nil (ST.thenN ?_)))))))))))))
  refine SC.ifP rfl (fun hne => ?_) (fun hne => ?_)
  · skip
    refine SC.seq (SC.region (SL.A rfl (SL.nil (ST.thenN (SC.ret (ST.thenR (ST.drop (s' := s) (.cons _ (.cons _ (.refl _))) ?_)))))))
    exact ST.ret1 (.inl rfl) results22 rfl ⟨congrArg vb (Eq.symm (decide_eq_false fun e => hne (by rw [e]))), rfl, hle1.trans hle2⟩
  · have hln : (canonC l).length = (canonC m).length := by omega
    refine SC.skip (ST.thenN (SC.seq (SC.seq (SC.region (SL.A rfl (SL.nil (ST.thenN (SC.block ?_))))))))
    refine SC.loop (ι := Nat) (fun k => [(5, .slice p (canonC l).length c), (6, .slice q (canonC m).length d), (7, vi k)]) (fun _ => g2) (fun _ => pt b3 (.cells #[.slice pu m.length cu] 27 (0, 0)) :: pt b2 (.cells #[.slice pv l.length cv] 27 (0, 0)) :: s) (fun k => k ≤ (canonC l).length ∧ (canonC l).take k = (canonC m).take k) (fun k => (canonC l).length - k) 0
      ⟨rfl, rfl, rfl, trivial⟩ rfl rfl ⟨Nat.zero_le _, by simp⟩ ?_
    rintro k ⟨hk, heq⟩
    refine SC.seq (SC.seq (SC.region (SL.M rfl (SL.M rfl (SL.U (SU.lenN underlying25 rfl) (SL.U (SU.lss rfl rfl) (SL.nil (ST.thenN ?_))))))))
    refine SC.ifP rfl (fun hlt => ?_) (fun hlt => ?_)
    · have hka : k < (canonC l).length := by omega
      have hkb : k < (canonC m).length := by omega
      have hra : k < rx.length := by omega
      have hrb : k < ry.length := by omega
      have hb1 := hrx.based (by omega)
      have hb2 := hry.based (by omega)
      have hcx := hax.get (List.getElem?_eq_getElem hka) (List.getElem?_eq_getElem hra)
      have hcy := hay.get (List.getElem?_eq_getElem hkb) (List.getElem?_eq_getElem hrb)
      have hxl := (canonC_fits hl).2 _ (List.getElem_mem hka)
      have hr1 := hrx.rd (s := pt b3 (.cells #[.slice pu m.length cu] 27 (0, 0)) :: pt b2 (.cells #[.slice pv l.length cv] 27 (0, 0)) :: s)
      have hr2 := hry.rd (s := pt b3 (.cells #[.slice pu m.length cu] 27 (0, 0)) :: pt b2 (.cells #[.slice pv l.length cv] 27 (0, 0)) :: s)
      refine SC.skip (ST.thenN (SC.seq (SC.block (SC.seq ?_))))
      refine SC.draw [] [(0, 2), (1, 2), (2, 2), (3, 1), (4, 2), (5, 2), (6, 2), (7, 1), (8, 0), (9, 2)] Tryz.mixed (by kernel_rfl) ?_
      refine SP.U (i := 0) rfl (SU.move rfl) (SP.U (i := 1) rfl (SU.move rfl) (SP.U (i := 2) rfl (SU.indexAddr underlying25 sizeOf51 rfl rfl hb1 (by omega) (by simp only [slen]; omega)) ?_))
      refine SP.q (i := 3) rfl (SQ.elemA isAgg51 sizeOf51 rfl hr1 (List.getElem?_eq_getElem hra)) (by decide) ?_
      refine SP.U (i := 4) rfl (SU.move rfl) (SP.U (i := 5) rfl (SU.move rfl) (SP.U (i := 6) rfl (SU.indexAddr underlying25 sizeOf51 rfl rfl hb2 (by omega) (by simp only [slen]; omega)) ?_))
      refine SP.q (i := 7) rfl (SQ.elemA isAgg51 sizeOf51 rfl hr2 (List.getElem?_eq_getElem hrb)) (by decide) ?_
      refine SP.o (i := 8) rfl (SO.call call53 rfl (sameCell_spec E g2 _ _ _ _ _ hcx hcy hxl)) (by decide) (.inr (by rintro _ _ _ ⟨rfl, rfl, rfl⟩; exact ⟨by exact Le.refl _, (by exact .refl _)⟩)) ?_
      rintro _ _ _ ⟨rfl, rfl, rfl⟩
      refine SP.U (i := 9) rfl (SU.assign rfl) (SP.nil (ST.thenN (SC.seq (SC.region (SL.M rfl (SL.U (SU.notP rfl) (SL.nil (ST.thenN ?_))))))))
      refine SC.ifP rfl (fun hd => ?_) (fun hd => ?_)
      · skip
        refine SC.seq (SC.region (SL.A rfl (SL.nil (ST.thenN (SC.ret (ST.blockR (ST.thenR (ST.thenR (ST.blockR (ST.thenR (ST.drop (s' := s) (.cons _ (.cons _ (.refl _))) ?_)))))))))))
        exact ST.ret1 (.inl rfl) results22 rfl ⟨congrArg vb (Eq.symm (decide_eq_false fun e => hd (by simp [e]))), rfl, hle1.trans hle2⟩
      · skip
        refine SC.skip (ST.blockN (ST.thenN (SC.region (SL.M rfl (SL.U (SU.add rfl rfl (by omega)) (SL.A rfl (SL.nil ?_)))))))
        exact ST.again (k + 1) ⟨rfl, rfl, rfl, trivial⟩ rfl rfl ⟨by omega, take_eq_succ hka hkb heq (Decidable.of_not_not hd)⟩ (by omega)
    · have hkk : k = (canonC l).length := by omega
      subst hkk
      have hs := take_eq_all hln heq
      refine SC.exit (ST.thenX (ST.thenX (ST.blockX (ST.thenN (SC.seq (SC.region (SL.A rfl (SL.nil (ST.thenN (SC.ret (ST.drop (s' := s) (.cons _ (.cons _ (.refl _))) ?_)))))))))))
      exact ST.ret1 (.inl rfl) results22 rfl ⟨congrArg vb (Eq.symm (decide_eq_true hs)), rfl, hle1.trans hle2⟩
theorem foldl_ids (l : List Cl) : ∀ (acc : List Cl) (c : Cl), (c ∈ acc ∨ c ∈ l) → ∃ x ∈ l.foldl addC acc, x.id = c.id := by
  induction l with
  | nil => intro acc c h; rcases h with h | h; exact ⟨c, h, rfl⟩; simp at h
  | cons y r ih =>
    intro acc c h
    simp only [List.foldl_cons]
    rcases h with h | h
    · exact ih (addC acc y) c (.inl (by unfold addC; split; exact h; simp [h]))
    · rcases List.mem_cons.1 h with rfl | h
      · by_cases ha : acc.any (fun x => x.id == c.id) = true
        · rw [addC_old ha]
          rw [List.any_eq_true] at ha
          obtain ⟨z, hz, he⟩ := ha
          obtain ⟨x, hx, hxe⟩ := ih acc z (.inl hz)
          exact ⟨x, hx, by rw [hxe]; simpa using he⟩
        · have ha' : acc.any (fun x => x.id == c.id) = false := by simpa using ha
          rw [addC_new ha']
          exact ih _ c (.inl (by simp))
      · exact ih _ c (.inr h)
theorem srt_any {L : List Cl} (hs : Srt Cl.id L) {k : Nat} (h0 : 0 < k) (hk : k < L.length) : ((L.take k).foldl addC []).any (fun x => x.id == L[k].id) = decide (L[k].id = (L[k - 1]'(by omega)).id) := by
  rw [Bool.eq_iff_iff, List.any_eq_true, decide_eq_true_iff]
  constructor
  · rintro ⟨x, hx, he⟩
    have hm := (mem_foldl _ [] x hx).resolve_left (by simp)
    obtain ⟨j, hj, rfl⟩ := List.getElem_of_mem hm
    rw [List.length_take] at hj
    rw [List.getElem_take] at he
    have he' : (L[j]'(by omega)).id = L[k].id := by simpa using he
    rcases Nat.lt_or_ge j (k - 1) with h | h
    · have h1 := List.pairwise_iff_getElem.1 hs j (k - 1) (by omega) (by omega) h
      have h2 := List.pairwise_iff_getElem.1 hs (k - 1) k (by omega) hk (by omega)
      omega
    · have : j = k - 1 := by omega
      subst this
      exact he'.symm
  · intro he
    have hm : (L[k - 1]'(by omega)) ∈ L.take k := by
      have : k - 1 < (L.take k).length := by rw [List.length_take]; omega
      have h2 := List.getElem_mem this
      rwa [List.getElem_take] at h2
    obtain ⟨x, hx, hxe⟩ := foldl_ids (L.take k) [] _ (.inr hm)
    exact ⟨x, hx, by rw [hxe, ← he]; simp⟩
theorem refCells_spec (E : World) (g : PH) (s : Own) (v : Value) (l : List Cl) (hv : Cells g v l) (hf : Fits l) :
    Ctr Tryz.prog E 61 #[.agg #[v]] g s (fun r g' s' => s = s' ∧ Le g g' ∧ Cells g' r (tabC l)) := by
  obtain ⟨p, c, rfl⟩ := hv.form
  have hsrt := canonC_srt l
  have hcl := canonC_length l
  have hfl := hf.1
  refine Ctr.of (args := [.agg #[.slice p l.length c]]) func61 rfl ntmps61 (Nat.le_of_ble_eq_true rfl) ?_
  refine SC.seq (SC.region (SL.W (SO.box rfl) ?_))
  rintro _ _ _ ⟨b1, rfl, rfl, rfl⟩
  refine SL.A rfl (SL.nil (ST.thenN (SC.seq (SC.region (SL.U (SU.fieldAddr underlying27 rfl sizeOf25 rfl) (SL.K (SQ.load isAgg25 rfl (CellAt.own 0 rfl rfl)) (SL.W (SO.call call97 rfl (ordered_spec E l.length g _ _ l (Nat.le_refl _) hv hf)) ?_)))))))
  rintro v8 g1 _ ⟨rfl, hle, h8⟩
  obtain ⟨rs, hrs, hall⟩ := h8
  have hrl := hall.length
  obtain ⟨q, d, rfl⟩ := hrs.form
  refine SL.A rfl (SL.nil (ST.thenN (SC.seq (SC.region (SL.A rfl (SL.nil (ST.thenN (SC.seq (SC.seq (SC.region (SL.A rfl (SL.nil (ST.thenN (SC.block (SC.nilRow 51 3 ?_)))))))))))))))
  refine SC.loop (ι := Value × Nat × List Rc) (fun i => [(3, .slice q rs.length d), (4, i.1), (5, vi i.2.1)]) (fun _ => g1) (fun i => rowA encCell 51 i.1 i.2.2 :: pt b1 (.cells #[.slice p l.length c] 27 (0, 0)) :: s)
    (fun i => i.2.1 ≤ rs.length ∧ All2 (CellR g1) (((canonC l).take i.2.1).foldl addC []) i.2.2) (fun i => rs.length - i.2.1) (.slice none 0 0, 0, []) ⟨rfl, rfl, rfl, trivial⟩ rfl rfl ⟨Nat.zero_le _, by simp [All2]⟩ ?_
  rintro ⟨ov, k, acc⟩ ⟨hk, hacc⟩
  dsimp only at hk hacc ⊢
  have hal := hacc.length
  have hal2 := foldl_add_length ((canonC l).take k) []
  simp only [List.length_take, List.length_nil] at hal2
  refine SC.seq (SC.seq (SC.region (SL.M rfl (SL.M rfl (SL.U (SU.lenN underlying25 rfl) (SL.U (SU.lss rfl rfl) (SL.nil (ST.thenN ?_))))))))
  refine SC.ifP rfl (fun hlt => ?_) (fun hlt => ?_)
  · have hkr : k < rs.length := by omega
    have hkl : k < (canonC l).length := by omega
    have hb1 := hrs.based (by omega)
    have hcr := hall.get (List.getElem?_eq_getElem hkl) (List.getElem?_eq_getElem hkr)
    have htake : ((canonC l).take (k + 1)).foldl addC [] = addC (((canonC l).take k).foldl addC []) (canonC l)[k] := by
      rw [List.take_succ_eq_append_getElem hkl, List.foldl_append]; rfl
    have hgx : rs[((k : Nat) : Int).toNat]? = some rs[k] := List.getElem?_eq_getElem hkr
    have hnew : addC (((canonC l).take k).foldl addC []) (canonC l)[k] = ((canonC l).take k).foldl addC [] ++ [(canonC l)[k]] → All2 (CellR g1) (((canonC l).take (k + 1)).foldl addC []) (acc ++ [rs[k]]) := fun h => by
      rw [htake, h]; exact hacc.append ⟨hcr, trivial⟩
    by_cases hk0 : k = 0
    · subst hk0
      refine SC.skip (ST.thenN (SC.seq (SC.block (SC.seq ?_))))
      refine SC.draw [] [(0, 2), (1, 2), (2, 2), (3, 2), (4, 2), (5, 2), (6, 2), (7, 1), (8, 2), (9, 2), (10, 2), (11, 2), (12, 2), (13, 1), (14, 2), (15, 2)] Tryz.mixed (by kernel_rfl) ?_
      refine SP.U (i := 0) rfl (SU.move rfl) (SP.U (i := 1) rfl (SU.eq (v' := vb true) (SU.eql rfl rfl) rfl) (SP.U (i := 2) rfl (SU.move rfl) (SP.off (i := 3) rfl (Gd.onF rfl rfl rfl (by decide)) (by decide) (SP.off (i := 4) rfl (Gd.onF rfl rfl rfl (by decide)) (by decide) (SP.off (i := 5) rfl (Gd.onF rfl rfl rfl (by decide)) (by decide) (SP.off (i := 6) rfl (Gd.onF rfl rfl rfl (by decide)) (by decide) (SP.off1 (i := 7) rfl (Gd.onF rfl rfl rfl (by decide)) (by decide) (SP.off (i := 8) rfl (Gd.onF rfl rfl rfl (by decide)) (by decide) (SP.off (i := 9) rfl (Gd.onF rfl rfl rfl (by decide)) (by decide) (SP.off (i := 10) rfl (Gd.onF rfl rfl rfl (by decide)) (by decide) (SP.off (i := 11) rfl (Gd.onF rfl rfl rfl (by decide)) (by decide) (SP.off (i := 12) rfl (Gd.onF rfl rfl rfl (by decide)) (by decide) (SP.off1 (i := 13) rfl (Gd.onF rfl rfl rfl (by decide)) (by decide) (SP.off (i := 14) rfl (Gd.onF rfl rfl rfl (by decide)) (by decide) (SP.U (i := 15) rfl (SU.pickT rfl rfl) (SP.nil (ST.thenN (SC.condT rfl (SC.region (SL.M rfl (SL.M rfl (SL.M rfl (SL.U (SU.indexAddr underlying25 sizeOf51 rfl rfl hb1 (by omega) (by simp only [slen]; omega)) (SL.K (SQ.elemA isAgg51 sizeOf51 rfl hrs.rd hgx) (SL.W (SO.buildSlice sty25 rfl rfl rfl (szs_mk (by exact ⟨rfl, trivial⟩)) (by decide)) ?_)))))))))))))))))))))))))
      rintro _ _ _ ⟨b36, rfl, rfl, rfl⟩
      refine SL.W (SO.app1A (e := encCell) 0 rs[0] sty25 rfl rfl rfl rfl rfl (by omega) (by omega)) ?_
      rintro v37 _ _ ⟨rfl, rfl⟩
      refine SL.A rfl (SL.nil (ST.blockN (ST.thenN (SC.region (SL.M rfl (SL.U (SU.add rfl rfl (by omega)) (SL.A rfl (SL.nil ?_))))))))
      exact ST.again (v37, 0 + 1, acc ++ [rs[0]]) ⟨rfl, rfl, rfl, trivial⟩ rfl rfl ⟨by (first | with_reducible rfl | ((try dsimp only); (try simp only [List.length_append, List.length_cons, List.length_nil, List.length_singleton, List.length_take, List.length_drop]) <;> omega)), hnew (addC_new (by simp))⟩ (by (first | with_reducible rfl | ((try dsimp only); (try simp only [List.length_append, List.length_cons, List.length_nil, List.length_singleton, List.length_take, List.length_drop]) <;> omega)))
    · have hk1 : k - 1 < rs.length := by omega
      have hk1l : k - 1 < (canonC l).length := by omega
      have hany := srt_any hsrt (by omega : 0 < k) hkl
      have hcr1 := hall.get (List.getElem?_eq_getElem hk1l) (List.getElem?_eq_getElem hk1)
      have hgy : rs[((k : Int) - 1).toNat]? = some rs[k - 1] := by rw [show ((k : Int) - 1).toNat = k - 1 by omega]; exact List.getElem?_eq_getElem hk1
      refine SC.skip (ST.thenN (SC.seq (SC.block (SC.seq ?_))))
      refine SC.draw [] [(0, 2), (1, 2), (2, 2), (3, 2), (4, 2), (5, 2), (6, 2), (7, 1), (8, 2), (9, 2), (10, 2), (11, 2), (12, 2), (13, 1), (14, 2), (15, 2)] Tryz.mixed (by kernel_rfl) ?_
      refine SP.U (i := 0) rfl (SU.move rfl) (SP.U (i := 1) rfl (SU.eq (v' := vb false) (SU.eql rfl rfl) (congrArg vb (decide_eq_false (by omega)))) (SP.U (i := 2) rfl (SU.move rfl) (SP.gu (i := 3) rfl (Gd.onT rfl rfl rfl (by decide)) (SU.move rfl) (by decide) (SP.gu (i := 4) rfl (Gd.onT rfl rfl rfl (by decide)) (SU.move rfl) (by decide) (SP.gu (i := 5) rfl (Gd.onT rfl rfl rfl (by decide)) (SU.indexAddr underlying25 sizeOf51 rfl rfl hb1 (by omega) (by simp only [slen]; omega)) (by decide) (SP.gu (i := 6) rfl (Gd.onT rfl rfl rfl (by decide)) (SU.fieldAddrC underlying51 rfl sizeOf3 rfl hb1) (by decide) (SP.gq (i := 7) rfl (Gd.onT rfl rfl rfl (by decide)) (SQ.partA (e := encCell) (o := 0) (u := vi rs[k].id) isAgg3 rfl hrs.rd hgx rfl) (by decide) (SP.gu (i := 8) rfl (Gd.onT rfl rfl rfl (by decide)) (SU.move rfl) (by decide) (SP.gu (i := 9) rfl (Gd.onT rfl rfl rfl (by decide)) (SU.move rfl) (by decide) (SP.gu (i := 10) rfl (Gd.onT rfl rfl rfl (by decide)) (SU.sub rfl rfl (by omega)) (by decide) (SP.gu (i := 11) rfl (Gd.onT rfl rfl rfl (by decide)) (SU.indexAddr underlying25 sizeOf51 rfl rfl hb1 (by omega) (by simp only [slen]; omega)) (by decide) (SP.gu (i := 12) rfl (Gd.onT rfl rfl rfl (by decide)) (SU.fieldAddrC underlying51 rfl sizeOf3 rfl hb1) (by decide) (SP.gq (i := 13) rfl (Gd.onT rfl rfl rfl (by decide)) (SQ.partA (e := encCell) (o := 0) (u := vi rs[k - 1].id) isAgg3 rfl hrs.rd hgy rfl) (by decide) (SP.gu (i := 14) rfl (Gd.onT rfl rfl rfl (by decide)) (SU.neq rfl rfl) (by decide) (SP.U (i := 15) rfl (SU.pickF rfl rfl) (SP.nil (ST.thenN ?_)))))))))))))))))
      refine SC.ifP rfl (fun hne => ?_) (fun hne => ?_)
      · skip
        refine SC.region (SL.M rfl (SL.M rfl (SL.M rfl (SL.U (SU.indexAddr underlying25 sizeOf51 rfl rfl hb1 (by omega) (by simp only [slen]; omega)) (SL.K (SQ.elemA isAgg51 sizeOf51 rfl hrs.rd hgx) (SL.W (SO.buildSlice sty25 rfl rfl rfl (szs_mk (by exact ⟨rfl, trivial⟩)) (by decide)) ?_))))))
        rintro _ _ _ ⟨b36, rfl, rfl, rfl⟩
        refine SL.W (SO.app1A (e := encCell) 0 rs[k] sty25 rfl rfl rfl rfl rfl (by omega) (by omega)) ?_
        rintro v37 _ _ ⟨rfl, rfl⟩
        refine SL.A rfl (SL.nil (ST.blockN (ST.thenN (SC.region (SL.M rfl (SL.U (SU.add rfl rfl (by omega)) (SL.A rfl (SL.nil ?_))))))))
        rw [hcr.1, hcr1.1] at hne
        exact ST.again (v37, k + 1, acc ++ [rs[k]]) ⟨rfl, rfl, rfl, trivial⟩ rfl rfl ⟨by (first | with_reducible rfl | ((try dsimp only); (try simp only [List.length_append, List.length_cons, List.length_nil, List.length_singleton, List.length_take, List.length_drop]) <;> omega)), hnew (addC_new (by rw [hany]; exact decide_eq_false hne))⟩ (by (first | with_reducible rfl | ((try dsimp only); (try simp only [List.length_append, List.length_cons, List.length_nil, List.length_singleton, List.length_take, List.length_drop]) <;> omega)))
      · skip
        refine SC.skip (ST.blockN (ST.thenN (SC.region (SL.M rfl (SL.U (SU.add rfl rfl (by omega)) (SL.A rfl (SL.nil ?_)))))))
        rw [hcr.1, hcr1.1] at hne
        exact ST.again (ov, k + 1, acc) ⟨rfl, rfl, rfl, trivial⟩ rfl rfl ⟨by (first | with_reducible rfl | ((try dsimp only); (try simp only [List.length_append, List.length_cons, List.length_nil, List.length_singleton, List.length_take, List.length_drop]) <;> omega)), by dsimp only; rw [htake, addC_old (by rw [hany]; exact decide_eq_true (Decidable.of_not_not hne))]; exact hacc⟩ (by (first | with_reducible rfl | ((try dsimp only); (try simp only [List.length_append, List.length_cons, List.length_nil, List.length_singleton, List.length_take, List.length_drop]) <;> omega)))
  · have hkk : (canonC l).take k = canonC l := List.take_of_length_le (by omega)
    rw [hkk] at hacc
    refine SC.exit (ST.thenX (ST.thenX (ST.blockX (ST.thenN (SC.seq (SC.region (SL.M rfl (SL.A rfl (SL.nil (ST.thenN (SC.ret (ST.freezeRow fun g2 hle2 hs2 => ?_))))))))))))
    refine ST.drop (s' := s) (.cons _ (.refl _)) ?_
    exact ST.ret1 (.inl rfl) results61 rfl ⟨rfl, hle.trans hle2, acc, hs2, hacc.mono fun _ _ => CellR.mono hle2⟩
def atC (l : List Cl) (id : Int) : Int := if (l.map Cl.id).contains id then lbI (l.map Cl.id) id else -1
theorem at_spec (E : World) (g : PH) (s : Own) (v : Value) (l : List Cl) (id : Int) (hv : Cells g v l) (hl : l.length < 1099511627776) (hs : (l.map Cl.id).Pairwise (· ≤ ·)) :
    Ctr Tryz.prog E 62 #[v, vi id] g s (fun r g' s' => r = vi (atC l id) ∧ g = g' ∧ s = s') := by
  obtain ⟨rs, hrs, hall⟩ := hv
  have hrl := hall.length
  obtain ⟨p, c, rfl⟩ := hrs.form
  have hids := all2_ids hall
  have hml : (l.map Cl.id).length = l.length := by simp
  have hri : ∀ k (h : k < (l.map Cl.id).length) (h2 : k < rs.length), (l.map Cl.id)[k] = rs[k].id := fun k h h2 => by simp only [hids]; simp
  unfold atC
  refine Ctr.of (args := [.slice p rs.length c, vi id]) func62 rfl ntmps62 (Nat.le_of_ble_eq_true rfl) ?_
  refine SC.seq (SC.region (SL.A rfl (SL.nil (ST.thenN (SC.seq (SC.region (SL.A rfl (SL.nil (ST.thenN (SC.seq (SC.region (SL.M rfl (SL.U (SU.lenN underlying25 rfl) (SL.A rfl (SL.nil (ST.thenN ?_))))))))))))))))
  generalize l.map Cl.id = L at *
  refine SC.cut (ι := Nat) (fun i => [(0, .slice p rs.length c), (1, vi id), (5, vi i)]) (fun _ => g) (fun _ => s) (fun i => i ≤ L.length ∧ (∀ k (h : k < L.length), k < i → L[k] < id) ∧ ∀ k (h : k < L.length), i ≤ k → id ≤ L[k]) ?_ ?_
  · skip
    refine SC.block ?_
    refine SC.loop (ι := Nat × Nat) (fun q => [(0, .slice p rs.length c), (1, vi id), (5, vi q.1), (6, vi q.2)]) (fun _ => g) (fun _ => s)
      (fun q => q.1 ≤ q.2 ∧ q.2 ≤ L.length ∧ (∀ k (h : k < L.length), k < q.1 → L[k] < id) ∧ ∀ k (h : k < L.length), q.2 ≤ k → id ≤ L[k]) (fun q => q.2 - q.1) (0, L.length)
      ⟨rfl, rfl, rfl, vi_eq (by omega), trivial⟩ rfl rfl ⟨Nat.zero_le _, Nat.le_refl _, fun k _ h => absurd h (by omega), fun k h1 h2 => absurd h1 (by dsimp only at h2; omega)⟩ ?_
    rintro ⟨i, j⟩ ⟨hij, hj, hlo, hhi⟩
    dsimp only at hij hj hlo hhi ⊢
    refine SC.seq (SC.seq (SC.region (SL.M rfl (SL.M rfl (SL.U (SU.lss rfl rfl) (SL.nil (ST.thenN ?_)))))))
    refine SC.ifP rfl (fun hlt => ?_) (fun hlt => ?_)
    · have hb1 := hrs.based (by omega)
      have hml2 : (i + j) / 2 < L.length := by omega
      have hmr : (i + j) / 2 < rs.length := by omega
      have hmx : rs[((((i + j) / 2 : Nat) : Int)).toNat]? = some rs[(i + j) / 2] := List.getElem?_eq_getElem hmr
      have hmi := hri _ hml2 hmr
      refine SC.skip (ST.thenN (SC.block (SC.seq (SC.region (SL.M rfl (SL.M rfl (SL.U (SU.add rfl rfl (by omega)) (SL.U (SU.eq (v' := vi (((i + j) / 2 : Nat) : Int)) (SU.quo rfl rfl (by decide)) (congrArg vi (by rw [← Int.natCast_add]; exact half_tdiv _ (by omega)))) ?_))))))))
      refine SL.A rfl (SL.nil (ST.thenN (SC.seq (SC.region (SL.M rfl (SL.M rfl (SL.U (SU.indexAddr underlying25 sizeOf51 rfl rfl hb1 (by omega) (by simp only [slen]; omega)) (SL.U (SU.fieldAddrC underlying51 rfl sizeOf3 rfl hb1) (SL.K (SQ.partA (e := encCell) (o := 0) (u := vi rs[(i + j) / 2].id) isAgg3 rfl hrs.rd hmx rfl) (SL.M rfl (SL.U (SU.lss rfl rfl) (SL.nil (ST.thenN ?_)))))))))))))
      refine SC.ifP rfl (fun hc => ?_) (fun hc => ?_)
      · skip
        refine SC.region (SL.M rfl (SL.U (SU.add rfl rfl (by omega)) (SL.A rfl (SL.nil (ST.blockN ?_)))))
        refine ST.again ((i + j) / 2 + 1, j) ⟨rfl, rfl, rfl, rfl, trivial⟩ rfl rfl ⟨by (first | with_reducible rfl | ((try dsimp only); (try simp only [List.length_append, List.length_cons, List.length_nil, List.length_singleton, List.length_take, List.length_drop]) <;> omega)), hj, fun k hk h => ?_, hhi⟩ (by (first | with_reducible rfl | ((try dsimp only); (try simp only [List.length_append, List.length_cons, List.length_nil, List.length_singleton, List.length_take, List.length_drop]) <;> omega)))
        dsimp only at h
        rw [← hmi] at hc
        rcases Nat.eq_or_lt_of_le (show k ≤ (i + j) / 2 by omega) with rfl | h'
        · exact hc
        · have := List.pairwise_iff_getElem.1 hs k ((i + j) / 2) hk hml2 h'
          omega
      · skip
        refine SC.region (SL.M rfl (SL.A rfl (SL.nil (ST.blockN ?_))))
        refine ST.again (i, (i + j) / 2) ⟨rfl, rfl, rfl, rfl, trivial⟩ rfl rfl ⟨by (first | with_reducible rfl | ((try dsimp only); (try simp only [List.length_append, List.length_cons, List.length_nil, List.length_singleton, List.length_take, List.length_drop]) <;> omega)), by (first | with_reducible rfl | ((try dsimp only); (try simp only [List.length_append, List.length_cons, List.length_nil, List.length_singleton, List.length_take, List.length_drop]) <;> omega)), hlo, fun k hk h => ?_⟩ (by (first | with_reducible rfl | ((try dsimp only); (try simp only [List.length_append, List.length_cons, List.length_nil, List.length_singleton, List.length_take, List.length_drop]) <;> omega)))
        dsimp only at h
        rw [← hmi] at hc
        rcases Nat.eq_or_lt_of_le (show (i + j) / 2 ≤ k by omega) with h' | h'
        · subst h'; omega
        · have := List.pairwise_iff_getElem.1 hs ((i + j) / 2) k hml2 hk h'
          omega
    · have hie : i = j := by omega
      subst hie
      refine SC.exit (ST.thenX (ST.thenX (ST.blockX ?_)))
      exact ST.mid i ⟨rfl, rfl, rfl, trivial⟩ rfl rfl ⟨hj, hlo, hhi⟩
  · rintro i ⟨hj, hlo, hhi⟩
    have hlb := lb_eq hj hlo hhi
    by_cases hin : (i : Int) < (rs.length : Int)
    · have hir : i < rs.length := by omega
      have hil : i < L.length := by omega
      have hb1 := hrs.based (by omega)
      have hmx : rs[((i : Nat) : Int).toNat]? = some rs[i] := List.getElem?_eq_getElem hir
      have hmi := hri _ hil hir
      have hfnd := found_eq hs hlo hhi hil
      refine SC.seq (SC.seq (SC.region (SL.M rfl (SL.M rfl (SL.U (SU.lenN underlying25 rfl) (SL.U (SU.eq (v' := vb true) (SU.lss rfl rfl) (congrArg vb (decide_eq_true hin))) (SL.M rfl (SL.Y rfl rfl rfl (SU.move rfl) (SL.Y rfl rfl rfl (SU.move rfl) (SL.Y rfl rfl rfl (SU.indexAddr underlying25 sizeOf51 rfl rfl hb1 (by omega) (by simp only [slen]; omega)) (SL.Y rfl rfl rfl (SU.fieldAddrC underlying51 rfl sizeOf3 rfl hb1) (SL.gq (Gd.onT rfl rfl rfl (by decide)) (SQ.partA (e := encCell) (o := 0) (u := vi rs[i].id) isAgg3 rfl hrs.rd hmx rfl) (by decide) (SL.Y rfl rfl rfl (SU.move rfl) (SL.Y rfl rfl rfl (SU.eql rfl rfl) (SL.U (SU.pickT rfl rfl) (SL.nil (ST.thenN ?_)))))))))))))))))
      refine SC.ifP rfl (fun hc => ?_) (fun hc => ?_)
      · skip
        refine SC.seq (SC.region (SL.M rfl (SL.A rfl (SL.nil (ST.thenN (SC.ret (ST.thenR ?_)))))))
        rw [← hmi] at hc
        exact ST.ret1 (.inl rfl) results62 rfl ⟨by rw [← hfnd, decide_eq_true hc, if_pos rfl, hlb], rfl, rfl⟩
      · skip
        refine SC.skip (ST.thenN (SC.seq (SC.region (SL.A rfl (SL.nil (ST.thenN (SC.ret ?_)))))))
        rw [← hmi] at hc
        exact ST.ret1 (.inl rfl) results62 rfl ⟨by rw [← hfnd, decide_eq_false hc]; rfl, rfl, rfl⟩
    · have hnf := notFound hlo (by omega)
      refine SC.seq (SC.seq (SC.region (SL.M rfl (SL.M rfl (SL.U (SU.lenN underlying25 rfl) (SL.U (SU.eq (v' := vb false) (SU.lss rfl rfl) (congrArg vb (decide_eq_false hin))) (SL.M rfl (SL.Z rfl rfl rfl (SL.Z rfl rfl rfl (SL.Z rfl rfl rfl (SL.Z rfl rfl rfl (SL.Z rfl rfl rfl (SL.Z rfl rfl rfl (SL.Z rfl rfl rfl (SL.U (SU.pickF rfl rfl) (SL.nil (ST.thenN (SC.condF rfl (SC.skip (ST.thenN (SC.seq (SC.region (SL.A rfl (SL.nil (ST.thenN (SC.ret ?_))))))))))))))))))))))))))
      exact ST.ret1 (.inl rfl) results62 rfl ⟨by rw [hnf]; rfl, rfl, rfl⟩
end Go.Proofs.YtkdibcicncjpdaaGreat
