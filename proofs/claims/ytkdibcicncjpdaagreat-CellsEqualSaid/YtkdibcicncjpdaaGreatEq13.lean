/- Ref4 Set1 Set2 -/
import Derived.Test.YtkdibcicncjpdaaGreatEq12
set_option linter.unusedSimpArgs false
set_option linter.unusedVariables false
namespace Go.Proofs.YtkdibcicncjpdaaGreat
open _root_.Go.Proofs.Tryz _root_.Go.Proofs.YtkdibcicncjpdaaGreat.Tryz
open Go Go.Sy Go.Pl Go.Proofs
set_option maxRecDepth 100000
theorem form_found {tl : List Cl} {c : Cl} (h : formC tl c = 0) : ∀ x ∈ c.sides, (findT tl x.cell).isSome = true := by
  intro x hx
  unfold formC at h
  split at h
  · cases h
  split at h
  · cases h
  split at h
  · cases h
  rename_i hno
  have hno' : (List.range c.sides.length).any (badAt tl c) = false := by simpa using hno
  obtain ⟨k, hk, rfl⟩ := List.getElem_of_mem hx
  have h1 := List.any_eq_false.1 hno' k (List.mem_range.2 hk)
  cases hf : (findT tl c.sides[k].cell).isSome with
  | true => rfl
  | false =>
    exfalso
    apply h1
    unfold badAt
    rw [List.getElem?_eq_getElem hk]
    exact badSide_a (by rw [hf]; simp)
theorem chk1_strict {tl : List Cl} : ∀ {L : List Cl} {last : Int}, chk1 tl L last = none → (∀ x ∈ L, last < x.id) ∧ L.Pairwise fun a b => a.id < b.id
  | [], _, _ => ⟨by simp, List.Pairwise.nil⟩
  | x :: r, last, h => by
    unfold chk1 at h
    split at h
    · cases h
    · rename_i h1
      split at h
      · cases h
      · obtain ⟨h2, h3⟩ := chk1_strict h
        refine ⟨fun y hy => ?_, List.pairwise_cons.2 ⟨h2, h3⟩⟩
        rcases List.mem_cons.1 hy with rfl | hy
        · omega
        · have := h2 y hy; omega
theorem foldl_strict : ∀ {L acc : List Cl}, (acc ++ L).Pairwise (fun a b => a.id < b.id) → L.foldl addC acc = acc ++ L
  | [], acc, _ => by simp
  | x :: r, acc, h => by
    have h1 : acc.any (fun y => y.id == x.id) = false := by
      rw [List.any_eq_false]
      intro y hy
      have := (List.pairwise_append.1 h).2.2 y hy x (by simp)
      simp
      omega
    rw [List.foldl_cons, addC_new h1, foldl_strict (by simpa using h)]
    simp
theorem tabC_strict {l : List Cl} (h : (canonC l).Pairwise fun a b => a.id < b.id) : tabC l = canonC l := by
  unfold tabC
  rw [foldl_strict (by simpa using h)]
  rfl
def chkR2 (tl : List Cl) : List Cl → Option (Int × Int)
  | [] => none
  | x :: r => if x.dim > 1 ∧ secondC tl x ≠ 0 then some (x.id, secondC tl x) else chkR2 tl r
def refCheckC (l : List Cl) : Int × Int := if (l.length : Int) > 4000 then (0, 2) else (chk1 (tabC l) (canonC l) 0).getD ((chkR2 (canonC l) (canonC l)).getD (0, 0))
def lastOf (L : List Cl) (i : Nat) : Int := if i = 0 then 0 else (L.getD (i - 1) zeroC).id
theorem lastOf_succ {L : List Cl} {i : Nat} (h : i < L.length) : lastOf L (i + 1) = L[i].id := by
  unfold lastOf
  rw [if_neg (by omega)]
  simp [h]
theorem refCheck_spec (E : World) (g : PH) (s : Own) (v : Value) (l : List Cl) (hv : Cells g v l) (hf : Fits l) :
    Ctr Tryz.prog E 96 #[.agg #[v]] g s (fun r g' s' => r = .tuple #[vi (refCheckC l).1, vi (refCheckC l).2] ∧ s = s' ∧ Le g g') := by
  obtain ⟨p, c, rfl⟩ := hv.form
  have hsrt := canonC_srt l
  have hcl := canonC_length l
  have hfc := canonC_fits hf
  have hft := tabC_fits hf
  have hts := tabC_sorted l
  have hcs := canonC_sorted l
  refine Ctr.of (args := [.agg #[.slice p l.length c]]) func96 rfl ntmps96 (Nat.le_of_ble_eq_true rfl) ?_
  refine SC.seq (SC.region (SL.W (SO.box rfl) ?_))
  rintro _ _ _ ⟨b1, rfl, rfl, rfl⟩
  refine SL.A rfl (SL.A rfl (SL.nil (ST.thenN (SC.seq (SC.seq (SC.region (SL.U (SU.fieldAddr underlying27 rfl sizeOf25 rfl) (SL.K (SQ.load isAgg25 rfl (CellAt.own 0 rfl rfl)) (SL.U (SU.lenN underlying25 rfl) (SL.U (SU.gtr rfl rfl) (SL.nil (ST.thenN ?_))))))))))))
  refine SC.ifP rfl (fun hmany => ?_) (fun hmany => ?_)
  · skip
    refine SC.seq (SC.region (SL.A rfl (SL.A rfl (SL.nil (ST.thenN (SC.ret (ST.thenR (ST.drop (s' := s) (.cons _ (.refl _)) ?_))))))))
    exact ST.ret2 (.inl rfl) results96 rfl rfl ⟨by unfold refCheckC; rw [if_pos (by omega)], rfl, Le.refl g⟩
  · skip
    refine SC.skip (ST.thenN (SC.seq (SC.region (SL.U (SU.fieldAddr underlying27 rfl sizeOf25 rfl) (SL.K (SQ.load isAgg25 rfl (CellAt.own 0 rfl rfl)) (SL.W (SO.call call97 rfl (ordered_spec E l.length g _ _ l (Nat.le_refl _) hv hf)) ?_))))))
    rintro v16 g1 _ ⟨rfl, hle1, hL⟩
    obtain ⟨rs, hrs, hall⟩ := hL
    have hrl := hall.length
    obtain ⟨q, d, rfl⟩ := hrs.form
    refine SL.A rfl (SL.nil (ST.thenN (SC.seq (SC.region (SL.K (SQ.loadVarK 0 isAgg27 sizeOf27 rfl rfl rfl) (SL.W (SO.call call61 rfl (refCells_spec E g1 _ _ l (hv.mono hle1) hf)) ?_))))))
    rintro v18 g2 _ ⟨rfl, hle2, hO⟩
    have hrs2 := hrs.mono hle2
    have hall2 := hall.mono fun _ _ => CellR.mono hle2
    obtain ⟨q2, d2, rfl⟩ := hO.form
    refine SL.A rfl (SL.nil (ST.thenN (SC.seq (SC.seq (SC.region (SL.A rfl (SL.nil (ST.thenN (SC.block ?_)))))))))
    have hLc : Cells g2 (.slice q rs.length d) (canonC l) := ⟨rs, hrs2, hall2⟩
    have hchk : refCheckC l = (chk1 (tabC l) (canonC l) 0).getD ((chkR2 (canonC l) (canonC l)).getD (0, 0)) := by unfold refCheckC; rw [if_neg (by omega)]
    refine SC.loop (ι := Nat) (fun i => [(1, pp b1 0), (4, .slice q rs.length d), (5, .slice q2 (tabC l).length d2), (6, vi i)]) (fun _ => g2) (fun _ => pt b1 (.cells #[.slice p l.length c] 27 (0, 0)) :: s)
      (fun i => i ≤ rs.length ∧ chk1 (tabC l) (canonC l) 0 = chk1 (tabC l) ((canonC l).drop i) (lastOf (canonC l) i) ∧ (0 < i → 1 ≤ lastOf (canonC l) i)) (fun i => rs.length - i) 0
      ⟨rfl, rfl, rfl, rfl, trivial⟩ rfl rfl ⟨Nat.zero_le _, rfl, fun h => absurd h (by omega)⟩ ?_
    rintro i ⟨hi, hc1, hl1⟩
    refine SC.seq (SC.seq (SC.region (SL.M rfl (SL.M rfl (SL.U (SU.lenN underlying25 rfl) (SL.U (SU.lss rfl rfl) (SL.nil (ST.thenN ?_))))))))
    refine SC.ifP rfl (fun hlt => ?_) (fun hlt => ?_)
    · have hil : i < (canonC l).length := by omega
      have hir : i < rs.length := by omega
      have hb1 := hrs2.based (by omega)
      have hcr := hall2.get (List.getElem?_eq_getElem hil) (List.getElem?_eq_getElem hir)
      have hgx : rs[((i : Nat) : Int).toNat]? = some rs[i] := List.getElem?_eq_getElem hir
      have hdrop : (canonC l).drop i = (canonC l)[i] :: (canonC l).drop (i + 1) := List.drop_eq_getElem_cons hil
      have hxl := hfc.2 _ (List.getElem_mem hil)
      have hls := lastOf_succ hil
      rw [hdrop] at hc1
      have hprev : 0 < i → ∃ (r : Rc), rs[((i : Int) - 1).toNat]? = some r ∧ r.id = lastOf (canonC l) i ∧ lastOf (canonC l) i ≤ (canonC l)[i].id := fun h => by
        have h2 : i - 1 < rs.length := by omega
        have h3 : i - 1 < (canonC l).length := by omega
        refine ⟨rs[i - 1], by rw [show ((i : Int) - 1).toNat = i - 1 by omega]; exact List.getElem?_eq_getElem h2, ?_, ?_⟩
        · have := (hall2.get (List.getElem?_eq_getElem h3) (List.getElem?_eq_getElem h2)).1
          rw [this]
          unfold lastOf
          rw [if_neg (by omega)]
          simp [h3]
        · have := List.pairwise_iff_getElem.1 hsrt (i - 1) i h3 hil (by omega)
          unfold lastOf
          rw [if_neg (by omega)]
          simpa [h3] using this
      generalize (canonC l)[i] = x at *
      generalize rs[i] = rx at *
      obtain ⟨hx1, hx2, hx3⟩ := hcr
      have hcr : CellR g2 x rx := ⟨hx1, hx2, hx3⟩
      have hbad : x.id ≤ lastOf (canonC l) i → refCheckC l = (x.id, 20) := fun h => by rw [hchk, hc1, chk1, if_pos h]; rfl
      by_cases hx0 : x.id < 1
      · have hle0 : x.id ≤ lastOf (canonC l) i := by
          by_cases h0 : 0 < i
          · have := hl1 h0; omega
          · have : i = 0 := by omega
            subst this
            show x.id ≤ 0
            omega
        refine SC.skip (ST.thenN (SC.seq (SC.block (SC.seq (SC.seq ?_)))))
        refine SC.draw [] [(0, 2), (1, 2), (2, 2), (3, 2), (4, 1), (5, 2), (6, 2), (7, 2), (8, 2), (9, 2), (10, 2), (11, 2), (12, 2), (13, 2), (14, 1), (15, 2), (16, 2), (17, 2), (18, 2), (19, 2), (20, 1), (21, 2), (22, 2), (23, 2)] Tryz.mixed (by kernel_rfl) ?_
        refine SP.U (i := 0) rfl (SU.move rfl) (SP.U (i := 1) rfl (SU.move rfl) (SP.U (i := 2) rfl (SU.indexAddr underlying25 sizeOf51 rfl rfl hb1 (by omega) (by simp only [slen]; omega)) (SP.U (i := 3) rfl (SU.fieldAddrC underlying51 rfl sizeOf3 rfl hb1) (SP.K (i := 4) rfl (SQ.partA (e := encCell) (o := 0) (u := vi x.id) isAgg3 rfl hrs2.rd hgx (by rw [← hx1]; rfl)) ?_))))
        refine SP.U (i := 5) rfl (SU.eq (v' := vb true) (SU.lss rfl rfl) (congrArg vb (decide_eq_true hx0))) (SP.U (i := 6) rfl (SU.move rfl) (SP.off (i := 7) rfl (Gd.onF rfl rfl rfl (by decide)) (by decide) (SP.off (i := 8) rfl (Gd.onF rfl rfl rfl (by decide)) (by decide) (SP.off (i := 9) rfl (Gd.onF rfl rfl rfl (by decide)) (by decide) (SP.off (i := 10) rfl (Gd.off rfl rfl rfl (by decide)) (by decide) (SP.off (i := 11) rfl (Gd.off rfl rfl rfl (by decide)) (by decide) (SP.off (i := 12) rfl (Gd.off rfl rfl rfl (by decide)) (by decide) (SP.off (i := 13) rfl (Gd.off rfl rfl rfl (by decide)) (by decide) (SP.off1 (i := 14) rfl (Gd.off rfl rfl rfl (by decide)) (by decide) (SP.off (i := 15) rfl (Gd.off rfl rfl rfl (by decide)) (by decide) (SP.off (i := 16) rfl (Gd.off rfl rfl rfl (by decide)) (by decide) (SP.off (i := 17) rfl (Gd.off rfl rfl rfl (by decide)) (by decide) (SP.off (i := 18) rfl (Gd.off rfl rfl rfl (by decide)) (by decide) (SP.off (i := 19) rfl (Gd.off rfl rfl rfl (by decide)) (by decide) (SP.off1 (i := 20) rfl (Gd.off rfl rfl rfl (by decide)) (by decide) (SP.off (i := 21) rfl (Gd.off rfl rfl rfl (by decide)) (by decide) (SP.off (i := 22) rfl (Gd.onF rfl rfl rfl (by decide)) (by decide) (SP.U (i := 23) rfl (SU.pickT rfl rfl) (SP.nil (ST.thenN (SC.condT rfl (SC.seq (SC.region (SL.M rfl (SL.M rfl (SL.U (SU.indexAddr underlying25 sizeOf51 rfl rfl hb1 (by omega) (by simp only [slen]; omega)) (SL.U (SU.fieldAddrC underlying51 rfl sizeOf3 rfl hb1) (SL.K (SQ.partA (e := encCell) (o := 0) (u := vi x.id) isAgg3 rfl hrs2.rd hgx (by rw [← hx1]; rfl)) ?_))))))))))))))))))))))))))))
        refine SL.A rfl (SL.A rfl (SL.nil (ST.thenN (SC.ret (ST.thenR (ST.blockR (ST.thenR (ST.thenR (ST.blockR (ST.thenR (ST.drop (s' := s) (.cons _ (.refl _)) ?_)))))))))))
        exact ST.ret2 (.inl rfl) results96 rfl rfl ⟨by rw [hbad hle0], rfl, hle1.trans hle2⟩
      · skip
        have hgo : lastOf (canonC l) i < x.id → chk1 (tabC l) (canonC l) 0 = if formC (tabC l) x ≠ 0 then some (x.id, formC (tabC l) x) else chk1 (tabC l) ((canonC l).drop (i + 1)) (lastOf (canonC l) (i + 1)) := fun h => by
          rw [hc1, chk1, if_neg (by omega), hls]
        by_cases hi0 : (i : Int) > 0
        · obtain ⟨rp, hrp, hrpi, hrple⟩ := hprev (by omega)
          refine SC.skip (ST.thenN (SC.seq (SC.block (SC.seq (SC.seq ?_)))))
          refine SC.draw [] [(0, 2), (1, 2), (2, 2), (3, 2), (4, 1), (5, 2), (6, 2), (7, 2), (8, 2), (9, 2), (10, 2), (11, 2), (12, 2), (13, 2), (14, 1), (15, 2), (16, 2), (17, 2), (18, 2), (19, 2), (20, 1), (21, 2), (22, 2), (23, 2)] Tryz.mixed (by kernel_rfl) ?_
          refine SP.U (i := 0) rfl (SU.move rfl) (SP.U (i := 1) rfl (SU.move rfl) (SP.U (i := 2) rfl (SU.indexAddr underlying25 sizeOf51 rfl rfl hb1 (by omega) (by simp only [slen]; omega)) (SP.U (i := 3) rfl (SU.fieldAddrC underlying51 rfl sizeOf3 rfl hb1) (SP.K (i := 4) rfl (SQ.partA (e := encCell) (o := 0) (u := vi x.id) isAgg3 rfl hrs2.rd hgx (by rw [← hx1]; rfl)) ?_))))
          refine SP.U (i := 5) rfl (SU.eq (v' := vb false) (SU.lss rfl rfl) (congrArg vb (decide_eq_false hx0))) (SP.U (i := 6) rfl (SU.move rfl) (SP.gu (i := 7) rfl (Gd.onT rfl rfl rfl (by decide)) (SU.move rfl) (by decide) (SP.gu (i := 8) rfl (Gd.onT rfl rfl rfl (by decide)) (SU.eq (v' := vb true) (SU.gtr rfl rfl) (congrArg vb (decide_eq_true hi0))) (by decide) (SP.gu (i := 9) rfl (Gd.onT rfl rfl rfl (by decide)) (SU.move rfl) (by decide) (SP.gu (i := 10) rfl (Gd.onT rfl rfl rfl (by decide)) (SU.move rfl) (by decide) (SP.gu (i := 11) rfl (Gd.onT rfl rfl rfl (by decide)) (SU.move rfl) (by decide) (SP.gu (i := 12) rfl (Gd.onT rfl rfl rfl (by decide)) (SU.indexAddr underlying25 sizeOf51 rfl rfl hb1 (by omega) (by simp only [slen]; omega)) (by decide) (SP.gu (i := 13) rfl (Gd.onT rfl rfl rfl (by decide)) (SU.fieldAddrC underlying51 rfl sizeOf3 rfl hb1) (by decide) (SP.gq (i := 14) rfl (Gd.onT rfl rfl rfl (by decide)) (SQ.partA (e := encCell) (o := 0) (u := vi x.id) isAgg3 rfl hrs2.rd hgx (by rw [← hx1]; rfl)) (by decide) ?_)))))))))
          refine SP.gu (i := 15) rfl (Gd.onT rfl rfl rfl (by decide)) (SU.move rfl) (by decide) (SP.gu (i := 16) rfl (Gd.onT rfl rfl rfl (by decide)) (SU.move rfl) (by decide) (SP.gu (i := 17) rfl (Gd.onT rfl rfl rfl (by decide)) (SU.sub rfl rfl (by omega)) (by decide) (SP.gu (i := 18) rfl (Gd.onT rfl rfl rfl (by decide)) (SU.indexAddr underlying25 sizeOf51 rfl rfl hb1 (by omega) (by simp only [slen]; omega)) (by decide) (SP.gu (i := 19) rfl (Gd.onT rfl rfl rfl (by decide)) (SU.fieldAddrC underlying51 rfl sizeOf3 rfl hb1) (by decide) (SP.gq (i := 20) rfl (Gd.onT rfl rfl rfl (by decide)) (SQ.partA (e := encCell) (o := 0) (u := vi (lastOf (canonC l) i)) isAgg3 rfl hrs2.rd hrp (by rw [← hrpi]; rfl)) (by decide) ?_)))))
          refine SP.gu (i := 21) rfl (Gd.onT rfl rfl rfl (by decide)) (SU.eql rfl rfl) (by decide) (SP.gu (i := 22) rfl (Gd.onT rfl rfl rfl (by decide)) (SU.pickT rfl rfl) (by decide) (SP.U (i := 23) rfl (SU.pickF rfl rfl) (SP.nil (ST.thenN ?_))))
          refine SC.ifP rfl (fun heq => ?_) (fun heq => ?_)
          · skip
            refine SC.seq (SC.region (SL.M rfl (SL.M rfl (SL.U (SU.indexAddr underlying25 sizeOf51 rfl rfl hb1 (by omega) (by simp only [slen]; omega)) (SL.U (SU.fieldAddrC underlying51 rfl sizeOf3 rfl hb1) (SL.K (SQ.partA (e := encCell) (o := 0) (u := vi x.id) isAgg3 rfl hrs2.rd hgx (by rw [← hx1]; rfl)) ?_))))))
            refine SL.A rfl (SL.A rfl (SL.nil (ST.thenN (SC.ret (ST.thenR (ST.blockR (ST.thenR (ST.thenR (ST.blockR (ST.thenR (ST.drop (s' := s) (.cons _ (.refl _)) ?_)))))))))))
            exact ST.ret2 (.inl rfl) results96 rfl rfl ⟨by rw [hbad (by omega)], rfl, hle1.trans hle2⟩
          · skip
            refine SC.skip (ST.thenN (SC.seq (SC.region (SL.M rfl (SL.M rfl (SL.M rfl (SL.U (SU.indexAddr underlying25 sizeOf51 rfl rfl hb1 (by omega) (by simp only [slen]; omega)) (SL.K (SQ.elemA (e := encCell) isAgg51 sizeOf51 rfl hrs2.rd hgx) (SL.W (SO.call call131 rfl (first_spec E g2 _ _ (tabC l) x rx hO hft.1 hts hcr hxl)) ?_)))))))))
            rintro _ _ _ ⟨rfl, rfl, rfl⟩
            refine SL.A rfl (SL.nil (ST.thenN (SC.seq (SC.region (SL.M rfl (SL.U (SU.neq rfl rfl) (SL.nil (ST.thenN ?_))))))))
            have hg := hgo (by omega)
            refine SC.ifP rfl (fun he => ?_) (fun he => ?_)
            · rw [if_pos he] at hg
              refine SC.seq (SC.region (SL.M rfl (SL.M rfl (SL.U (SU.indexAddr underlying25 sizeOf51 rfl rfl hb1 (by omega) (by simp only [slen]; omega)) (SL.U (SU.fieldAddrC underlying51 rfl sizeOf3 rfl hb1) (SL.K (SQ.partA (e := encCell) (o := 0) (u := vi x.id) isAgg3 rfl hrs2.rd hgx (by rw [← hx1]; rfl)) ?_))))))
              refine SL.M rfl (SL.A rfl (SL.A rfl (SL.nil (ST.thenN (SC.ret (ST.blockR (ST.thenR (ST.thenR (ST.blockR (ST.thenR (ST.drop (s' := s) (.cons _ (.refl _)) ?_)))))))))))
              exact ST.ret2 (.inl rfl) results96 rfl rfl ⟨by rw [hchk, hg]; rfl, rfl, hle1.trans hle2⟩
            · rw [if_neg he] at hg
              refine SC.skip (ST.blockN (ST.thenN (SC.region (SL.M rfl (SL.U (SU.add rfl rfl (by omega)) (SL.A rfl (SL.nil ?_)))))))
              exact ST.again (i + 1) ⟨rfl, rfl, rfl, rfl, trivial⟩ rfl rfl ⟨by omega, hg, fun _ => by rw [hls]; omega⟩ (by omega)
        · have hi00 : i = 0 := by omega
          have hg := hgo (by rw [hi00]; show (0 : Int) < x.id; omega)
          refine SC.skip (ST.thenN (SC.seq (SC.block (SC.seq (SC.seq ?_)))))
          refine SC.draw [] [(0, 2), (1, 2), (2, 2), (3, 2), (4, 1), (5, 2), (6, 2), (7, 2), (8, 2), (9, 2), (10, 2), (11, 2), (12, 2), (13, 2), (14, 1), (15, 2), (16, 2), (17, 2), (18, 2), (19, 2), (20, 1), (21, 2), (22, 2), (23, 2)] Tryz.mixed (by kernel_rfl) ?_
          refine SP.U (i := 0) rfl (SU.move rfl) (SP.U (i := 1) rfl (SU.move rfl) (SP.U (i := 2) rfl (SU.indexAddr underlying25 sizeOf51 rfl rfl hb1 (by omega) (by simp only [slen]; omega)) (SP.U (i := 3) rfl (SU.fieldAddrC underlying51 rfl sizeOf3 rfl hb1) (SP.K (i := 4) rfl (SQ.partA (e := encCell) (o := 0) (u := vi x.id) isAgg3 rfl hrs2.rd hgx (by rw [← hx1]; rfl)) ?_))))
          refine SP.U (i := 5) rfl (SU.eq (v' := vb false) (SU.lss rfl rfl) (congrArg vb (decide_eq_false hx0))) (SP.U (i := 6) rfl (SU.move rfl) (SP.gu (i := 7) rfl (Gd.onT rfl rfl rfl (by decide)) (SU.move rfl) (by decide) (SP.gu (i := 8) rfl (Gd.onT rfl rfl rfl (by decide)) (SU.eq (v' := vb false) (SU.gtr rfl rfl) (congrArg vb (decide_eq_false hi0))) (by decide) (SP.gu (i := 9) rfl (Gd.onT rfl rfl rfl (by decide)) (SU.move rfl) (by decide) (SP.off (i := 10) rfl (Gd.onF rfl rfl rfl (by decide)) (by decide) (SP.off (i := 11) rfl (Gd.onF rfl rfl rfl (by decide)) (by decide) (SP.off (i := 12) rfl (Gd.onF rfl rfl rfl (by decide)) (by decide) (SP.off (i := 13) rfl (Gd.onF rfl rfl rfl (by decide)) (by decide) (SP.off1 (i := 14) rfl (Gd.onF rfl rfl rfl (by decide)) (by decide) (SP.off (i := 15) rfl (Gd.onF rfl rfl rfl (by decide)) (by decide) (SP.off (i := 16) rfl (Gd.onF rfl rfl rfl (by decide)) (by decide) (SP.off (i := 17) rfl (Gd.onF rfl rfl rfl (by decide)) (by decide) (SP.off (i := 18) rfl (Gd.onF rfl rfl rfl (by decide)) (by decide) (SP.off (i := 19) rfl (Gd.onF rfl rfl rfl (by decide)) (by decide) (SP.off1 (i := 20) rfl (Gd.onF rfl rfl rfl (by decide)) (by decide) (SP.off (i := 21) rfl (Gd.onF rfl rfl rfl (by decide)) (by decide) (SP.gu (i := 22) rfl (Gd.onT rfl rfl rfl (by decide)) (SU.pickF rfl rfl) (by decide) (SP.U (i := 23) rfl (SU.pickF rfl rfl) (SP.nil (ST.thenN (SC.condF rfl (SC.skip (ST.thenN (SC.seq (SC.region (SL.M rfl (SL.M rfl (SL.M rfl (SL.U (SU.indexAddr underlying25 sizeOf51 rfl rfl hb1 (by omega) (by simp only [slen]; omega)) ?_)))))))))))))))))))))))))))))
          refine SL.K (SQ.elemA (e := encCell) isAgg51 sizeOf51 rfl hrs2.rd hgx) (SL.W (SO.call call131 rfl (first_spec E g2 _ _ (tabC l) x rx hO hft.1 hts hcr hxl)) ?_)
          rintro _ _ _ ⟨rfl, rfl, rfl⟩
          refine SL.A rfl (SL.nil (ST.thenN (SC.seq (SC.region (SL.M rfl (SL.U (SU.neq rfl rfl) (SL.nil (ST.thenN ?_))))))))
          refine SC.ifP rfl (fun he => ?_) (fun he => ?_)
          · rw [if_pos he] at hg
            refine SC.seq (SC.region (SL.M rfl (SL.M rfl (SL.U (SU.indexAddr underlying25 sizeOf51 rfl rfl hb1 (by omega) (by simp only [slen]; omega)) (SL.U (SU.fieldAddrC underlying51 rfl sizeOf3 rfl hb1) (SL.K (SQ.partA (e := encCell) (o := 0) (u := vi x.id) isAgg3 rfl hrs2.rd hgx (by rw [← hx1]; rfl)) ?_))))))
            refine SL.M rfl (SL.A rfl (SL.A rfl (SL.nil (ST.thenN (SC.ret (ST.blockR (ST.thenR (ST.thenR (ST.blockR (ST.thenR (ST.drop (s' := s) (.cons _ (.refl _)) ?_)))))))))))
            exact ST.ret2 (.inl rfl) results96 rfl rfl ⟨by rw [hchk, hg]; rfl, rfl, hle1.trans hle2⟩
          · rw [if_neg he] at hg
            refine SC.skip (ST.blockN (ST.thenN (SC.region (SL.M rfl (SL.U (SU.add rfl rfl (by omega)) (SL.A rfl (SL.nil ?_)))))))
            exact ST.again (i + 1) ⟨rfl, rfl, rfl, rfl, trivial⟩ rfl rfl ⟨by omega, hg, fun _ => by rw [hls]; omega⟩ (by omega)
    · have hid : (canonC l).drop i = [] := List.drop_eq_nil_of_le (by omega)
      rw [hid] at hc1
      have hnone : chk1 (tabC l) (canonC l) 0 = none := hc1
      have hst := (chk1_strict hnone).2
      have htab := tabC_strict hst
      have hform := chk1_none hnone
      rw [hnone] at hchk
      have hchk2 : refCheckC l = (chkR2 (canonC l) (canonC l)).getD (0, 0) := hchk
      refine SC.exit (ST.thenX (ST.thenX (ST.blockX (ST.thenN (SC.seq (SC.seq (SC.region (SL.A rfl (SL.nil (ST.thenN (SC.block ?_)))))))))))
      refine SC.loop (ι := Nat) (fun i => [(1, pp b1 0), (4, .slice q rs.length d), (8, vi i)]) (fun _ => g2) (fun _ => pt b1 (.cells #[.slice p l.length c] 27 (0, 0)) :: s)
        (fun i => i ≤ rs.length ∧ chkR2 (canonC l) (canonC l) = chkR2 (canonC l) ((canonC l).drop i)) (fun i => rs.length - i) 0
        ⟨rfl, rfl, rfl, trivial⟩ rfl rfl ⟨Nat.zero_le _, rfl⟩ ?_
      rintro j ⟨hj, hc2⟩
      refine SC.seq (SC.seq (SC.region (SL.M rfl (SL.M rfl (SL.U (SU.lenN underlying25 rfl) (SL.U (SU.lss rfl rfl) (SL.nil (ST.thenN ?_))))))))
      refine SC.ifP rfl (fun hlt2 => ?_) (fun hlt2 => ?_)
      · have hjl : j < (canonC l).length := by omega
        have hjr : j < rs.length := by omega
        have hb1 := hrs2.based (by omega)
        have hcr := hall2.get (List.getElem?_eq_getElem hjl) (List.getElem?_eq_getElem hjr)
        have hgx : rs[((j : Nat) : Int).toNat]? = some rs[j] := List.getElem?_eq_getElem hjr
        have hdrop : (canonC l).drop j = (canonC l)[j] :: (canonC l).drop (j + 1) := List.drop_eq_getElem_cons hjl
        have hxm : (canonC l)[j] ∈ canonC l := List.getElem_mem hjl
        rw [hdrop] at hc2
        generalize (canonC l)[j] = x at *
        generalize rs[j] = rx at *
        obtain ⟨hx1, hx2, hx3⟩ := hcr
        have hcr : CellR g2 x rx := ⟨hx1, hx2, hx3⟩
        have haok := aok_of hform hxm
        have hfound := form_found (hform x hxm)
        rw [htab] at haok hfound
        refine SC.skip (ST.thenN (SC.seq (SC.block (SC.seq (SC.seq (SC.region (SL.M rfl (SL.M rfl (SL.U (SU.indexAddr underlying25 sizeOf51 rfl rfl hb1 (by omega) (by simp only [slen]; omega)) (SL.U (SU.fieldAddrC underlying51 rfl sizeOf3 rfl hb1) (SL.K (SQ.partA (e := encCell) (o := 1) (u := vi x.dim) isAgg3 rfl hrs2.rd hgx (by rw [← hx2]; rfl)) ?_)))))))))))
        refine SL.U (SU.lss rfl rfl) (SL.nil (ST.thenN ?_))
        refine SC.ifP rfl (fun hdm => ?_) (fun hdm => ?_)
        · skip
          refine SC.exit (ST.thenX (ST.blockX (ST.thenN (SC.region (SL.M rfl (SL.U (SU.add rfl rfl (by omega)) (SL.A rfl (SL.nil ?_))))))))
          exact ST.again (j + 1) ⟨rfl, rfl, rfl, trivial⟩ rfl rfl ⟨by omega, by rw [hc2, chkR2, if_neg (fun h => by omega)]⟩ (by omega)
        · skip
          refine SC.skip (ST.thenN (SC.seq (SC.region (SL.M rfl (SL.M rfl (SL.M rfl (SL.U (SU.indexAddr underlying25 sizeOf51 rfl rfl hb1 (by omega) (by simp only [slen]; omega)) (SL.K (SQ.elemA (e := encCell) isAgg51 sizeOf51 rfl hrs2.rd hgx) (SL.W (SO.call call132 rfl (second_spec E g2 _ _ (canonC l) x rx hLc hfc.1 hcs hcr haok.1 hfound (fun y hy => (haok.2.2 y hy).1))) ?_)))))))))
          rintro _ _ _ ⟨rfl, rfl, rfl⟩
          refine SL.A rfl (SL.nil (ST.thenN (SC.seq (SC.region (SL.M rfl (SL.U (SU.neq rfl rfl) (SL.nil (ST.thenN ?_))))))))
          refine SC.ifP rfl (fun he => ?_) (fun he => ?_)
          · skip
            refine SC.seq (SC.region (SL.M rfl (SL.M rfl (SL.U (SU.indexAddr underlying25 sizeOf51 rfl rfl hb1 (by omega) (by simp only [slen]; omega)) (SL.U (SU.fieldAddrC underlying51 rfl sizeOf3 rfl hb1) (SL.K (SQ.partA (e := encCell) (o := 0) (u := vi x.id) isAgg3 rfl hrs2.rd hgx (by rw [← hx1]; rfl)) ?_))))))
            refine SL.M rfl (SL.A rfl (SL.A rfl (SL.nil (ST.thenN (SC.ret (ST.blockR (ST.thenR (ST.thenR (ST.blockR (ST.thenR (ST.drop (s' := s) (.cons _ (.refl _)) ?_)))))))))))
            exact ST.ret2 (.inl rfl) results96 rfl rfl ⟨by rw [hchk2, hc2, chkR2, if_pos ⟨by omega, he⟩]; rfl, rfl, hle1.trans hle2⟩
          · skip
            refine SC.skip (ST.blockN (ST.thenN (SC.region (SL.M rfl (SL.U (SU.add rfl rfl (by omega)) (SL.A rfl (SL.nil ?_)))))))
            exact ST.again (j + 1) ⟨rfl, rfl, rfl, trivial⟩ rfl rfl ⟨by omega, by rw [hc2, chkR2, if_neg (fun h => he h.2)]⟩ (by omega)
      · have hjd : (canonC l).drop j = [] := List.drop_eq_nil_of_le (by omega)
        rw [hjd] at hc2
        refine SC.exit (ST.thenX (ST.thenX (ST.blockX (ST.thenN (SC.seq (SC.region (SL.A rfl (SL.A rfl (SL.nil (ST.thenN (SC.ret (ST.drop (s' := s) (.cons _ (.refl _)) ?_))))))))))))
        exact ST.ret2 (.inl rfl) results96 rfl rfl ⟨by rw [hchk2, hc2]; rfl, rfl, hle1.trans hle2⟩
theorem refRight_spec (E : World) (g : PH) (s : Own) (v : Value) (l : List Cl) (hv : Cells g v l) (hf : Fits l) :
    Ctr Tryz.prog E 60 #[.agg #[v]] g s (fun r g' s' => r = vb (decide ((refCheckC l).2 = 0)) ∧ s = s' ∧ Le g g') := by
  refine Ctr.of (args := [.agg #[v]]) func60 rfl ntmps60 (Nat.le_of_ble_eq_true rfl) ?_
  refine SC.seq (SC.region (SL.W (SO.box rfl) ?_))
  rintro _ _ _ ⟨b1, rfl, rfl, rfl⟩
  refine SL.A rfl (SL.nil (ST.thenN (SC.seq (SC.region (SL.K (SQ.loadVarK 0 isAgg27 sizeOf27 rfl rfl rfl) (SL.W (SO.call call96 rfl (refCheck_spec E g _ _ l hv hf)) ?_))))))
  rintro _ g1 _ ⟨rfl, rfl, hle⟩
  refine SL.M rfl (SL.U (SU.extract rfl rfl) (SL.U (SU.extract rfl rfl) (SL.A rfl (SL.A rfl (SL.nil (ST.thenN (SC.seq (SC.region (SL.M rfl (SL.U (SU.eql rfl rfl) (SL.A rfl (SL.nil (ST.thenN (SC.ret (ST.drop (s' := s) (.cons _ (.refl _)) ?_)))))))))))))))
  exact ST.ret1 (.inl rfl) results60 rfl ⟨rfl, rfl, hle⟩
end Go.Proofs.YtkdibcicncjpdaaGreat
namespace Go.Proofs.YtkdibcicncjpdaaGreat
open _root_.Go.Proofs.Tryz _root_.Go.Proofs.YtkdibcicncjpdaaGreat.Tryz
open Go Go.Sy Go.Pl Go.Proofs
set_option maxRecDepth 100000
theorem compareC_len {a b : List Int} (h : a.length ≠ b.length) : decide (compareC a b < 0) = decide ((a.length : Int) < b.length) := by
  unfold compareC
  rcases cmpI_cases a.length b.length with ⟨h1, e⟩ | ⟨h1, e⟩ | ⟨h1, e⟩
  · rw [e]; simp; omega
  · omega
  · rw [e]; simp; omega
theorem compareC_same {a b : List Int} (h : a.length = b.length) : compareC a b = cmpL a b := by
  unfold compareC
  rcases cmpI_cases a.length b.length with ⟨h1, e⟩ | ⟨h1, e⟩ | ⟨h1, e⟩
  · omega
  · rw [e]; simp
  · omega
theorem cmpL_cons_ne {x y : Int} {a b : List Int} (h : x ≠ y) : decide (cmpL (x :: a) (y :: b) < 0) = decide (x < y) := by
  rw [decide_eq_decide]
  simp only [cmpL]
  rcases cmpI_cases x y with ⟨h1, e⟩ | ⟨h1, e⟩ | ⟨h1, e⟩
  · rw [e]; simp; omega
  · omega
  · rw [e]; simp; omega
theorem cmpL_cons_eq {x y : Int} {a b : List Int} (h : x = y) : cmpL (x :: a) (y :: b) = cmpL a b := by
  simp only [cmpL]
  rcases cmpI_cases x y with ⟨h1, e⟩ | ⟨h1, e⟩ | ⟨h1, e⟩
  · omega
  · rw [e]; simp
  · omega
theorem before_spec (E : World) (g : PH) (s : Own) (v u : Value) (a b : List Int) (hv : Ints g v a) (hu : Ints g u b) (hl : a.length < 1099511627776) :
    Ctr Tryz.prog E 93 #[v, u] g s (fun r g' s' => r = vb (decide (compareC a b < 0)) ∧ g = g' ∧ s = s') := by
  obtain ⟨p, c, rfl⟩ := SlA.form hv
  obtain ⟨q, d, rfl⟩ := SlA.form hu
  refine Ctr.of (args := [.slice p a.length c, .slice q b.length d]) func93 rfl ntmps93 (Nat.le_of_ble_eq_true rfl) ?_
  refine SC.seq (SC.region (SL.A rfl (SL.nil (ST.thenN (SC.seq (SC.seq (SC.region (SL.M rfl (SL.U (SU.lenN underlying45 rfl) (SL.M rfl (SL.U (SU.lenN underlying45 rfl) (SL.U (SU.neq rfl rfl) (SL.nil (ST.thenN ?_))))))))))))))
  refine SC.ifP rfl (fun hne => ?_) (fun hne => ?_)
  · skip
    refine SC.seq (SC.region (SL.M rfl (SL.U (SU.lenN underlying45 rfl) (SL.M rfl (SL.U (SU.lenN underlying45 rfl) (SL.U (SU.lss rfl rfl) (SL.A rfl (SL.nil (ST.thenN (SC.ret (ST.thenR ?_)))))))))))
    exact ST.ret1 (.inl rfl) results93 rfl ⟨by rw [compareC_len (by omega)], rfl, rfl⟩
  · have hlen : a.length = b.length := by omega
    have hcc := compareC_same hlen
    refine SC.skip (ST.thenN (SC.seq (SC.seq (SC.region (SL.A rfl (SL.nil (ST.thenN (SC.block ?_))))))))
    refine SC.loop (ι := Nat) (fun k => [(0, .slice p a.length c), (1, .slice q b.length d), (5, vi k)]) (fun _ => g) (fun _ => s) (fun k => k ≤ a.length ∧ cmpL a b = cmpL (a.drop k) (b.drop k)) (fun k => a.length - k) 0
      ⟨rfl, rfl, rfl, trivial⟩ rfl rfl ⟨Nat.zero_le _, by simp⟩ ?_
    rintro k ⟨hk, heq⟩
    refine SC.seq (SC.seq (SC.region (SL.M rfl (SL.M rfl (SL.U (SU.lenN underlying45 rfl) (SL.U (SU.lss rfl rfl) (SL.nil (ST.thenN ?_))))))))
    refine SC.ifP rfl (fun hlt => ?_) (fun hlt => ?_)
    · have hka : k < a.length := by omega
      have hkb : k < b.length := by omega
      have hb1 := SlA.based hv (by omega)
      have hb2 := SlA.based hu (by omega)
      rw [List.drop_eq_getElem_cons hka, List.drop_eq_getElem_cons hkb] at heq
      refine SC.skip (ST.thenN (SC.seq (SC.block (SC.seq ?_))))
      refine SC.draw [] [(0, 2), (1, 2), (2, 2), (3, 1), (4, 2), (5, 2), (6, 2), (7, 1), (8, 2)] Tryz.mixed (by kernel_rfl) ?_
      refine SP.U (i := 0) rfl (SU.move rfl) (SP.U (i := 1) rfl (SU.move rfl) (SP.U (i := 2) rfl (SU.indexAddr underlying45 sizeOf3 rfl rfl (by assumption) (by omega) (by (simp [slen]; omega))) ?_))
      refine SP.q (i := 3) rfl (SQ.elem1 isAgg3 rfl (SlA.rd hv) (List.getElem?_eq_getElem hka) rfl) (by decide) ?_
      refine SP.U (i := 4) rfl (SU.move rfl) (SP.U (i := 5) rfl (SU.move rfl) (SP.U (i := 6) rfl (SU.indexAddr underlying45 sizeOf3 rfl rfl (by assumption) (by omega) (by (simp [slen]; omega))) ?_))
      refine SP.q (i := 7) rfl (SQ.elem1 isAgg3 rfl (SlA.rd hu) (List.getElem?_eq_getElem hkb) rfl) (by decide) ?_
      refine SP.U (i := 8) rfl (SU.neq rfl rfl) (SP.nil (ST.thenN ?_))
      refine SC.ifP rfl (fun hd => ?_) (fun hd => ?_)
      · skip
        refine SC.seq ?_
        refine SC.draw [] [(0, 2), (1, 2), (2, 2), (3, 1), (4, 2), (5, 2), (6, 2), (7, 1), (8, 2), (9, 2)] Tryz.mixed (by kernel_rfl) ?_
        refine SP.U (i := 0) rfl (SU.move rfl) (SP.U (i := 1) rfl (SU.move rfl) (SP.U (i := 2) rfl (SU.indexAddr underlying45 sizeOf3 rfl rfl (by assumption) (by omega) (by (simp [slen]; omega))) ?_))
        refine SP.q (i := 3) rfl (SQ.elem1 isAgg3 rfl (SlA.rd hv) (List.getElem?_eq_getElem hka) rfl) (by decide) ?_
        refine SP.U (i := 4) rfl (SU.move rfl) (SP.U (i := 5) rfl (SU.move rfl) (SP.U (i := 6) rfl (SU.indexAddr underlying45 sizeOf3 rfl rfl (by assumption) (by omega) (by (simp [slen]; omega))) ?_))
        refine SP.q (i := 7) rfl (SQ.elem1 isAgg3 rfl (SlA.rd hu) (List.getElem?_eq_getElem hkb) rfl) (by decide) ?_
        refine SP.U (i := 8) rfl (SU.lss rfl rfl) (SP.U (i := 9) rfl (SU.assign rfl) (SP.nil (ST.thenN (SC.ret (ST.blockR (ST.thenR (ST.thenR (ST.blockR (ST.thenR ?_)))))))))
        exact ST.ret1 (.inl rfl) results93 rfl ⟨by rw [hcc, heq, cmpL_cons_ne hd], rfl, rfl⟩
      · skip
        refine SC.skip (ST.blockN (ST.thenN (SC.region (SL.M rfl (SL.U (SU.add rfl rfl (by omega)) (SL.A rfl (SL.nil ?_)))))))
        exact ST.again (k + 1) ⟨rfl, rfl, rfl, trivial⟩ rfl rfl ⟨by omega, by rw [heq, cmpL_cons_eq (Decidable.of_not_not hd)]⟩ (by omega)
    · rw [List.drop_eq_nil_of_le (by omega), List.drop_eq_nil_of_le (by omega)] at heq
      refine SC.exit (ST.thenX (ST.thenX (ST.blockX (ST.thenN (SC.seq (SC.region (SL.A rfl (SL.nil (ST.thenN (SC.ret ?_))))))))))
      exact ST.ret1 (.inl rfl) results93 rfl ⟨by rw [hcc, heq]; rfl, rfl, rfl⟩
theorem place_spec (E : World) (g : PH) (s : Own) (v u : Value) (ls : List (List Int)) (t : List Int) (hv : Lists g v ls) (hu : Ints g u t) (hl : ls.length < 1099511627776) (hll : ∀ x ∈ ls, x.length < 1099511627776) (htl : t.length < 1099511627776) (hs : SrtL ls) :
    Ctr Tryz.prog E 55 #[v, u] g s (fun r g' s' => r = .tuple #[vi (lbL ls t), vb (ls.contains t)] ∧ g = g' ∧ s = s') := by
  obtain ⟨rs, hrs, hall⟩ := hv
  have hlen := hall.length
  have hmono := srt_mono hs t
  obtain ⟨p, c, rfl⟩ := SlA.form hrs
  refine Ctr.of (args := [.slice p rs.length c, u]) func55 rfl ntmps55 (Nat.le_of_ble_eq_true rfl) ?_
  refine SC.seq (SC.region (SL.A rfl (SL.A rfl (SL.nil (ST.thenN (SC.seq (SC.region (SL.A rfl (SL.nil (ST.thenN (SC.seq (SC.region (SL.M rfl (SL.U (SU.lenN underlying22 rfl) (SL.A rfl (SL.nil (ST.thenN (SC.seq (SC.block ?_)))))))))))))))))))
  refine SC.loop (ι := Nat × Nat) (fun q => [(0, .slice p rs.length c), (1, u), (6, vi q.1), (7, vi q.2)]) (fun _ => g) (fun _ => s)
    (fun q => q.1 ≤ q.2 ∧ q.2 ≤ ls.length ∧ (∀ k (h : k < ls.length), k < q.1 → compareC ls[k] t < 0) ∧ ∀ k (h : k < ls.length), q.2 ≤ k → ¬ compareC ls[k] t < 0) (fun q => q.2 - q.1) (0, ls.length)
    ⟨rfl, rfl, rfl, vi_eq (by omega), trivial⟩ rfl rfl ⟨Nat.zero_le _, Nat.le_refl _, fun k _ h => absurd h (by omega), fun k h1 h2 => absurd h1 (by dsimp only at h2; omega)⟩ ?_
  rintro ⟨i, j⟩ ⟨hij, hj, hlo, hhi⟩
  dsimp only at hij hj hlo hhi ⊢
  refine SC.seq (SC.seq (SC.region (SL.M rfl (SL.M rfl (SL.U (SU.lss rfl rfl) (SL.nil (ST.thenN ?_)))))))
  refine SC.ifP rfl (fun hlt => ?_) (fun hlt => ?_)
  · have hb1 := hrs.based (by omega)
    have hml : (i + j) / 2 < ls.length := by omega
    have hmr : (i + j) / 2 < rs.length := by omega
    have hmx : rs[((((i + j) / 2 : Nat) : Int)).toNat]? = some rs[(i + j) / 2] := List.getElem?_eq_getElem hmr
    have hR := hall.get (List.getElem?_eq_getElem hml) (List.getElem?_eq_getElem hmr)
    have hxl := hll _ (List.getElem_mem hml)
    refine SC.skip (ST.thenN (SC.block (SC.seq (SC.region (SL.M rfl (SL.M rfl (SL.U (SU.add rfl rfl (by omega)) (SL.U (SU.eq (v' := vi (((i + j) / 2 : Nat) : Int)) (SU.quo rfl rfl (by decide)) (congrArg vi (by rw [← Int.natCast_add]; exact half_tdiv _ (by omega)))) ?_))))))))
    refine SL.A rfl (SL.nil (ST.thenN (SC.seq (SC.region (SL.M rfl (SL.M rfl (SL.U (SU.indexAddr underlying22 sizeOf45 rfl rfl hb1 (by omega) (by simp only [slen]; omega)) (SL.K (SQ.elem1 isAgg45 rfl hrs.rd hmx rfl) (SL.M rfl (SL.W (SO.call call93 rfl (before_spec E g _ _ _ ls[(i + j) / 2] t hR hu hxl)) ?_))))))))))
    rintro _ _ _ ⟨rfl, rfl, rfl⟩
    refine SL.nil (ST.thenN ?_)
    refine SC.ifP rfl (fun hc => ?_) (fun hc => ?_)
    · skip
      refine SC.region (SL.M rfl (SL.U (SU.add rfl rfl (by omega)) (SL.A rfl (SL.nil (ST.blockN ?_)))))
      refine ST.again ((i + j) / 2 + 1, j) ⟨rfl, rfl, rfl, rfl, trivial⟩ rfl rfl ⟨by (first | with_reducible rfl | ((try dsimp only); (try simp only [List.length_append, List.length_cons, List.length_nil, List.length_singleton, List.length_take, List.length_drop]) <;> omega)), hj, fun k hk h => ?_, hhi⟩ (by (first | with_reducible rfl | ((try dsimp only); (try simp only [List.length_append, List.length_cons, List.length_nil, List.length_singleton, List.length_take, List.length_drop]) <;> omega)))
      dsimp only at h
      rcases Nat.eq_or_lt_of_le (show k ≤ (i + j) / 2 by omega) with rfl | h'
      · exact hc
      · exact hmono k ((i + j) / 2) hk hml h' hc
    · skip
      refine SC.region (SL.M rfl (SL.A rfl (SL.nil (ST.blockN ?_))))
      refine ST.again (i, (i + j) / 2) ⟨rfl, rfl, rfl, rfl, trivial⟩ rfl rfl ⟨by (first | with_reducible rfl | ((try dsimp only); (try simp only [List.length_append, List.length_cons, List.length_nil, List.length_singleton, List.length_take, List.length_drop]) <;> omega)), by (first | with_reducible rfl | ((try dsimp only); (try simp only [List.length_append, List.length_cons, List.length_nil, List.length_singleton, List.length_take, List.length_drop]) <;> omega)), hlo, fun k hk h => ?_⟩ (by (first | with_reducible rfl | ((try dsimp only); (try simp only [List.length_append, List.length_cons, List.length_nil, List.length_singleton, List.length_take, List.length_drop]) <;> omega)))
      dsimp only at h
      rcases Nat.eq_or_lt_of_le (show (i + j) / 2 ≤ k by omega) with h' | h'
      · subst h'; exact hc
      · exact fun hx => hc (hmono ((i + j) / 2) k hml hk h' hx)
  · have hie : i = j := by omega
    subst hie
    have hlb : lbL ls t = i := lb_gen hj (fun k h h' => by simpa using hlo k h h') (fun k h h' => by simpa using hhi k h h')
    by_cases hin : (i : Int) < (rs.length : Int)
    · have hil : i < ls.length := by omega
      have hir : i < rs.length := by omega
      have hb1 := hrs.based (by omega)
      have hmx : rs[((i : Nat) : Int).toNat]? = some rs[i] := List.getElem?_eq_getElem hir
      have hR := hall.get (List.getElem?_eq_getElem hil) (List.getElem?_eq_getElem hir)
      have hfound : (!decide (compareC t ls[i] < 0)) = ls.contains t := by
        have h1 := hhi i hil (Nat.le_refl _)
        by_cases h2 : compareC t ls[i] < 0
        · rw [decide_eq_true h2]
          symm
          rw [Bool.not_true, ← Bool.not_eq_true]
          intro hm
          have hm' : t ∈ ls := by simpa using hm
          obtain ⟨k, hk, rfl⟩ := List.getElem_of_mem hm'
          rcases Nat.lt_trichotomy k i with h3 | h3 | h3
          · have := hlo k hk h3; rw [compareC_self] at this; omega
          · subst h3; rw [compareC_self] at h2; omega
          · exact List.pairwise_iff_getElem.1 hs i k hil hk h3 h2
        · rw [decide_eq_false h2]
          have h3 : t = ls[i] := by
            rcases compareC_cases t ls[i] with h | h | h
            · exact absurd h h2
            · exact h
            · exact absurd h h1
          symm
          rw [Bool.not_false]
          have : t ∈ ls := by rw [h3]; exact List.getElem_mem hil
          simpa using this
      refine SC.exit (ST.thenX (ST.thenX (ST.blockX (ST.thenN (SC.seq (SC.region (SL.M rfl (SL.M rfl (SL.M rfl (SL.U (SU.lenN underlying22 rfl) (SL.U (SU.eq (v' := vb true) (SU.lss rfl rfl) (congrArg vb (decide_eq_true hin))) (SL.M rfl (SL.Y rfl rfl rfl (SU.move rfl) (SL.Y rfl rfl rfl (SU.move rfl) (SL.Y rfl rfl rfl (SU.move rfl) (SL.Y rfl rfl rfl (SU.indexAddr underlying22 sizeOf45 rfl rfl hb1 (by omega) (by simp only [slen]; omega)) (SL.gq (Gd.onT rfl rfl rfl (by decide)) (SQ.elem1 isAgg45 rfl hrs.rd hmx rfl) (by decide) (SL.go (Gd.onT rfl rfl rfl (by decide)) (SO.call call93 rfl (before_spec E g _ _ _ t ls[i] hu hR htl)) (by decide) ?_))))))))))))))))))
      rintro _ _ _ ⟨rfl, rfl, rfl⟩
      refine SL.Y rfl rfl rfl (SU.not rfl) (SL.U (SU.pickT rfl rfl) (SL.A rfl (SL.A rfl (SL.nil (ST.thenN (SC.ret ?_))))))
      exact ST.ret2 (.inl rfl) results55 rfl rfl ⟨by rw [hlb, ← hfound], rfl, rfl⟩
    · have hnf : ls.contains t = false := by
        rw [← Bool.not_eq_true]
        intro hm
        have hm' : t ∈ ls := by simpa using hm
        obtain ⟨k, hk, rfl⟩ := List.getElem_of_mem hm'
        have := hlo k hk (by omega)
        rw [compareC_self] at this
        omega
      refine SC.exit (ST.thenX (ST.thenX (ST.blockX (ST.thenN (SC.seq (SC.region (SL.M rfl (SL.M rfl (SL.M rfl (SL.U (SU.lenN underlying22 rfl) (SL.U (SU.eq (v' := vb false) (SU.lss rfl rfl) (congrArg vb (decide_eq_false hin))) (SL.M rfl (SL.Z rfl rfl rfl (SL.Z rfl rfl rfl (SL.Z rfl rfl rfl (SL.Z rfl rfl rfl (SL.Z rfl rfl rfl (SL.Z rfl rfl rfl (SL.Z rfl rfl rfl (SL.U (SU.pickF rfl rfl) (SL.A rfl (SL.A rfl (SL.nil (ST.thenN (SC.ret ?_)))))))))))))))))))))))))
      exact ST.ret2 (.inl rfl) results55 rfl rfl ⟨by rw [hlb, hnf], rfl, rfl⟩
abbrev StrictI (l : List Int) : Prop := l.Pairwise (· < ·)
theorem strict_unique : ∀ {l m : List Int}, StrictI l → StrictI m → (∀ x, x ∈ l ↔ x ∈ m) → l = m
  | [], [], _, _, _ => rfl
  | [], y :: m, _, _, h => by have := (h y).2 (by simp); simp at this
  | x :: l, [], _, _, h => by have := (h x).1 (by simp); simp at this
  | x :: l, y :: m, hl, hm, h => by
    obtain ⟨h1, h2⟩ := List.pairwise_cons.1 hl
    obtain ⟨h3, h4⟩ := List.pairwise_cons.1 hm
    have hxy : x = y := by
      rcases List.mem_cons.1 ((h x).1 (by simp)) with e | hx
      · exact e
      · rcases List.mem_cons.1 ((h y).2 (by simp)) with e | hy
        · exact e.symm
        · have := h3 x hx; have := h1 y hy; omega
    subst hxy
    rw [strict_unique h2 h4 fun z => ?_]
    constructor
    · intro hz
      rcases List.mem_cons.1 ((h z).1 (by simp [hz])) with e | hz'
      · have := h1 z hz; omega
      · exact hz'
    · intro hz
      rcases List.mem_cons.1 ((h z).2 (by simp [hz])) with e | hz'
      · have := h3 z hz; omega
      · exact hz'
theorem uniqGo_strict : ∀ {x : Int} {l : List Int}, (x :: l).Pairwise (· ≤ ·) → StrictI (uniqGo (fun a b : Int => decide (a = b)) x l) ∧ (∀ y ∈ uniqGo (fun a b : Int => decide (a = b)) x l, x < y) ∧ ∀ y, y ∈ l → y = x ∨ y ∈ uniqGo (fun a b : Int => decide (a = b)) x l
  | x, [], _ => ⟨List.Pairwise.nil, by simp [uniqGo], by simp⟩
  | x, y :: r, h => by
    obtain ⟨h1, h2⟩ := List.pairwise_cons.1 h
    obtain ⟨i1, i2, i3⟩ := uniqGo_strict h2
    have hxy := h1 y (by simp)
    unfold uniqGo
    by_cases e : y = x
    · subst e
      simp only [decide_true, if_true]
      refine ⟨i1, i2, fun z hz => ?_⟩
      rcases List.mem_cons.1 hz with rfl | hz
      · exact .inl rfl
      · exact i3 z hz
    · simp only [e, decide_false]
      refine ⟨List.pairwise_cons.2 ⟨i2, i1⟩, fun z hz => ?_, fun z hz => ?_⟩
      · rcases List.mem_cons.1 hz with rfl | hz
        · omega
        · have := i2 z hz; omega
      · rcases List.mem_cons.1 hz with rfl | hz
        · exact .inr (by simp)
        · rcases i3 z hz with rfl | h
          · exact .inr (by simp)
          · exact .inr (by simp [h])
theorem sortI_sorted (l : List Int) : (sortI l).Pairwise (· ≤ ·) := by
  have := List.pairwise_mergeSort (le := fun x y : Int => decide (x ≤ y)) (fun a b c h1 h2 => by simp at *; omega) (fun a b => by simp; omega) l
  exact this.imp fun h => by simpa using h
theorem setC_strict (l : List Int) : StrictI (setC l) := by
  have hs := sortI_sorted l
  unfold setC
  cases h : sortI l with
  | nil => exact List.Pairwise.nil
  | cons x r =>
    rw [h] at hs
    obtain ⟨h1, h2, _⟩ := uniqGo_strict hs
    exact List.pairwise_cons.2 ⟨h2, h1⟩
theorem setC_mem (l : List Int) (y : Int) : y ∈ setC l ↔ y ∈ l := by
  have hs := sortI_sorted l
  have hp := sortI_perm l
  rw [← hp.mem_iff]
  unfold setC
  refine ⟨fun h => (uniq_sub _ _).subset h, fun h => ?_⟩
  cases hc : sortI l with
  | nil => rw [hc] at h; simp at h
  | cons x r =>
    rw [hc] at hs h
    rcases List.mem_cons.1 h with rfl | h
    · simp [uniq]
    · rcases (uniqGo_strict hs).2.2 y h with rfl | h
      · simp [uniq]
      · simp [uniq, h]
theorem setC_of {l out : List Int} (hs : StrictI out) (hm : ∀ x, x ∈ out ↔ x ∈ l) : out = setC l := strict_unique hs (setC_strict l) fun x => by rw [hm, setC_mem]
theorem strict_le {a b : List Int} (ha : StrictI a) (h : ∀ x ∈ a, x ∈ b) : a.length ≤ b.length := nodup_le (ha.imp fun h => by omega) h
def okS (l : List Int) : Bool := !(l.any fun x => decide (x < 0)) && decide ((setC l).length ≤ 9)
theorem okS_bad {l : List Int} (h : okS l = false) : badSet (setC l) = true := by
  unfold okS at h
  rw [Bool.and_eq_false_iff] at h
  cases hc : setC l with
  | nil => rfl
  | cons a r =>
    unfold badSet
    rcases h with h | h
    · simp only [Bool.not_eq_false', List.any_eq_true, decide_eq_true_eq] at h
      obtain ⟨x, hx, hx0⟩ := h
      have h1 := (setC_mem l x).2 hx
      rw [hc] at h1
      have hs := setC_strict l
      rw [hc] at hs
      have : a ≤ x := by
        rcases List.mem_cons.1 h1 with rfl | h2
        · omega
        · have := (List.pairwise_cons.1 hs).1 x h2; omega
      simp
      omega
    · rw [hc] at h
      simp at h ⊢
      omega
theorem okS_good {l : List Int} (h : okS l = true) : (setC l).length ≤ 9 ∧ (badSet (setC l) = true → setC l = []) := by
  unfold okS at h
  simp only [Bool.and_eq_true, Bool.not_eq_true', decide_eq_true_eq] at h
  refine ⟨h.2, fun hb => ?_⟩
  cases hc : setC l with
  | nil => rfl
  | cons a r =>
    rw [hc] at hb
    unfold badSet at hb
    rw [hc] at h
    simp at hb
    have ha : a ∈ l := (setC_mem l a).1 (by rw [hc]; simp)
    have h3 := List.any_eq_false.1 h.1 a ha
    simp at h3
    have h4 := h.2
    simp at h4
    omega
end Go.Proofs.YtkdibcicncjpdaaGreat
namespace Go.Proofs.YtkdibcicncjpdaaGreat
open _root_.Go.Proofs.Tryz _root_.Go.Proofs.YtkdibcicncjpdaaGreat.Tryz
open Go Go.Sy Go.Pl Go.Proofs
set_option maxRecDepth 100000
theorem ins_strict {out : List Int} {x : Int} {k : Nat} (hs : StrictI out) (h1 : ∀ y ∈ out.take k, y < x) (h2 : ∀ y ∈ out.drop k, x < y) : StrictI (out.take k ++ x :: out.drop k) := by
  have hs' : StrictI (out.take k ++ out.drop k) := by rw [List.take_append_drop]; exact hs
  have h3 := List.pairwise_append.1 hs'
  refine List.pairwise_append.2 ⟨h3.1, List.pairwise_cons.2 ⟨h2, h3.2.1⟩, fun y hy z hz => ?_⟩
  rcases List.mem_cons.1 hz with rfl | hz
  · exact h1 y hy
  · exact h3.2.2 y hy z hz
theorem mem_ins {α : Type} {out : List α} {x y : α} {k : Nat} : y ∈ out.take k ++ x :: out.drop k ↔ y = x ∨ y ∈ out := by
  rw [List.mem_append, List.mem_cons]
  constructor
  · rintro (h | h | h)
    · exact .inr (List.mem_of_mem_take h)
    · exact .inl h
    · exact .inr (List.mem_of_mem_drop h)
  · rintro (h | h)
    · exact .inr (.inl h)
    · rw [← List.take_append_drop k out] at h
      rcases List.mem_append.1 h with h | h
      · exact .inl h
      · exact .inr (.inr h)
theorem strict_drop {out : List Int} {c : Int} {k : Nat} (hs : StrictI out) (hk : k < out.length) (h : c ≤ out[k]) : ∀ y ∈ out.drop k, c ≤ y := by
  rw [List.drop_eq_getElem_cons hk]
  intro y hy
  have h1 : StrictI (out.drop k) := List.Pairwise.sublist (List.drop_sublist k out) hs
  rw [List.drop_eq_getElem_cons hk] at h1
  rcases List.mem_cons.1 hy with rfl | hy
  · exact h
  · have := (List.pairwise_cons.1 h1).1 y hy
    omega
theorem set_spec (E : World) (g : PH) (s : Own) (v : Value) (l : List Int) (hv : Ints g v l) (hl : l.length < 1099511627776) :
    Ctr Tryz.prog E 54 #[v] g s (fun r g' s' => s = s' ∧ Le g g' ∧ ((okS l = true ∧ ∃ u, r = .tuple #[u, vb true] ∧ Ints g' u (setC l)) ∨ (okS l = false ∧ r = .tuple #[.slice none 0 0, vb false]))) := by
  obtain ⟨p, c, rfl⟩ := SlA.form hv
  refine Ctr.of (args := [.slice p l.length c]) func54 rfl ntmps54 (Nat.le_of_ble_eq_true rfl) ?_
  refine SC.seq (SC.region (SL.A rfl (SL.A rfl (SL.nil (ST.thenN (SC.seq (SC.region (SL.A rfl (SL.nil (ST.thenN (SC.seq (SC.seq (SC.region (SL.A rfl (SL.nil (ST.thenN (SC.block ?_)))))))))))))))))
  refine SC.loop (ι := PH × Value × List Int × Nat) (fun i => [(0, .slice p l.length c), (4, i.2.1), (5, vi i.2.2.2)]) (fun i => i.1) (fun _ => s)
    (fun i => Le g i.1 ∧ Ints i.1 i.2.1 i.2.2.1 ∧ i.2.2.2 ≤ l.length ∧ StrictI i.2.2.1 ∧ (∀ x, x ∈ i.2.2.1 ↔ x ∈ l.take i.2.2.2) ∧ ((l.take i.2.2.2).any (fun x => decide (x < 0)) = false ∧ i.2.2.1.length ≤ 9)) (fun i => l.length - i.2.2.2)
    (g, .slice none 0 0, [], 0) ⟨rfl, rfl, rfl, trivial⟩ rfl rfl ⟨Le.refl g, Sl.nil g _, Nat.zero_le _, List.Pairwise.nil, by simp, by simp, by simp⟩ ?_
  rintro ⟨g1, ov, out, i⟩ ⟨hle, hov, hi, hstr, hmem, hneg, h9⟩
  dsimp only at hle hov hi hstr hmem hneg h9 ⊢
  obtain ⟨q, d, rfl⟩ := SlA.form hov
  have hqc := (SlA.cap hov).2
  refine SC.seq (SC.seq (SC.region (SL.M rfl (SL.M rfl (SL.U (SU.lenN underlying45 rfl) (SL.U (SU.lss rfl rfl) (SL.nil (ST.thenN ?_))))))))
  refine SC.ifP rfl (fun hlt => ?_) (fun hlt => ?_)
  · have hil : i < l.length := by omega
    have hb1 := SlA.based (hv.mono hle) (by omega)
    have hgi : l[((i : Nat) : Int).toNat]? = some l[i] := List.getElem?_eq_getElem hil
    have htk : l.take (i + 1) = l.take i ++ [l[i]] := List.take_succ_eq_append_getElem hil
    have hxm : l[i] ∈ l := List.getElem_mem hil
    generalize l[i] = x at *
    refine SC.skip (ST.thenN (SC.seq (SC.block (SC.seq (SC.region (SL.A rfl (SL.nil (ST.thenN ?_))))))))
    refine SC.cut (ι := Nat) (fun k => [(0, .slice p l.length c), (4, .slice q out.length d), (5, vi i), (6, vi k)]) (fun _ => g1) (fun _ => s) (fun k => k ≤ out.length ∧ (∀ y ∈ out.take k, y < x) ∧ ∀ y ∈ out.drop k, x ≤ y) ?_ ?_
    · skip
      refine SC.block ?_
      refine SC.loop (ι := Nat) (fun k => [(0, .slice p l.length c), (4, .slice q out.length d), (5, vi i), (6, vi k)]) (fun _ => g1) (fun _ => s) (fun k => k ≤ out.length ∧ ∀ y ∈ out.take k, y < x) (fun k => out.length - k) 0
        ⟨rfl, rfl, rfl, rfl, trivial⟩ rfl rfl ⟨Nat.zero_le _, by simp⟩ ?_
      rintro k ⟨hk, htake⟩
      by_cases hin : (k : Int) < (out.length : Int)
      · have hkl : k < out.length := by omega
        have hb2 := SlA.based hov (by omega)
        refine SC.seq (SC.seq ?_)
        refine SC.draw [] [(0, 2), (1, 2), (2, 2), (3, 2), (4, 2), (5, 2), (6, 2), (7, 2), (8, 1), (9, 2), (10, 2), (11, 2), (12, 1), (13, 2), (14, 2)] Tryz.mixed (by kernel_rfl) ?_
        refine SP.U (i := 0) rfl (SU.move rfl) (SP.U (i := 1) rfl (SU.move rfl) (SP.U (i := 2) rfl (SU.lenN underlying45 rfl) (SP.U (i := 3) rfl (SU.eq (v' := vb true) (SU.lss rfl rfl) (congrArg vb (decide_eq_true hin))) (SP.U (i := 4) rfl (SU.move rfl) (SP.gu (i := 5) rfl (Gd.onT rfl rfl rfl (by decide)) (SU.move rfl) (by decide) (SP.gu (i := 6) rfl (Gd.onT rfl rfl rfl (by decide)) (SU.move rfl) (by decide) (SP.gu (i := 7) rfl (Gd.onT rfl rfl rfl (by decide)) (SU.indexAddr underlying45 sizeOf3 rfl rfl hb2 (by omega) (by simp only [slen]; omega)) (by decide) ?_)))))))
        refine SP.gq (i := 8) rfl (Gd.onT rfl rfl rfl (by decide)) (SQ.elem1 isAgg3 rfl (SlA.rd hov) (List.getElem?_eq_getElem hkl) rfl) (by decide) ?_
        refine SP.gu (i := 9) rfl (Gd.onT rfl rfl rfl (by decide)) (SU.move rfl) (by decide) (SP.gu (i := 10) rfl (Gd.onT rfl rfl rfl (by decide)) (SU.move rfl) (by decide) (SP.gu (i := 11) rfl (Gd.onT rfl rfl rfl (by decide)) (SU.indexAddr underlying45 sizeOf3 rfl rfl hb1 (by omega) (by simp only [slen]; omega)) (by decide) (SP.gq (i := 12) rfl (Gd.onT rfl rfl rfl (by decide)) (SQ.elem1 isAgg3 rfl (SlA.rd (hv.mono hle)) hgi rfl) (by decide) (SP.gu (i := 13) rfl (Gd.onT rfl rfl rfl (by decide)) (SU.lss rfl rfl) (by decide) (SP.U (i := 14) rfl (SU.pickT rfl rfl) (SP.nil (ST.thenN ?_)))))))
        refine SC.ifP rfl (fun hc => ?_) (fun hc => ?_)
        · skip
          refine SC.skip (ST.thenN (SC.block (SC.region (SL.M rfl (SL.U (SU.add rfl rfl (by omega)) (SL.A rfl (SL.nil (ST.blockN ?_))))))))
          exact ST.again (k + 1) ⟨rfl, rfl, rfl, rfl, trivial⟩ rfl rfl ⟨by omega, by
            rw [List.take_succ_eq_append_getElem hkl]
            intro y hy
            rcases List.mem_append.1 hy with h | h
            · exact htake y h
            · simp at h; subst h; exact hc⟩ (by omega)
        · skip
          refine SC.exit (ST.thenX (ST.thenX (ST.blockX ?_)))
          exact ST.mid k ⟨rfl, rfl, rfl, rfl, trivial⟩ rfl rfl ⟨hk, htake, strict_drop hstr hkl (by omega)⟩
      · skip
        refine SC.seq (SC.seq ?_)
        refine SC.draw [] [(0, 2), (1, 2), (2, 2), (3, 2), (4, 2), (5, 2), (6, 2), (7, 2), (8, 1), (9, 2), (10, 2), (11, 2), (12, 1), (13, 2), (14, 2)] Tryz.mixed (by kernel_rfl) ?_
        refine SP.U (i := 0) rfl (SU.move rfl) (SP.U (i := 1) rfl (SU.move rfl) (SP.U (i := 2) rfl (SU.lenN underlying45 rfl) (SP.U (i := 3) rfl (SU.eq (v' := vb false) (SU.lss rfl rfl) (congrArg vb (decide_eq_false hin))) (SP.U (i := 4) rfl (SU.move rfl) (SP.off (i := 5) rfl (Gd.onF rfl rfl rfl (by decide)) (by decide) (SP.off (i := 6) rfl (Gd.onF rfl rfl rfl (by decide)) (by decide) (SP.off (i := 7) rfl (Gd.onF rfl rfl rfl (by decide)) (by decide) (SP.off1 (i := 8) rfl (Gd.onF rfl rfl rfl (by decide)) (by decide) (SP.off (i := 9) rfl (Gd.onF rfl rfl rfl (by decide)) (by decide) (SP.off (i := 10) rfl (Gd.onF rfl rfl rfl (by decide)) (by decide) (SP.off (i := 11) rfl (Gd.onF rfl rfl rfl (by decide)) (by decide) (SP.off1 (i := 12) rfl (Gd.onF rfl rfl rfl (by decide)) (by decide) (SP.off (i := 13) rfl (Gd.onF rfl rfl rfl (by decide)) (by decide) (SP.U (i := 14) rfl (SU.pickF rfl rfl) (SP.nil (ST.thenN (SC.condF rfl (SC.exit (ST.thenX (ST.thenX (ST.blockX ?_)))))))))))))))))))))
        exact ST.mid k ⟨rfl, rfl, rfl, rfl, trivial⟩ rfl rfl ⟨hk, htake, by rw [List.drop_eq_nil_of_le (by omega)]; simp⟩
    · rintro k ⟨hk, hk1, hk2⟩
      have hskip : x ∈ out → ∀ y, y ∈ out ↔ y ∈ l.take (i + 1) := fun h y => by
        rw [htk, List.mem_append, ← hmem]
        constructor
        · exact .inl
        · rintro (h' | h')
          · exact h'
          · simp at h'; rw [h']; exact h
      have hxneg : x ∈ out → (l.take (i + 1)).any (fun x => decide (x < 0)) = false := fun h => by
        have h1 := List.any_eq_false.1 hneg x ((hmem x).1 h)
        rw [htk, List.any_append, hneg]
        simpa using h1
      have hins : (∀ y ∈ out.drop k, x < y) → StrictI (out.take k ++ x :: out.drop k) ∧ ∀ y, y ∈ out.take k ++ x :: out.drop k ↔ y ∈ l.take (i + 1) := fun h => ⟨ins_strict hstr hk1 h, fun y => by
        rw [mem_ins, htk, List.mem_append, ← hmem]
        simp
        exact or_comm⟩
      have hc1 := SlA.cut hov (l := k) (m := out.length) hk (Nat.le_refl _)
      have hc2 := SlA.cut hov (l := 0) (m := k) (Nat.zero_le _) hk
      rw [List.take_of_length_le (by rw [List.length_drop]; exact Nat.le_refl _)] at hc1
      rw [List.drop_zero, Nat.sub_zero] at hc2
      have hnl : (out.take k ++ x :: out.drop k).length = out.length + 1 := by (first | with_reducible rfl | ((try dsimp only); (try simp only [List.length_append, List.length_cons, List.length_nil, List.length_singleton, List.length_take, List.length_drop]) <;> omega))
      obtain ⟨nw, hnw⟩ : ∃ nw, nw = out.take k ++ x :: out.drop k := ⟨_, rfl⟩
      have hbad1 : x < 0 → okS l = false := fun h => by
        unfold okS
        have : l.any (fun x => decide (x < 0)) = true := List.any_eq_true.2 ⟨x, hxm, by simpa using h⟩
        rw [this]; rfl
      have hbad2 : (∀ y ∈ out.drop k, x < y) → 9 < (out.take k ++ x :: out.drop k).length → okS l = false := fun h h' => by
        obtain ⟨h1, h2⟩ := hins h
        have h3 := strict_le h1 (b := setC l) (fun y hy => by rw [setC_mem]; exact List.mem_of_mem_take ((h2 y).1 hy))
        unfold okS
        have : decide ((setC l).length ≤ 9) = false := decide_eq_false (by omega)
        rw [this]; simp
      have hgo : ∀ g3 q3 d3, (∀ y ∈ out.drop k, x < y) → Le g g3 → Ints g3 (.slice q3 (out.take k ++ x :: out.drop k).length d3) (out.take k ++ x :: out.drop k) → ¬ x < 0 → (out.take k ++ x :: out.drop k).length ≤ 9 →
          Le g g3 ∧ Ints g3 (.slice q3 (out.take k ++ x :: out.drop k).length d3) (out.take k ++ x :: out.drop k) ∧ i + 1 ≤ l.length ∧ StrictI (out.take k ++ x :: out.drop k) ∧ (∀ y, y ∈ out.take k ++ x :: out.drop k ↔ y ∈ l.take (i + 1)) ∧ ((l.take (i + 1)).any (fun x => decide (x < 0)) = false ∧ (out.take k ++ x :: out.drop k).length ≤ 9) := fun g3 q3 d3 h1 h2 h3 h4 h5 =>
        ⟨h2, h3, by omega, (hins h1).1, (hins h1).2, by rw [htk, List.any_append, hneg]; simpa using h4, h5⟩
      have hgt : out.contains x = false → ∀ y ∈ out.drop k, x < y := fun h y hy => by
        have h1 := hk2 y hy
        have h2 : y ≠ x := fun e => by
          have : out.contains x = true := by rw [← e]; simpa using List.mem_of_mem_drop hy
          rw [h] at this; cases this
        omega
      have hgetk : (k : Int) < (out.length : Int) → out[((k : Nat) : Int).toNat]? = some (out.getD k 0) := fun h => by
        have h2 : k < out.length := by omega
        rw [show ((k : Nat) : Int).toNat = k by omega, List.getElem?_eq_getElem h2, List.getD_eq_getElem?_getD, List.getElem?_eq_getElem h2]; rfl
      have hA : (k : Int) < (out.length : Int) → out.contains x = decide (out.getD k 0 = x) := fun h => by
        have h2 : k < out.length := by omega
        rw [List.getD_eq_getElem?_getD, List.getElem?_eq_getElem h2, Option.getD_some, Bool.eq_iff_iff, decide_eq_true_iff]
        constructor
        · intro hm
          have hm' : x ∈ out := by simpa using hm
          rw [← List.take_append_drop k out] at hm'
          rcases List.mem_append.1 hm' with h3 | h3
          · have := hk1 x h3; omega
          · have h4 := hk2 _ (by rw [List.drop_eq_getElem_cons h2]; exact List.mem_cons_self : out[k] ∈ out.drop k)
            have h5 := strict_drop hstr h2 (Int.le_refl out[k]) x h3
            omega
        · intro e
          rw [← e]
          simp
      have hB : ¬ (k : Int) < (out.length : Int) → out.contains x = false := fun h => by
        rw [← Bool.not_eq_true]
        intro hm
        have hm' : x ∈ out := by simpa using hm
        rw [← List.take_append_drop k out, List.drop_eq_nil_of_le (by omega), List.append_nil] at hm'
        have := hk1 x hm'
        omega
      have hb2 := fun h => SlA.based hov h
      generalize out.getD k 0 = yk at hgetk hA
      obtain ⟨nl, hnl2⟩ : ∃ nl, nl = (out.take k ++ x :: out.drop k).length := ⟨_, rfl⟩
      have f1 : x < 0 → (decide (x < 0) || decide ((((out.take k ++ x :: out.drop k).length : Nat) : Int) > 9)) = true := fun h => by simp [h]
      have f2 : ¬ x < 0 → (decide (x < 0) || decide ((((out.take k ++ x :: out.drop k).length : Nat) : Int) > 9)) = decide ((((out.take k ++ x :: out.drop k).length : Nat) : Int) > 9) := fun h => by simp only [h, decide_false, Bool.false_or]
      refine SC.seq ?_
      refine SC.cutB 45 ((out.contains x)) ?_ ?_
      · skip
        refine SC.draw [] [(0, 2), (1, 2), (2, 2), (3, 2), (4, 2), (5, 2), (6, 2), (7, 2), (8, 1), (9, 2), (10, 2), (11, 2), (12, 1), (13, 2), (14, 2)] Tryz.mixed (by kernel_rfl) ?_
        refine SP.U (i := 0) rfl (SU.move rfl) (SP.U (i := 1) rfl (SU.move rfl) (SP.U (i := 2) rfl (SU.lenN underlying45 rfl) (SP.U (i := 3) rfl (SU.lss rfl rfl) (SP.U (i := 4) rfl (SU.move rfl) ?_))))
        refine SP.split ?_ ?_
        · intro h35
          refine SP.gu (i := 5) rfl (Gd.onT rfl rfl rfl (by decide)) (SU.move rfl) (by decide) (SP.gu (i := 6) rfl (Gd.onT rfl rfl rfl (by decide)) (SU.move rfl) (by decide) (SP.gu (i := 7) rfl (Gd.onT rfl rfl rfl (by decide)) (SU.indexAddr underlying45 sizeOf3 rfl rfl (hb2 (by omega)) (by omega) (by simp only [slen]; omega)) (by decide) (SP.gq (i := 8) rfl (Gd.onT rfl rfl rfl (by decide)) (SQ.elem1 isAgg3 rfl (SlA.rd hov) (hgetk h35) rfl) (by decide) (SP.gu (i := 9) rfl (Gd.onT rfl rfl rfl (by decide)) (SU.move rfl) (by decide) (SP.gu (i := 10) rfl (Gd.onT rfl rfl rfl (by decide)) (SU.move rfl) (by decide) (SP.gu (i := 11) rfl (Gd.onT rfl rfl rfl (by decide)) (SU.indexAddr underlying45 sizeOf3 rfl rfl hb1 (by omega) (by simp only [slen]; omega)) (by decide) (SP.gq (i := 12) rfl (Gd.onT rfl rfl rfl (by decide)) (SQ.elem1 isAgg3 rfl (SlA.rd (hv.mono hle)) hgi rfl) (by decide) (SP.gu (i := 13) rfl (Gd.onT rfl rfl rfl (by decide)) (SU.eql rfl rfl) (by decide) (SP.U (i := 14) rfl (SU.pickT rfl rfl) (SP.nil ?_))))))))))
          exact ST.mid1 (by (rw [hA h35]; rfl)) (by repeat' (first | exact trivial | refine ⟨.inl rfl, ?_⟩ | refine ⟨.inr rfl, ?_⟩))
        · intro h35
          refine SP.off (i := 5) rfl (Gd.onF rfl rfl rfl (by decide)) (by decide) (SP.off (i := 6) rfl (Gd.onF rfl rfl rfl (by decide)) (by decide) (SP.off (i := 7) rfl (Gd.onF rfl rfl rfl (by decide)) (by decide) (SP.off1 (i := 8) rfl (Gd.onF rfl rfl rfl (by decide)) (by decide) (SP.off (i := 9) rfl (Gd.onF rfl rfl rfl (by decide)) (by decide) (SP.off (i := 10) rfl (Gd.onF rfl rfl rfl (by decide)) (by decide) (SP.off (i := 11) rfl (Gd.onF rfl rfl rfl (by decide)) (by decide) (SP.off1 (i := 12) rfl (Gd.onF rfl rfl rfl (by decide)) (by decide) (SP.off (i := 13) rfl (Gd.onF rfl rfl rfl (by decide)) (by decide) (SP.U (i := 14) rfl (SU.pickF rfl rfl) (SP.nil ?_))))))))))
          exact ST.mid1 (by (rw [hB h35]; rfl)) (by repeat' (first | exact trivial | refine ⟨.inl rfl, ?_⟩ | refine ⟨.inr rfl, ?_⟩))
      refine SC.ifB rfl (fun hthere => ?_) (fun hthere => ?_)
      · have hxo : x ∈ out := by simpa using hthere
        refine SC.exit (ST.thenX (ST.blockX (ST.thenN (SC.region (SL.M rfl (SL.U (SU.add rfl rfl (by omega)) (SL.A rfl (SL.nil ?_))))))))
        exact ST.again (g1, _, out, i + 1) ⟨rfl, rfl, rfl, trivial⟩ rfl rfl ⟨hle, hov, by (first | with_reducible rfl | ((try dsimp only); (try simp only [List.length_append, List.length_cons, List.length_nil, List.length_singleton, List.length_take, List.length_drop]) <;> omega)), hstr, hskip hxo, hxneg hxo, h9⟩ (by (first | with_reducible rfl | ((try dsimp only); (try simp only [List.length_append, List.length_cons, List.length_nil, List.length_singleton, List.length_take, List.length_drop]) <;> omega)))
      · have hg := hgt hthere
        refine SC.skip (ST.thenN (SC.seq ?_))
        refine SC.draw [8] [(0, 2), (1, 2), (2, 2), (3, 1), (5, 2), (6, 2), (7, 2), (4, 0), (8, 0), (9, 2)] Tryz.mixed (by kernel_rfl) ?_
        refine SP.U (i := 0) rfl (SU.move rfl) (SP.U (i := 1) rfl (SU.move rfl) (SP.U (i := 2) rfl (SU.indexAddr underlying45 sizeOf3 rfl rfl hb1 (by omega) (by simp only [slen]; omega)) (SP.K (i := 3) rfl (SQ.elem1 isAgg3 rfl (SlA.rd (hv.mono hle)) hgi rfl) (SP.U (i := 5) rfl (SU.move rfl) (SP.U (i := 6) rfl (SU.move rfl) (SP.U (i := 7) rfl (SU.sliceL underlying45 sizeOf3 rfl rfl (by omega) (by omega)) (SP.o (i := 4) rfl (SO.buildSlice sty45 rfl rfl rfl (szs_mk ⟨rfl, trivial⟩) (by decide)) (by decide) (.inr (by rintro _ _ _ ⟨b50, rfl, rfl, rfl⟩; exact ⟨by exact Le.refl _, (by exact .cons _ (.refl _))⟩)) ?_)))))))
        rintro _ _ _ ⟨b50, rfl, rfl, rfl⟩
        refine SP.to (fun w hw => At.litRow (e := encInt) (l := [x]) (n := 0) hw rfl rfl (by decide)) ?_
        refine SP.o (i := 8) rfl (SO.appA (e := encInt) 0 sty45 rfl rfl rfl hc1 (by rw [List.length_drop]; (first | with_reducible rfl | ((try dsimp only); (try simp only [List.length_append, List.length_cons, List.length_nil, List.length_singleton, List.length_take, List.length_drop]) <;> omega))) (by rw [List.length_drop]; (first | with_reducible rfl | ((try dsimp only); (try simp only [List.length_append, List.length_cons, List.length_nil, List.length_singleton, List.length_take, List.length_drop]) <;> omega)))) (by decide) (.inl (by decide)) ?_
        rintro v54 _ _ ⟨rfl, rfl⟩
        refine SP.U (i := 9) rfl (SU.assign rfl) (SP.nil (ST.thenN (SC.seq (SC.freezeRow fun g2 hle2 hs2 => ?_))))
        have hrest : Ints g2 v54 ([x] ++ out.drop k) := hs2
        refine SC.region (SL.W (SO.buildSlice sty45 rfl rfl rfl (szs_mk trivial) (by decide)) ?_)
        rintro _ _ _ ⟨b55, rfl, rfl, rfl⟩
        refine SL.emptyRow 3 1 (some ⟨b55, 0, none⟩) (SL.M rfl (SL.M rfl (SL.U (SU.sliceH underlying45 sizeOf3 rfl rfl (by omega) (by omega)) (SL.W (SO.appA (e := encInt) (l := []) 0 sty45 rfl rfl rfl (hc2.mono hle2) (by rw [List.length_take]; (first | with_reducible rfl | ((try dsimp only); (try simp only [List.length_append, List.length_cons, List.length_nil, List.length_singleton, List.length_take, List.length_drop]) <;> omega))) (by rw [List.length_take]; (first | with_reducible rfl | ((try dsimp only); (try simp only [List.length_append, List.length_cons, List.length_nil, List.length_singleton, List.length_take, List.length_drop]) <;> omega)))) ?_))))
        rintro v59 _ _ ⟨rfl, rfl⟩
        refine SL.M rfl (SL.W (SO.appA (e := encInt) 0 sty45 rfl rfl rfl hrest (by (first | with_reducible rfl | ((try dsimp only); (try simp only [List.length_append, List.length_cons, List.length_nil, List.length_singleton, List.length_take, List.length_drop]) <;> omega))) (by (first | with_reducible rfl | ((try dsimp only); (try simp only [List.length_append, List.length_cons, List.length_nil, List.length_singleton, List.length_take, List.length_drop]) <;> omega)))) ?_)
        rintro v61 _ _ ⟨rfl, rfl⟩
        refine SL.A rfl (SL.nil (ST.thenN (SC.freezeRow fun g3 hle3 hs3 => ?_)))
        have hres : Ints g3 v61 (out.take k ++ x :: out.drop k) := (by have h : Ints g3 v61 ([] ++ out.take k ++ ([x] ++ out.drop k)) := hs3; simpa using h)
        refine SC.drop (s' := s) (.cons _ (.refl _)) ?_
        obtain ⟨q3, d3, rfl⟩ := SlA.form hres
        refine SC.sub (f' := [(0, .slice p l.length c), (4, .slice q3 (out.take k ++ x :: out.drop k).length d3), (5, vi i)]) ⟨rfl, rfl, rfl, trivial⟩ ?_
        refine SC.cutB 71 ((decide (x < 0) || decide ((((out.take k ++ x :: out.drop k).length : Nat) : Int) > 9))) ?_ ?_
        · skip
          refine SC.region (SL.M rfl (SL.M rfl (SL.U (SU.indexAddr underlying45 sizeOf3 rfl rfl hb1 (by omega) (by simp only [slen]; omega)) (SL.K (SQ.elem1 isAgg3 rfl (SlA.rd (hv.mono (hle.trans (hle2.trans hle3)))) hgi rfl) (SL.U (SU.lss rfl rfl) (SL.M rfl ?_))))))
          refine SL.split ?_ ?_
          · intro h67
            refine SL.Z rfl rfl rfl (SL.Z rfl rfl rfl (SL.Z rfl rfl rfl (SL.U (SU.pickT rfl rfl) (SL.nil ?_))))
            exact ST.mid1 (by (rw [f1 h67]; rfl)) (by repeat' (first | exact trivial | refine ⟨.inl rfl, ?_⟩ | refine ⟨.inr rfl, ?_⟩))
          · intro h67
            refine SL.Y rfl rfl rfl (SU.move rfl) (SL.Y rfl rfl rfl (SU.lenN underlying45 rfl) (SL.Y rfl rfl rfl (SU.gtr rfl rfl) (SL.U (SU.pickF rfl rfl) (SL.nil ?_))))
            exact ST.mid1 (by (rw [f2 h67]; rfl)) (by repeat' (first | exact trivial | refine ⟨.inl rfl, ?_⟩ | refine ⟨.inr rfl, ?_⟩))
        refine SC.ifB rfl (fun hbad => ?_) (fun hbad => ?_)
        · have hko : okS l = false := by
            rw [Bool.or_eq_true, decide_eq_true_iff, decide_eq_true_iff] at hbad
            rcases hbad with h | h
            · exact hbad1 h
            · exact hbad2 hg (by omega)
          refine SC.seq (SC.region (SL.A rfl (SL.A rfl (SL.nil (ST.thenN (SC.ret (ST.blockR (ST.thenR (ST.thenR (ST.blockR (ST.thenR ?_)))))))))))
          exact ST.ret2 (.inl rfl) results54 rfl rfl ⟨rfl, hle.trans (hle2.trans hle3), .inr ⟨hko, rfl⟩⟩
        · rw [Bool.or_eq_false_iff, decide_eq_false_iff_not, decide_eq_false_iff_not] at hbad
          refine SC.skip (ST.blockN (ST.thenN (SC.region (SL.M rfl (SL.U (SU.add rfl rfl (by omega)) (SL.A rfl (SL.nil ?_)))))))
          exact ST.again (g3, _, out.take k ++ x :: out.drop k, i + 1) ⟨rfl, rfl, rfl, trivial⟩ rfl rfl (hgo g3 q3 d3 hg (hle.trans (hle2.trans hle3)) hres hbad.1 (by omega)) (by (first | with_reducible rfl | ((try dsimp only); (try simp only [List.length_append, List.length_cons, List.length_nil, List.length_singleton, List.length_take, List.length_drop]) <;> omega)))
  · have hii : l.take i = l := List.take_of_length_le (by omega)
    rw [hii] at hmem hneg
    have hset := setC_of hstr hmem
    have hok : okS l = true := by unfold okS; rw [hneg, ← hset]; simpa using h9
    refine SC.exit (ST.thenX (ST.thenX (ST.blockX (ST.thenN (SC.seq (SC.region (SL.M rfl (SL.A rfl (SL.A rfl (SL.nil (ST.thenN (SC.ret ?_))))))))))))
    exact ST.ret2 (.inl rfl) results54 rfl rfl ⟨rfl, hle, .inl ⟨hok, _, rfl, by rw [← hset]; exact hov⟩⟩
end Go.Proofs.YtkdibcicncjpdaaGreat
