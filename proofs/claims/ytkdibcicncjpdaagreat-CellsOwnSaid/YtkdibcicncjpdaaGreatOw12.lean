/- Prr SyQ Mad1 Mad2 Mad3 Mad4 -/
import Derived.Test.YtkdibcicncjpdaaGreatOw11
import Derived.Test.YtkdibcicncjpdaaGreatOw04
import Derived.Test.YtkdibcicncjpdaaGreatOw09
set_option linter.unusedSimpArgs false
set_option linter.unusedVariables false
namespace Go.Proofs.YtkdibcicncjpdaaGreat
open _root_.Go.Proofs.Tryz _root_.Go.Proofs.YtkdibcicncjpdaaGreat.Tryz
open Go Go.Sy Go.Pl Go.Proofs
set_option maxRecDepth 100000
set_option maxHeartbeats 2000000
theorem refRight_facts {l : List Cl} (h : (refCheckC l).2 = 0) : l.length ≤ 4000 ∧ (canonC l).Pairwise (fun a b => a.id < b.id) ∧ tabC l = canonC l ∧ ∀ x ∈ canonC l, formC (tabC l) x = 0 := by
 unfold refCheckC at h
 split at h
 ·exact absurd h dC
 ·rename_i hl
  cases hc : chk1 (tabC l) (canonC l) 0 with
  | some p => rw [hc] at h; exact absurd h (chk1_ne hc)
  | none =>
   have hst := (chk1_strict hc).2
   exact ⟨oM, hst, tabC_strict hst, chk1_none hc⟩
theorem lbI_self : ∀ {l : List Int} {k : Nat} (h : k < l.length), l.Pairwise (· < ·) → lbI l l[k] = k := by
 intro l
 induction l with
 | nil => intro k h; simp at h
 | cons a r ih =>
  intro k h hs
  obtain ⟨h1, h2⟩ := List.pairwise_cons.1 hs
  cases k with
  | zero =>
   unfold lbI
   rw [List.length_eq_zero_iff, List.filter_eq_nil_iff]
   intro y hy
   rcases List.mem_cons.1 hy with rfl | hy
   ·simp
   ·have := h1 y hy; simp; omega
  | succ k =>
   have hk : k < r.length := by simpa using h
   have hlt := h1 r[k] (List.getElem_mem hk)
   have := ih hk h2
   unfold lbI at this ⊢
   simp [hlt, this]
theorem at_found {tl : List Cl} (hs : (tl.map Cl.id).Pairwise (· ≤ ·)) {id : Int} (h : (findT tl id).isSome = true) : atC tl id = lbI (tl.map Cl.id) id := by
 obtain ⟨c, hc⟩ := Option.isSome_iff_exists.1 h
 have hm : (tl.map Cl.id).contains id = true := by
  obtain ⟨h1, h2⟩ := findT_mem hc
  simp
  exact ⟨c, h1, h2⟩
 unfold atC
 rw [if_pos hm]
def refProdBad (a b : List Cl) : Bool := !decide ((refCheckC a).2 = 0) || !decide ((refCheckC b).2 = 0) || decide (((tabC a).length : Int) * (tabC b).length > 4000)
def refProdC (a b : List Cl) : List Cl := if refProdBad a b then [] else if (refCheckC (prodAll a b)).2 = 0 then canonC (prodAll a b) else []
theorem flatMap_take_succ {α β : Type} {l : List α} {i : Nat} (h : i < l.length) (f : α → List β) : (l.take (i + 1)).flatMap f = (l.take i).flatMap f ++ f l[i] := by
 rw [List.take_succ_eq_append_getElem h, List.flatMap_append]
 simp
theorem refProduct_spec (E : World) (g : PH) (s : Own) (v u : Value) (a b : List Cl) (hv : Cells g v a) (hu : Cells g u b) (ha : Fits a) (hb : Fits b) :
  Ctr Tryz.prog E 18 #[.agg #[v], .agg #[u]] g s (fun r g' s' => s = s' ∧ Le g g' ∧ ∃ x, r = .agg #[x] ∧ Cells g' x (refProdC a b)) := by
 obtain ⟨vp0, vc0, hvf⟩ := hv.form
 obtain ⟨up0, uc0, huf⟩ := hu.form
 have hbadA : ¬ (refCheckC a).2 = 0 → refProdBad a b = true := fun h => by simp [refProdBad, h]
 have hbadB : (refCheckC a).2 = 0 → ¬ (refCheckC b).2 = 0 → refProdBad a b = true := fun h h2 => by simp [refProdBad, h2]
 have hbadC : (refCheckC a).2 = 0 → (refCheckC b).2 = 0 → refProdBad a b = decide (((tabC a).length : Int) * (tabC b).length > 4000) := fun h h2 => by simp [refProdBad, h, h2]
 have hta := tabC_length a
 have htb := tabC_length b
 have hmul : (refCheckC a).2 = 0 → (refCheckC b).2 = 0 → ((tabC a).length : Int) * (tabC b).length ≤ 16000000 ∧ 0 ≤ ((tabC a).length : Int) * (tabC b).length := fun h h2 => mul_le_4000 (Nat.le_trans hta (refRight_facts h).1) (Nat.le_trans htb (refRight_facts h2).1)
 refine Ctr.of (args := [.agg #[v], .agg #[u]]) func18 rfl ntmps18 (Nat.le_of_ble_eq_true rfl) ?_
 refine SC.seq (SC.region (SL.W (SO.box rfl) ?_))
 rintro _ _ _ ⟨b2, rfl, rfl, rfl⟩
 refine SL.W (SO.box rfl) ?_
 rintro _ _ _ ⟨b3, rfl, rfl, rfl⟩
 refine SL.W (SO.alloc zeroValue27) ?_
 rintro _ _ _ ⟨b4, rfl, rfl, rfl⟩
 refine SL.nil (ST.thenN (SC.seq (SC.region (SL.K (SQ.loadVarK 2 isAgg27 sizeOf27 rfl rfl rfl) (SL.W (SO.call call60 rfl (refRight_spec E g _ _ a hv ha)) ?_)))))
 rintro _ g1 _ ⟨rfl, rfl, hle1⟩
 refine SL.A rfl (SL.nil (ST.thenN (SC.seq (SC.region (SL.K (SQ.loadVarK 1 isAgg27 sizeOf27 rfl rfl rfl) (SL.W (SO.call call60 rfl (refRight_spec E g1 _ _ b (hu.mono hle1) hb)) ?_))))))
 rintro _ g2 _ ⟨rfl, rfl, hle2⟩
 refine SL.A rfl (SL.nil (ST.thenN (SC.seq (SC.region (SL.K (SQ.loadVarK 2 isAgg27 sizeOf27 rfl rfl rfl) (SL.W (SO.call call61 rfl (refCells_spec E g2 _ _ a (hv.mono (hle1.trans hle2)) ha)) ?_))))))
 rintro v24 g3 _ ⟨rfl, hle3, hA⟩
 refine SL.A rfl (SL.nil (ST.thenN (SC.seq (SC.region (SL.K (SQ.loadVarK 1 isAgg27 sizeOf27 rfl rfl rfl) (SL.W (SO.call call61 rfl (refCells_spec E g3 _ _ b (hu.mono (hle1.trans (hle2.trans hle3))) hb)) ?_))))))
 rintro v26 g4 _ ⟨rfl, hle4, hB⟩
 obtain ⟨ra, hra0, halla0⟩ := hA
 have hra := hra0.mono hle4
 have halla := halla0.mono fun _ _ => CellR.mono hle4
 obtain ⟨rb, hrb, hallb⟩ := hB
 have eal := halla.length
 have ebl := hallb.length
 obtain ⟨pa, ca, rfl⟩ := hra.form
 obtain ⟨pb, cb, rfl⟩ := hrb.form
 refine SL.A rfl (SL.nil (ST.thenN (SC.seq ?_)))
 refine SC.cutB 40 ((refProdBad a b)) ?_ ?_
 ·refine SC.region (SL.M rfl (SL.U (SU.notP rfl) (SL.M rfl ?_)))
  refine SL.split ?_ ?_
  ·intro h29
   refine SL.Z rfl rfl rfl (SL.Z rfl rfl rfl (SL.U (SU.pickT rfl rfl) (SL.M rfl (SL.Z rfl rfl rfl (SL.Z rfl rfl rfl (SL.Z rfl rfl rfl (SL.Z rfl rfl rfl (SL.Z rfl rfl rfl (SL.Z rfl rfl rfl (SL.U (SU.pickT rfl rfl) (SL.nil ?_)))))))))))
   exact ST.mid1 (by (rw [hbadA h29]; rfl)) mI
  ·intro h29
   refine SL.Y rfl rfl rfl (SU.move rfl) (SL.Y rfl rfl rfl (SU.notP rfl) (SL.U (SU.pickF rfl rfl) (SL.M rfl ?_)))
   refine SL.split ?_ ?_
   ·intro h33
    refine SL.Z rfl rfl rfl (SL.Z rfl rfl rfl (SL.Z rfl rfl rfl (SL.Z rfl rfl rfl (SL.Z rfl rfl rfl (SL.Z rfl rfl rfl (SL.U (SU.pickT rfl rfl) (SL.nil ?_)))))))
    exact ST.mid1 (by (rw [hbadB (Decidable.of_not_not h29) h33]; rfl)) mI
   ·intro h33
    refine SL.Y rfl rfl rfl (SU.move rfl) (SL.Y rfl rfl rfl (SU.lenN underlying25 rfl) (SL.Y rfl rfl rfl (SU.move rfl) (SL.Y rfl rfl rfl (SU.lenN underlying25 rfl) (SL.Y rfl rfl rfl (SU.mul rfl rfl (by have := hmul (Decidable.of_not_not h29) (Decidable.of_not_not h33); rw [eal, ebl] at this; omega)) ?_))))
    refine SL.Y rfl rfl rfl (SU.gtr rfl rfl) (SL.U (SU.pickF rfl rfl) (SL.nil ?_))
    exact ST.mid1 (by (rw [hbadC (Decidable.of_not_not h29) (Decidable.of_not_not h33), eal, ebl]; rfl)) mI
 refine SC.ifB rfl (fun hbad => ?_) (fun hbad => ?_)
 ·refine SC.seq (SC.region (SL.U (SU.build rfl (buildE27)) (SL.on (SO.storeAllK 0 sizeOf27 rfl rfl rfl rfl rfl (by exact ⟨rfl, trivial⟩)) ?_)))
  rintro _ _ _ ⟨rfl, rfl⟩
  refine SL.nil (ST.thenN (SC.ret (ST.thenR ?_)))
  exact ST.retCD 0 s (.inl rfl) results18 rfl isAgg27 sizeOf27 rfl rfl (.cons _ (.cons _ (.cons _ (.refl _)))) ⟨rfl, hle1.trans (hle2.trans (hle3.trans hle4)), _, rfl, by unfold refProdC; rw [if_pos hbad]; exact ⟨[], Sl.nil _ _, trivial⟩⟩
 ·have hra0 : (refCheckC a).2 = 0 := Decidable.of_not_not fun h => by rw [hbadA h] at hbad; cases hbad
  have hrb0 : (refCheckC b).2 = 0 := Decidable.of_not_not fun h => by rw [hbadB hra0 h] at hbad; cases hbad
  have hsz : ((tabC a).length : Int) * (tabC b).length ≤ 4000 := by rw [hbadC hra0 hrb0] at hbad; simp at hbad; omega
  obtain ⟨hal, hastr, hat, haf⟩ := refRight_facts hra0
  obtain ⟨hbl, hbstr, hbt, hbf⟩ := refRight_facts hrb0
  rw [← hat] at hastr haf
  rw [← hbt] at hbstr hbf
  have hats := tabC_sorted a
  have hbts := tabC_sorted b
  have hai : ((tabC a).map Cl.id).Pairwise (· < ·) := List.pairwise_map.2 hastr
  have hbi : ((tabC b).map Cl.id).Pairwise (· < ·) := List.pairwise_map.2 hbstr
  have hall4 : tabC a = canonC a → tabC b = canonC b → prodAll a b = (tabC a).flatMap fun x => (tabC b).map (prodCell (tabC a) (tabC b) x) := fun h h2 => by unfold prodAll; rw [← h, ← h2]
  have hprod := hall4 hat hbt
  have hCa : Cells g4 (.slice pa ra.length ca) (tabC a) := ⟨ra, hra, halla⟩
  have hCb : Cells g4 (.slice pb rb.length cb) (tabC b) := ⟨rb, hrb, hallb⟩
  refine SC.skip (ST.thenN (SC.seq (SC.region (SL.M rfl (SL.U (SU.lenN underlying25 rfl) (SL.A rfl (SL.nil (ST.thenN (SC.seq (SC.region (SL.W (SO.alloc zeroValue27) ?_)))))))))))
  rintro _ _ _ ⟨b10, rfl, rfl, rfl⟩
  refine SL.nil (ST.thenN (SC.seq (SC.seq (SC.region (SL.A rfl (SL.nil (ST.thenN (SC.block (SC.nilRow 51 3 ?_)))))))))
  refine SC.loop (ι := PH × Value × List Rc × Nat) (fun i => [(2, pp b2 0), (3, pp b3 0), (4, pp b4 0), (7, .slice pa ra.length ca), (8, .slice pb rb.length cb), (9, vi rb.length), (10, pp b10 0), (11, vi i.2.2.2)]) (fun i => i.1) (fun i => rowA encCell 51 i.2.1 i.2.2.1 :: pt b10 (.cells #[i.2.1] 27 (0, 0)) :: pt b4 (.cells #[.slice none 0 0] 27 (0, 0)) :: pt b3 (.cells #[u] 27 (0, 0)) :: pt b2 (.cells #[v] 27 (0, 0)) :: s)
   (fun i => Le g4 i.1 ∧ i.2.2.2 ≤ ra.length ∧ All2 (CellR i.1) (((tabC a).take i.2.2.2).flatMap fun x => (tabC b).map (prodCell (tabC a) (tabC b) x)) i.2.2.1) (fun i => ra.length - i.2.2.2)
   (g4, .slice none 0 0, [], 0) ⟨rfl, rfl, rfl, rfl, rfl, rfl, rfl, rfl, trivial⟩ rfl rfl ⟨Le.refl g4, Nat.zero_le _, trivial⟩ ?_
  rintro ⟨g5, ov, rcs, i⟩ ⟨hle5, hi, hrcs⟩
  dsimp only at hle5 hi hrcs ⊢
  refine SC.seq (SC.seq (SC.region (SL.M rfl (SL.M rfl (SL.U (SU.lenN underlying25 rfl) (SL.U (SU.lss rfl rfl) (SL.nil (ST.thenN ?_))))))))
  refine SC.ifP rfl (fun hlt => ?_) (fun hlt => ?_)
  ·have hil : i < (tabC a).length := oM
   have hir : i < ra.length := oM
   have hb1 := hra.based oM
   have hxr := halla.get (List.getElem?_eq_getElem hil) (List.getElem?_eq_getElem hir)
   have hgx0 : ra[((i : Nat) : Int).toNat]? = some ra[i] := List.getElem?_eq_getElem hir
   have hxm := List.getElem_mem hil
   have hxi : lbI ((tabC a).map Cl.id) (tabC a)[i].id = i := by
    have := lbI_self (l := (tabC a).map Cl.id) (k := i) (by simpa using hil) hai
    simpa using this
   have hsucc := flatMap_take_succ hil fun x => (tabC b).map (prodCell (tabC a) (tabC b) x)
   generalize hxe : (tabC a)[i] = x at *
   obtain ⟨xp, xcap, hrx, hxs⟩ := cellR_form hxr
   rw [hrx] at hgx0
   have hgx := hgx0
   have hxf := haf x hxm
   have hxd := form_dim hxf
   have hxo := form_ok hxf
   have hxfd := form_found hxf
   refine SC.skip (ST.thenN (SC.seq (SC.block (SC.seq (SC.region (SL.A rfl (SL.nil (ST.thenN (SC.block ?_)))))))))
   refine SC.loop (ι := PH × Value × List Rc × Nat) (fun k => [(2, pp b2 0), (3, pp b3 0), (4, pp b4 0), (7, .slice pa ra.length ca), (8, .slice pb rb.length cb), (9, vi rb.length), (10, pp b10 0), (11, vi i), (12, vi k.2.2.2)]) (fun k => k.1) (fun k => rowA encCell 51 k.2.1 k.2.2.1 :: pt b10 (.cells #[k.2.1] 27 (0, 0)) :: pt b4 (.cells #[.slice none 0 0] 27 (0, 0)) :: pt b3 (.cells #[u] 27 (0, 0)) :: pt b2 (.cells #[v] 27 (0, 0)) :: s)
    (fun k => Le g5 k.1 ∧ k.2.2.2 ≤ rb.length ∧ All2 (CellR k.1) ((((tabC a).take i).flatMap fun x => (tabC b).map (prodCell (tabC a) (tabC b) x)) ++ ((tabC b).take k.2.2.2).map (prodCell (tabC a) (tabC b) x)) k.2.2.1) (fun k => rb.length - k.2.2.2)
    (g5, ov, rcs, 0) ⟨rfl, rfl, rfl, rfl, rfl, rfl, rfl, rfl, rfl, trivial⟩ rfl rfl ⟨Le.refl g5, Nat.zero_le _, by simpa using hrcs⟩ ?_
   rintro ⟨g6, ov2, rcs2, k⟩ ⟨hle6, hk, hrcs2⟩
   dsimp only at hle6 hk hrcs2 ⊢
   refine SC.seq (SC.seq (SC.region (SL.M rfl (SL.M rfl (SL.U (SU.lss rfl rfl) (SL.nil (ST.thenN ?_)))))))
   refine SC.ifP rfl (fun hlt2 => ?_) (fun hlt2 => ?_)
   ·have hkl : k < (tabC b).length := oM
    have hkr : k < rb.length := oM
    have hb2 := hrb.based oM
    have hyr := hallb.get (List.getElem?_eq_getElem hkl) (List.getElem?_eq_getElem hkr)
    have hgy0 : rb[((k : Nat) : Int).toNat]? = some rb[k] := List.getElem?_eq_getElem hkr
    have hym := List.getElem_mem hkl
    have hyi : lbI ((tabC b).map Cl.id) (tabC b)[k].id = k := by
     have := lbI_self (l := (tabC b).map Cl.id) (k := k) (by simpa using hkl) hbi
     simpa using this
    have htk : ((tabC b).take (k + 1)).map (prodCell (tabC a) (tabC b) x) = ((tabC b).take k).map (prodCell (tabC a) (tabC b) x) ++ [prodCell (tabC a) (tabC b) x (tabC b)[k]] := by rw [List.take_succ_eq_append_getElem hkl, List.map_append]; rfl
    generalize hye : (tabC b)[k] = y at *
    obtain ⟨yp, ycap, hry, hys⟩ := cellR_form hyr
    rw [hry] at hgy0
    have hgy := hgy0
    have hyf := hbf y hym
    have hyd := form_dim hyf
    have hyo := form_ok hyf
    have hyfd := form_found hyf
    have hlenr := hrcs2.length
    have hbnd : (i : Int) * rb.length ≤ 4000 := by
     have h1 : (i : Int) * rb.length ≤ (ra.length : Int) * rb.length := Int.mul_le_mul_of_nonneg_right oM oM
     rw [eal, ebl] at hsz
     omega
    have hbnd0 : 0 ≤ (i : Int) * rb.length := Int.mul_nonneg oM oM
    have hrcl : rcs2.length ≤ 4000 := by
     have h1 : rcs2.length = i * rb.length + k := by
      rw [← hlenr, List.length_append, List.length_map, List.length_take, flatMap_len, List.length_take, ← ebl]
      rw [Nat.min_eq_left oM, Nat.min_eq_left oM]
     have h2 : i * rb.length + k ≤ ra.length * rb.length := by
      have h3 : (i + 1) * rb.length ≤ ra.length * rb.length := Nat.mul_le_mul_right _ oM
      rw [Nat.succ_mul] at h3
      omega
     have h4 : ((ra.length * rb.length : Nat) : Int) ≤ 4000 := by rw [eal, ebl] at hsz; rw [Int.natCast_mul]; exact hsz
     omega
    have hid : prodId (tabC a) (tabC b) x.id y.id = (i : Int) * rb.length + k + 1 := by unfold prodId; rw [hxi, hyi, ebl]
    have hra6 := hra.mono (hle5.trans hle6)
    have hrb6 := hrb.mono (hle5.trans hle6)
    have hxs6 := hxs.mono (hle5.trans hle6)
    have hys6 := hys.mono (hle5.trans hle6)
    refine SC.skip (ST.thenN (SC.seq (SC.block (SC.seq ?_))))
    refine SC.draw [] [(0, 2), (1, 2), (2, 2), (3, 2), (4, 2), (5, 2), (6, 2), (7, 2), (8, 2), (9, 2), (10, 1), (11, 2), (12, 2), (13, 2), (14, 2), (15, 1), (16, 2), (17, 2), (18, 0), (19, 0)] Tryz.mixed (by kernel_rfl) ?_
    refine SP.U (i := 0) rfl (SU.move rfl) (SP.U (i := 1) rfl (SU.move rfl) (SP.U (i := 2) rfl (SU.mul rfl rfl oM) (SP.U (i := 3) rfl (SU.move rfl) (SP.U (i := 4) rfl (SU.add rfl rfl oM) (SP.U (i := 5) rfl (SU.add rfl rfl oM) (SP.U (i := 6) rfl (SU.move rfl) (SP.U (i := 7) rfl (SU.move rfl) (SP.U (i := 8) rfl (SU.indexAddr underlying25 sizeOf51 rfl rfl hb1 oM sL) (SP.U (i := 9) rfl (SU.fieldAddrC underlying51 rfl sizeOf3 rfl hb1) (SP.K (i := 10) rfl (SQ.partA (e := encCell) (o := 1) (u := vi x.dim) isAgg3 rfl hra6.rd hgx rfl) (SP.U (i := 11) rfl (SU.move rfl) (SP.U (i := 12) rfl (SU.move rfl) (SP.U (i := 13) rfl (SU.indexAddr underlying25 sizeOf51 rfl rfl hb2 oM sL) (SP.U (i := 14) rfl (SU.fieldAddrC underlying51 rfl sizeOf3 rfl hb2) (SP.K (i := 15) rfl (SQ.partA (e := encCell) (o := 1) (u := vi y.dim) isAgg3 rfl hrb6.rd hgy rfl) (SP.U (i := 16) rfl (SU.add rfl rfl oM) (SP.U (i := 17) rfl (SU.build rfl (buildC51 _ _)) (SP.o (i := 18) rfl (SO.alloc zeroValue51) dC (.inr (by rintro _ _ _ ⟨b13, rfl, rfl, rfl⟩; exact ⟨by exact Le.refl _, (by exact .cons _ (.refl _))⟩)) ?_))))))))))))))))))
    rintro _ _ _ ⟨b13, rfl, rfl, rfl⟩
    refine SP.on (i := 19) rfl (SO.storeAllK 0 sizeOf51 rfl rfl rfl rfl rfl (by exact ⟨rfl, rfl, rfl, trivial⟩)) (.inr (by rintro _ _ _ ⟨rfl, rfl⟩; exact ⟨by exact Le.refl _, (by exact .cons _ (.refl _))⟩)) ?_
    rintro _ _ _ ⟨rfl, rfl⟩
    refine SP.nil (ST.thenN (SC.seq (SC.seq (SC.region (SL.A rfl (SL.nil (ST.thenN (SC.block ?_))))))))
    refine SC.to (fun w hw => ?_) (g' := g6) (s' := pt b13 (.cells #[vi (prodId (tabC a) (tabC b) x.id y.id), vi (x.dim + y.dim), .slice none 0 0] 51 (0, 0)) :: rowA encCell 51 ov2 rcs2 :: pt b10 (.cells #[ov2] 27 (0, 0)) :: pt b4 (.cells #[.slice none 0 0] 27 (0, 0)) :: pt b3 (.cells #[u] 27 (0, 0)) :: pt b2 (.cells #[v] 27 (0, 0)) :: s) ?_
    ·rw [hid]; exact hw
    refine SC.nilRow 55 2 ?_
    refine SC.loop (ι := Value × Nat) (fun j => [(2, pp b2 0), (3, pp b3 0), (4, pp b4 0), (7, .slice pa ra.length ca), (8, .slice pb rb.length cb), (9, vi rb.length), (10, pp b10 0), (11, vi i), (12, vi k), (13, pp b13 0), (14, vi j.2)]) (fun _ => g6)
     (fun j => rowA encSide 55 j.1 ((x.sides.take j.2).map fun q => (⟨prodId (tabC a) (tabC b) q.cell y.id, q.sign⟩ : Side)) :: pt b13 (.cells #[vi (prodId (tabC a) (tabC b) x.id y.id), vi (x.dim + y.dim), j.1] 51 (0, 0)) :: rowA encCell 51 ov2 rcs2 :: pt b10 (.cells #[ov2] 27 (0, 0)) :: pt b4 (.cells #[.slice none 0 0] 27 (0, 0)) :: pt b3 (.cells #[u] 27 (0, 0)) :: pt b2 (.cells #[v] 27 (0, 0)) :: s)
     (fun j => j.2 ≤ x.sides.length) (fun j => x.sides.length - j.2) (.slice none 0 0, 0) ⟨rfl, rfl, rfl, rfl, rfl, rfl, rfl, rfl, rfl, rfl, rfl, trivial⟩ rfl rfl (Nat.zero_le _) ?_
    rintro ⟨sv, j⟩ hj
    dsimp only at hj ⊢
    refine SC.seq (SC.seq (SC.region (SL.M rfl (SL.M rfl (SL.M rfl (SL.U (SU.indexAddr underlying25 sizeOf51 rfl rfl hb1 oM sL) (SL.U (SU.fieldAddrC underlying51 rfl sizeOf49 rfl hb1) (SL.K (SQ.partA (e := encCell) (o := 2) (u := .slice xp x.sides.length xcap) isAgg49 rfl hra6.rd hgx rfl) (SL.U (SU.lenN underlying49 rfl) (SL.U (SU.lss rfl rfl) (SL.nil (ST.thenN ?_))))))))))))
    refine SC.ifP rfl (fun hlt3 => ?_) (fun hlt3 => ?_)
    ·have hjl : j < x.sides.length := oM
     have hb3 := hxs6.based oM
     have hjx : x.sides[((j : Nat) : Int).toNat]? = some x.sides[j] := List.getElem?_eq_getElem hjl
     have htj : (x.sides.take (j + 1)).map (fun q => (⟨prodId (tabC a) (tabC b) q.cell y.id, q.sign⟩ : Side)) = (x.sides.take j).map (fun q => (⟨prodId (tabC a) (tabC b) q.cell y.id, q.sign⟩ : Side)) ++ [⟨prodId (tabC a) (tabC b) x.sides[j].cell y.id, x.sides[j].sign⟩] := by rw [List.take_succ_eq_append_getElem hjl, List.map_append]; rfl
     have hqf := hxfd _ (List.getElem_mem hjl)
     generalize x.sides[j] = z at *
     have hatz := at_found hats hqf
     have hlbz := lbI_le ((tabC a).map Cl.id) z.cell
     rw [List.length_map] at hlbz
     have hidz : prodId (tabC a) (tabC b) z.cell y.id = ((lbI ((tabC a).map Cl.id) z.cell : Nat) : Int) * rb.length + k + 1 := by unfold prodId; rw [hyi, ebl]
     have hbz : ((lbI ((tabC a).map Cl.id) z.cell : Nat) : Int) * rb.length ≤ 4000 := by
      have h1 : ((lbI ((tabC a).map Cl.id) z.cell : Nat) : Int) * rb.length ≤ (ra.length : Int) * rb.length := Int.mul_le_mul_of_nonneg_right oM oM
      rw [eal, ebl] at hsz
      omega
     have hbz0 : 0 ≤ ((lbI ((tabC a).map Cl.id) z.cell : Nat) : Int) * rb.length := Int.mul_nonneg oM oM
     refine SC.skip (ST.thenN (SC.seq (SC.block (SC.seq (SC.region (SL.M rfl (SL.M rfl (SL.U (SU.indexAddr underlying25 sizeOf51 rfl rfl hb1 oM sL) (SL.U (SU.fieldAddrC underlying51 rfl sizeOf49 rfl hb1) (SL.K (SQ.partA (e := encCell) (o := 2) (u := .slice xp x.sides.length xcap) isAgg49 rfl hra6.rd hgx rfl) (SL.M rfl (SL.U (SU.indexAddr underlying49 sizeOf55 rfl rfl hb3 oM sL) (SL.K (SQ.elemA isAgg55 sizeOf55 rfl hxs6.rd hjx) (SL.W (SO.alloc zeroValue55) ?_))))))))))))))
     rintro _ _ _ ⟨b15, rfl, rfl, rfl⟩
     refine SL.on (SO.storeAllK 0 sizeOf55 rfl rfl rfl rfl rfl (by exact ⟨rfl, rfl, trivial⟩)) ?_
     rintro _ _ _ ⟨rfl, rfl⟩
     refine SL.nil (ST.thenN ?_)
     refine SC.to (fun w hw => hw) (g' := g6) (s' := pt b15 (.cells #[vi z.cell, vi z.sign] 55 (0, 0)) :: rowA encSide 55 sv ((x.sides.take j).map fun q => (⟨prodId (tabC a) (tabC b) q.cell y.id, q.sign⟩ : Side)) :: pt b13 (.cells #[vi (prodId (tabC a) (tabC b) x.id y.id), vi (x.dim + y.dim), sv] 51 (0, 0)) :: rowA encCell 51 ov2 rcs2 :: pt b10 (.cells #[ov2] 27 (0, 0)) :: pt b4 (.cells #[.slice none 0 0] 27 (0, 0)) :: pt b3 (.cells #[u] 27 (0, 0)) :: pt b2 (.cells #[v] 27 (0, 0)) :: s) ?_
     refine SC.draw [15, 16, 17] [(0, 2), (1, 1), (2, 2), (3, 2), (4, 1), (6, 2), (8, 2), (11, 2), (12, 1), (5, 0), (7, 2), (9, 2), (10, 2), (13, 2), (14, 0), (15, 0), (16, 0), (17, 0)] Tryz.mixed (by kernel_rfl) ?_
     refine SP.U (i := 0) rfl (SU.fieldAddr underlying51 rfl sizeOf49 rfl) (SP.K (i := 1) rfl (SQ.load (v := sv) isAgg49 rfl (CellAt.own 2 rfl rfl)) (SP.U (i := 2) rfl (SU.move rfl) (SP.U (i := 3) rfl (SU.fieldAddr underlying55 rfl sizeOf3 rfl) (SP.K (i := 4) rfl (SQ.load (v := vi z.cell) isAgg3 rfl (CellAt.own 0 rfl rfl)) (SP.U (i := 6) rfl (SU.move rfl) (SP.U (i := 8) rfl (SU.move rfl) (SP.U (i := 11) rfl (SU.fieldAddr underlying55 rfl sizeOf3 rfl) (SP.K (i := 12) rfl (SQ.load (v := vi z.sign) isAgg3 rfl (CellAt.own 0 rfl rfl)) (SP.o (i := 5) rfl (SO.call call62 rfl (at_spec E g6 _ _ (tabC a) z.cell (hCa.mono (hle5.trans hle6)) oM hats)) dC (.inr (by rintro _ _ _ ⟨rfl, rfl, rfl⟩; exact ⟨by exact Le.refl _, (by exact .refl _)⟩)) ?_)))))))))
     rintro _ _ _ ⟨rfl, rfl, rfl⟩
     rw [hatz]
     refine SP.U (i := 7) rfl (SU.mul rfl rfl oM) (SP.U (i := 9) rfl (SU.add rfl rfl oM) (SP.U (i := 10) rfl (SU.eq (v' := vi (prodId (tabC a) (tabC b) z.cell y.id)) (SU.add rfl rfl oM) (congrArg vi hidz.symm)) (SP.U (i := 13) rfl (SU.build rfl (buildS55 _ _)) (SP.o (i := 14) rfl (SO.buildSlice sty49 rfl rfl rfl (szs_mk (by exact ⟨rfl, trivial⟩)) dC) dC (.inr (by rintro _ _ _ ⟨b105, rfl, rfl, rfl⟩; exact ⟨by exact Le.refl _, (by exact .cons _ (.refl _))⟩)) ?_))))
     rintro _ _ _ ⟨b105, rfl, rfl, rfl⟩
     refine SP.o (i := 15) rfl (SO.app1A (e := encSide) 1 ⟨prodId (tabC a) (tabC b) z.cell y.id, z.sign⟩ sty49 rfl rfl rfl rfl rfl (by simp; omega) (by simp; omega)) dC (.inl dC) ?_
     rintro sv' _ _ ⟨rfl, rfl⟩
     rw [← htj]
     refine SP.facts fun ⟨w0, hw0⟩ => ?_
     obtain ⟨q6, d6, rfl⟩ := rowA_form (i := 1) hw0 rfl
     clear hw0 w0
     refine SP.ou (i := 16) rfl (SU.fieldAddr underlying51 rfl sizeOf49 rfl) dC (.inl dC) (SP.on (i := 17) rfl (SO.store1 2 sizeOf49 rfl rfl rfl rfl (Nat.le_of_ble_eq_true rfl) (by rfl)) (.inl dC) ?_)
     rintro _ _ _ ⟨rfl, rfl⟩
     refine SP.nil (ST.blockN (ST.thenN (SC.region (SL.M rfl (SL.U (SU.add rfl rfl oM) (SL.A rfl (SL.nil (ST.drop (s' := rowA encSide 55 (.slice q6 ((x.sides.take (j + 1)).map fun q => (⟨prodId (tabC a) (tabC b) q.cell y.id, q.sign⟩ : Side)).length d6) ((x.sides.take (j + 1)).map fun q => (⟨prodId (tabC a) (tabC b) q.cell y.id, q.sign⟩ : Side)) :: pt b13 (.cells #[vi (prodId (tabC a) (tabC b) x.id y.id), vi (x.dim + y.dim), .slice q6 ((x.sides.take (j + 1)).map fun q => (⟨prodId (tabC a) (tabC b) q.cell y.id, q.sign⟩ : Side)).length d6] 51 (0, 0)) :: rowA encCell 51 ov2 rcs2 :: pt b10 (.cells #[ov2] 27 (0, 0)) :: pt b4 (.cells #[.slice none 0 0] 27 (0, 0)) :: pt b3 (.cells #[u] 27 (0, 0)) :: pt b2 (.cells #[v] 27 (0, 0)) :: s) (.cons _ (.refl _)) ?_))))))))
     exact ST.again (_, j + 1) ⟨rfl, rfl, rfl, rfl, rfl, rfl, rfl, rfl, rfl, rfl, rfl, trivial⟩ rfl rfl lN lN
    ·have hjj : x.sides.take j = x.sides := List.take_of_length_le oM
     rw [hjj]
     generalize hfl1 : x.sides.map (fun q => (⟨prodId (tabC a) (tabC b) q.cell y.id, q.sign⟩ : Side)) = fl1 at *
     have hfl1l : fl1.length = x.sides.length := by rw [← hfl1, List.length_map]
     refine SC.exit (ST.thenX (ST.thenX (ST.blockX (ST.thenN (SC.seq (SC.seq (SC.region (SL.A rfl (SL.nil (ST.thenN (SC.block ?_)))))))))))
     refine SC.loop (ι := Value × Nat) (fun m => [(2, pp b2 0), (3, pp b3 0), (4, pp b4 0), (7, .slice pa ra.length ca), (8, .slice pb rb.length cb), (9, vi rb.length), (10, pp b10 0), (11, vi i), (12, vi k), (13, pp b13 0), (16, vi m.2)]) (fun _ => g6)
      (fun m => rowA encSide 55 m.1 (fl1 ++ (y.sides.take m.2).map fun q => (⟨prodId (tabC a) (tabC b) x.id q.cell, signC x.dim * q.sign⟩ : Side)) :: pt b13 (.cells #[vi (prodId (tabC a) (tabC b) x.id y.id), vi (x.dim + y.dim), m.1] 51 (0, 0)) :: rowA encCell 51 ov2 rcs2 :: pt b10 (.cells #[ov2] 27 (0, 0)) :: pt b4 (.cells #[.slice none 0 0] 27 (0, 0)) :: pt b3 (.cells #[u] 27 (0, 0)) :: pt b2 (.cells #[v] 27 (0, 0)) :: s)
      (fun m => m.2 ≤ y.sides.length) (fun m => y.sides.length - m.2) (sv, 0) ⟨rfl, rfl, rfl, rfl, rfl, rfl, rfl, rfl, rfl, rfl, rfl, trivial⟩ rfl (by simp) (Nat.zero_le _) ?_
     rintro ⟨sv2, m⟩ hm
     dsimp only at hm ⊢
     refine SC.seq (SC.seq (SC.region (SL.M rfl (SL.M rfl (SL.M rfl (SL.U (SU.indexAddr underlying25 sizeOf51 rfl rfl hb2 oM sL) (SL.U (SU.fieldAddrC underlying51 rfl sizeOf49 rfl hb2) (SL.K (SQ.partA (e := encCell) (o := 2) (u := .slice yp y.sides.length ycap) isAgg49 rfl hrb6.rd hgy rfl) (SL.U (SU.lenN underlying49 rfl) (SL.U (SU.lss rfl rfl) (SL.nil (ST.thenN ?_))))))))))))
     refine SC.ifP rfl (fun hlt4 => ?_) (fun hlt4 => ?_)
     ·have hml : m < y.sides.length := oM
      have hb3 := hys6.based oM
      have hmx : y.sides[((m : Nat) : Int).toNat]? = some y.sides[m] := List.getElem?_eq_getElem hml
      have htm : fl1 ++ (y.sides.take (m + 1)).map (fun q => (⟨prodId (tabC a) (tabC b) x.id q.cell, signC x.dim * q.sign⟩ : Side)) = fl1 ++ (y.sides.take m).map (fun q => (⟨prodId (tabC a) (tabC b) x.id q.cell, signC x.dim * q.sign⟩ : Side)) ++ [⟨prodId (tabC a) (tabC b) x.id y.sides[m].cell, signC x.dim * y.sides[m].sign⟩] := by rw [List.take_succ_eq_append_getElem hml, List.map_append]; simp
      have hqf := hyfd _ (List.getElem_mem hml)
      have hqs := hyo.2 _ (List.getElem_mem hml)
      generalize y.sides[m] = z at *
      have hatz := at_found hbts hqf
      have hlbz := lbI_le ((tabC b).map Cl.id) z.cell
      rw [List.length_map] at hlbz
      have hidz : prodId (tabC a) (tabC b) x.id z.cell = (i : Int) * rb.length + ((lbI ((tabC b).map Cl.id) z.cell : Nat) : Int) + 1 := by unfold prodId; rw [hxi, ebl]
      have hsgn : z.sign * signC x.dim = signC x.dim * z.sign := Int.mul_comm _ _
      have hsgc := signC_cases x.dim
      have htmod : x.dim.tmod 2 = x.dim % 2 := Int.tmod_eq_emod_of_nonneg hxd.1
      have hmulb : -1 ≤ z.sign * signC x.dim ∧ z.sign * signC x.dim ≤ 1 := by rcases hqs with h | h <;> rcases hsgc with h2 | h2 <;> rw [h, h2] <;> decide
      refine SC.skip (ST.thenN (SC.seq (SC.block (SC.seq (SC.region (SL.M rfl (SL.M rfl (SL.U (SU.indexAddr underlying25 sizeOf51 rfl rfl hb2 oM sL) (SL.U (SU.fieldAddrC underlying51 rfl sizeOf49 rfl hb2) (SL.K (SQ.partA (e := encCell) (o := 2) (u := .slice yp y.sides.length ycap) isAgg49 rfl hrb6.rd hgy rfl) (SL.M rfl (SL.U (SU.indexAddr underlying49 sizeOf55 rfl rfl hb3 oM sL) (SL.K (SQ.elemA isAgg55 sizeOf55 rfl hys6.rd hmx) (SL.W (SO.alloc zeroValue55) ?_))))))))))))))
      rintro _ _ _ ⟨b17, rfl, rfl, rfl⟩
      refine SL.on (SO.storeAllK 0 sizeOf55 rfl rfl rfl rfl rfl (by exact ⟨rfl, rfl, trivial⟩)) ?_
      rintro _ _ _ ⟨rfl, rfl⟩
      refine SL.nil (ST.thenN ?_)
      refine SC.to (fun w hw => hw) (g' := g6) (s' := pt b17 (.cells #[vi z.cell, vi z.sign] 55 (0, 0)) :: rowA encSide 55 sv2 (fl1 ++ (y.sides.take m).map fun q => (⟨prodId (tabC a) (tabC b) x.id q.cell, signC x.dim * q.sign⟩ : Side)) :: pt b13 (.cells #[vi (prodId (tabC a) (tabC b) x.id y.id), vi (x.dim + y.dim), sv2] 51 (0, 0)) :: rowA encCell 51 ov2 rcs2 :: pt b10 (.cells #[ov2] 27 (0, 0)) :: pt b4 (.cells #[.slice none 0 0] 27 (0, 0)) :: pt b3 (.cells #[u] 27 (0, 0)) :: pt b2 (.cells #[v] 27 (0, 0)) :: s) ?_
      refine SC.draw [24, 25, 26] [(0, 2), (1, 1), (2, 2), (3, 2), (4, 2), (5, 2), (6, 2), (7, 1), (11, 2), (12, 1), (13, 2), (14, 2), (15, 2), (16, 2), (17, 1), (18, 2), (19, 2), (20, 2), (21, 2), (8, 0), (9, 2), (10, 2), (22, 2), (23, 0), (24, 0), (25, 0), (26, 0)] Tryz.mixed (by kernel_rfl) ?_
      refine SP.U (i := 0) rfl (SU.fieldAddr underlying51 rfl sizeOf49 rfl) (SP.K (i := 1) rfl (SQ.load (v := sv2) isAgg49 rfl (CellAt.own 2 rfl rfl)) (SP.U (i := 2) rfl (SU.move rfl) (SP.U (i := 3) rfl (SU.move rfl) (SP.U (i := 4) rfl (SU.mul rfl rfl oM) (SP.U (i := 5) rfl (SU.move rfl) (SP.U (i := 6) rfl (SU.fieldAddr underlying55 rfl sizeOf3 rfl) (SP.K (i := 7) rfl (SQ.load (v := vi z.cell) isAgg3 rfl (CellAt.own 0 rfl rfl)) (SP.U (i := 11) rfl (SU.fieldAddr underlying55 rfl sizeOf3 rfl) (SP.K (i := 12) rfl (SQ.load (v := vi z.sign) isAgg3 rfl (CellAt.own 0 rfl rfl)) (SP.U (i := 13) rfl (SU.move rfl) (SP.U (i := 14) rfl (SU.move rfl) (SP.U (i := 15) rfl (SU.indexAddr underlying25 sizeOf51 rfl rfl hb1 oM sL) (SP.U (i := 16) rfl (SU.fieldAddrC underlying51 rfl sizeOf3 rfl hb1) (SP.K (i := 17) rfl (SQ.partA (e := encCell) (o := 1) (u := vi x.dim) isAgg3 rfl hra6.rd hgx rfl) (SP.U (i := 18) rfl (SU.eq (v' := vi (x.dim % 2)) (SU.rem rfl rfl dC) (congrArg vi htmod)) (SP.U (i := 19) rfl (SU.mul rfl rfl oM) (SP.U (i := 20) rfl (SU.eq (v' := vi (signC x.dim)) (SU.sub rfl rfl oM) rfl) (SP.U (i := 21) rfl (SU.eq (v' := vi (signC x.dim * z.sign)) (SU.mul rfl rfl oM) (congrArg vi hsgn)) (SP.o (i := 8) rfl (SO.call call62 rfl (at_spec E g6 _ _ (tabC b) z.cell (hCb.mono (hle5.trans hle6)) oM hbts)) dC (.inr (by rintro _ _ _ ⟨rfl, rfl, rfl⟩; exact ⟨by exact Le.refl _, (by exact .refl _)⟩)) ?_)))))))))))))))))))
      rintro _ _ _ ⟨rfl, rfl, rfl⟩
      rw [hatz]
      refine SP.U (i := 9) rfl (SU.add rfl rfl oM) (SP.U (i := 10) rfl (SU.eq (v' := vi (prodId (tabC a) (tabC b) x.id z.cell)) (SU.add rfl rfl oM) (congrArg vi hidz.symm)) (SP.U (i := 22) rfl (SU.build rfl (buildS55 _ _)) (SP.o (i := 23) rfl (SO.buildSlice sty49 rfl rfl rfl (szs_mk (by exact ⟨rfl, trivial⟩)) dC) dC (.inr (by rintro _ _ _ ⟨b149, rfl, rfl, rfl⟩; exact ⟨by exact Le.refl _, (by exact .cons _ (.refl _))⟩)) ?_)))
      rintro _ _ _ ⟨b149, rfl, rfl, rfl⟩
      refine SP.o (i := 24) rfl (SO.app1A (e := encSide) 1 ⟨prodId (tabC a) (tabC b) x.id z.cell, signC x.dim * z.sign⟩ sty49 rfl rfl rfl rfl rfl (by simp; omega) (by simp; omega)) dC (.inl dC) ?_
      rintro sv3 _ _ ⟨rfl, rfl⟩
      rw [← htm]
      refine SP.facts fun ⟨w0, hw0⟩ => ?_
      obtain ⟨q7, d7, rfl⟩ := rowA_form (i := 1) hw0 rfl
      clear hw0 w0
      refine SP.ou (i := 25) rfl (SU.fieldAddr underlying51 rfl sizeOf49 rfl) dC (.inl dC) (SP.on (i := 26) rfl (SO.store1 2 sizeOf49 rfl rfl rfl rfl (Nat.le_of_ble_eq_true rfl) (by rfl)) (.inl dC) ?_)
      rintro _ _ _ ⟨rfl, rfl⟩
      refine SP.nil (ST.blockN (ST.thenN (SC.region (SL.M rfl (SL.U (SU.add rfl rfl oM) (SL.A rfl (SL.nil (ST.drop (s' := rowA encSide 55 (.slice q7 (fl1 ++ (y.sides.take (m + 1)).map fun q => (⟨prodId (tabC a) (tabC b) x.id q.cell, signC x.dim * q.sign⟩ : Side)).length d7) (fl1 ++ (y.sides.take (m + 1)).map fun q => (⟨prodId (tabC a) (tabC b) x.id q.cell, signC x.dim * q.sign⟩ : Side)) :: pt b13 (.cells #[vi (prodId (tabC a) (tabC b) x.id y.id), vi (x.dim + y.dim), .slice q7 (fl1 ++ (y.sides.take (m + 1)).map fun q => (⟨prodId (tabC a) (tabC b) x.id q.cell, signC x.dim * q.sign⟩ : Side)).length d7] 51 (0, 0)) :: rowA encCell 51 ov2 rcs2 :: pt b10 (.cells #[ov2] 27 (0, 0)) :: pt b4 (.cells #[.slice none 0 0] 27 (0, 0)) :: pt b3 (.cells #[u] 27 (0, 0)) :: pt b2 (.cells #[v] 27 (0, 0)) :: s) (.cons _ (.refl _)) ?_))))))))
      exact ST.again (_, m + 1) ⟨rfl, rfl, rfl, rfl, rfl, rfl, rfl, rfl, rfl, rfl, rfl, trivial⟩ rfl rfl lN lN
     ·have hmm : y.sides.take m = y.sides := List.take_of_length_le oM
      rw [hmm]
      have hpc : prodCell (tabC a) (tabC b) x y = ⟨prodId (tabC a) (tabC b) x.id y.id, x.dim + y.dim, fl1 ++ y.sides.map fun q => (⟨prodId (tabC a) (tabC b) x.id q.cell, signC x.dim * q.sign⟩ : Side)⟩ := by unfold prodCell; rw [hfl1]
      generalize hfl2 : (fl1 ++ y.sides.map fun q => (⟨prodId (tabC a) (tabC b) x.id q.cell, signC x.dim * q.sign⟩ : Side)) = fl2 at *
      refine SC.exit (ST.thenX (ST.thenX (ST.blockX (ST.thenN (SC.region (SL.freezeRow fun g7 hle7 hs7 => ?_))))))
      have hsd : SlA encSide g7 sv2 fl2 := hs7
      obtain ⟨q8, d8, rfl⟩ := SlA.form hsd
      obtain ⟨nc, hnc⟩ : ∃ nc : Rc, nc = ⟨prodId (tabC a) (tabC b) x.id y.id, x.dim + y.dim, ⟨q8, fl2.length, d8⟩⟩ := ⟨_, rfl⟩
      refine SL.U (SU.fieldAddr underlying27 rfl sizeOf25 rfl) (SL.K (SQ.load isAgg25 rfl (CellAt.own 2 rfl rfl)) (SL.K (SQ.loadVarK 0 isAgg51 sizeOf51 rfl rfl rfl) (SL.W (SO.buildSlice sty25 rfl rfl rfl (szs_mk (by exact ⟨rfl, trivial⟩)) dC) ?_)))
      rintro _ _ _ ⟨b155, rfl, rfl, rfl⟩
      refine SL.W (SO.app1A (e := encCell) 1 nc sty25 rfl rfl rfl rfl (by rw [hnc]; rfl) oM oM) ?_
      rintro v156 _ _ ⟨rfl, rfl⟩
      refine SL.facts fun ⟨w0, hw0⟩ => ?_
      obtain ⟨q9, d9, rfl⟩ := rowA_form (i := 1) hw0 rfl
      clear hw0 w0
      refine SL.U (SU.fieldAddr underlying27 rfl sizeOf25 rfl) (SL.on (SO.storeAllK 2 sizeOf25 rfl rfl rfl rfl rfl (by exact ⟨rfl, trivial⟩)) ?_)
      rintro _ _ _ ⟨rfl, rfl⟩
      refine SL.nil (ST.blockN (ST.thenN (SC.region (SL.M rfl (SL.U (SU.add rfl rfl oM) (SL.A rfl (SL.nil (ST.drop (s' := rowA encCell 51 (.slice q9 (rcs2 ++ [nc]).length d9) (rcs2 ++ [nc]) :: pt b10 (.cells #[(.slice q9 (rcs2 ++ [nc]).length d9)] 27 (0, 0)) :: pt b4 (.cells #[.slice none 0 0] 27 (0, 0)) :: pt b3 (.cells #[u] 27 (0, 0)) :: pt b2 (.cells #[v] 27 (0, 0)) :: s) (.cons _ (.refl _)) ?_))))))))
      refine ST.again (g7, _, rcs2 ++ [nc], k + 1) ⟨rfl, rfl, rfl, rfl, rfl, rfl, rfl, rfl, rfl, trivial⟩ rfl rfl ⟨hle6.trans hle7, lN, ?_⟩ lN
      dsimp only
      rw [htk, ← List.append_assoc]
      exact (hrcs2.mono fun _ _ => CellR.mono hle7).append ⟨(by rw [hpc, hnc]; exact ⟨rfl, rfl, hsd⟩), trivial⟩
   ·have hkk : (tabC b).take k = tabC b := List.take_of_length_le oM
    rw [hkk] at hrcs2
    refine SC.exit (ST.thenX (ST.thenX (ST.blockX (ST.blockN (ST.thenN (SC.region (SL.M rfl (SL.U (SU.add rfl rfl oM) (SL.A rfl (SL.nil ?_))))))))))
    exact ST.again (g6, ov2, rcs2, i + 1) ⟨rfl, rfl, rfl, rfl, rfl, rfl, rfl, rfl, trivial⟩ rfl rfl ⟨hle5.trans hle6, lN, by dsimp only; rw [hsucc]; exact hrcs2⟩ lN
  ·have hii : (tabC a).take i = tabC a := List.take_of_length_le oM
   rw [hii, ← hprod] at hrcs
   have hpl : (prodAll a b).length ≤ 4000 := by
    rw [hprod, flatMap_len]
    have h4 : (((tabC a).length * (tabC b).length : Nat) : Int) ≤ 4000 := by rw [Int.natCast_mul]; exact hsz
    omega
   have hfit : Fits (prodAll a b) := by
    refine ⟨oM, fun c hc => ?_⟩
    rw [hprod] at hc
    obtain ⟨x, hx, hc⟩ := List.mem_flatMap.1 hc
    obtain ⟨y, hy, rfl⟩ := List.mem_map.1 hc
    have h1 := (form_ok (haf x hx)).1
    have h2 := (form_ok (hbf y hy)).1
    simp [prodCell]
    omega
   refine SC.exit (ST.thenX (ST.thenX (ST.blockX (ST.thenN (SC.seq (SC.freezeRow fun g6 hle6 hs6 => ?_))))))
   have hov : Cells g6 ov (prodAll a b) := ⟨rcs, hs6, hrcs.mono fun _ _ => CellR.mono hle6⟩
   refine SC.region (SL.K (SQ.loadVarK 0 isAgg27 sizeOf27 rfl rfl rfl) (SL.W (SO.call call60 rfl (refRight_spec E g6 _ _ (prodAll a b) hov hfit)) ?_))
   rintro _ g7 _ ⟨rfl, rfl, hle7⟩
   refine SL.A rfl (SL.nil (ST.thenN (SC.seq (SC.seq (SC.region (SL.M rfl (SL.U (SU.notP rfl) (SL.nil (ST.thenN ?_)))))))))
   refine SC.ifP rfl (fun hr => ?_) (fun hr => ?_)
   ·refine SC.seq (SC.region (SL.U (SU.build rfl (buildE27)) (SL.on (SO.storeAllK 1 sizeOf27 rfl rfl rfl rfl rfl (by exact ⟨rfl, trivial⟩)) ?_)))
    rintro _ _ _ ⟨rfl, rfl⟩
    refine SL.nil (ST.thenN (SC.ret (ST.thenR ?_)))
    exact ST.retCD 1 s (.inl rfl) results18 rfl isAgg27 sizeOf27 rfl rfl (.cons _ (.cons _ (.cons _ (.cons _ (.refl _))))) ⟨rfl, hle1.trans (hle2.trans (hle3.trans (hle4.trans (hle5.trans (hle6.trans hle7))))), _, rfl, by unfold refProdC; rw [if_neg (by rw [hbad]; simp), if_neg hr]; exact ⟨[], Sl.nil _ _, trivial⟩⟩
   ·refine SC.skip (ST.thenN (SC.seq (SC.region (SL.K (SQ.loadVarK 0 isAgg27 sizeOf27 rfl rfl rfl) (SL.W (SO.call call63 rfl (refCanon_spec E g7 _ _ (prodAll a b) (hov.mono hle7) hfit)) ?_)))))
    rintro _ g8 _ ⟨rfl, hle8, x8, rfl, hx8⟩
    obtain ⟨q8, d8, rfl⟩ := hx8.form
    refine SL.on (SO.storeAllK 1 sizeOf27 rfl rfl rfl rfl rfl (by exact ⟨rfl, trivial⟩)) ?_
    rintro _ _ _ ⟨rfl, rfl⟩
    refine SL.nil (ST.thenN (SC.ret ?_))
    exact ST.retCD 1 s (.inl rfl) results18 rfl isAgg27 sizeOf27 rfl rfl (.cons _ (.cons _ (.cons _ (.cons _ (.refl _))))) ⟨rfl, hle1.trans (hle2.trans (hle3.trans (hle4.trans (hle5.trans (hle6.trans (hle7.trans hle8)))))), _, rfl, by unfold refProdC; rw [if_neg (by rw [hbad]; simp), if_pos (Decidable.of_not_not hr)]; exact hx8⟩
end Go.Proofs.YtkdibcicncjpdaaGreat
namespace Go.Sy
open Go
section
variable {P : Program} {N : Nat} {E : World} {ops : Array Oper} {Q : Exit → Act → World → Prop} {g0 : PH} {s0 : Own} {tail : List Nat} {f : Fr} {g g' : PH} {s s' : Own} {L : Array Bool} {n : Nat}
theorem SX.to (h : ∀ w, At E g s w → At E g' s' w) (hc : SX P N E ops Q g0 s0 tail L n f g' s') : SX P N E ops Q g0 s0 tail L n f g s := fun a w h1 hcl ha hw hb => hc a w h1 hcl ha (h w hw) hb
theorem SX.freezeRow {T : TypeId} {k m : Nat} {v : Value} {xs : List Value} (h : ∀ g', Le g g' → Sl g' k v m xs → SX P N E ops Q g0 s0 tail L n f g' s) : SX P N E ops Q g0 s0 tail L n f g (row T k v m xs :: s) := fun a w h1 hcl ha hw hb => by
 obtain ⟨g', h3, h4, h5⟩ := hw.freezeRow
 exact h g' h3 h5 a w h1 hcl ha h4 hb
end
end Go.Sy
namespace Go.Proofs.YtkdibcicncjpdaaGreat
open _root_.Go.Proofs.Tryz _root_.Go.Proofs.YtkdibcicncjpdaaGreat.Tryz
open Go Go.Sy Go.Pl Go.Proofs
set_option maxRecDepth 100000
def setsC (ls : List (List Int)) : List (List Int) := (ls.take 5).map fun l => (l.take 4).map fun x => modW x 7
theorem map_take_succ {α β : Type} {l : List α} {i : Nat} (h : i < l.length) (f : α → β) : (l.take (i + 1)).map f = (l.take i).map f ++ [f l[i]] := by
 rw [List.take_succ_eq_append_getElem h, List.map_append]; rfl
theorem sets_spec (E : World) (g : PH) (s : Own) (v : Value) (ls : List (List Int)) (hv : Lists g v ls) :
  Ctr Tryz.prog E 10 #[v] g s (fun r g' s' => ∃ rs, s' = rowA encSv 45 r rs :: s ∧ Le g g' ∧ All2 (ListR g') (setsC ls) rs) := by
 obtain ⟨rs0, hrs0, hall0⟩ := hv
 have hlen0 := hall0.length
 obtain ⟨p, c, rfl⟩ := SlA.form hrs0
 refine Ctr.of (args := [.slice p rs0.length c]) func10 rfl ntmps10 (Nat.le_of_ble_eq_true rfl) ?_
 refine SC.seq (SC.region (SL.A rfl (SL.nil (ST.thenN (SC.seq (SC.region (SL.A rfl (SL.nil (ST.thenN (SC.seq (SC.seq (SC.region (SL.A rfl (SL.nil (ST.thenN (SC.block (SC.nilRow 45 1 ?_)))))))))))))))))
 refine SC.loop (ι := PH × Value × List Sv × Nat) (fun i => [(0, .slice p rs0.length c), (2, .slice none 0 0), (3, i.2.1), (4, vi i.2.2.2)]) (fun i => i.1)
  (fun i => rowA encSv 45 i.2.1 i.2.2.1 :: s)
  (fun i => Le g i.1 ∧ i.2.2.2 ≤ rs0.length ∧ i.2.2.2 ≤ 5 ∧ All2 (ListR i.1) ((ls.take i.2.2.2).map fun l => (l.take 4).map fun x => modW x 7) i.2.2.1) (fun i => rs0.length - i.2.2.2)
  (g, .slice none 0 0, [], 0) ⟨rfl, rfl, rfl, rfl, trivial⟩ rfl rfl ⟨Le.refl g, Nat.zero_le _, Nat.zero_le _, trivial⟩ ?_
 rintro ⟨g1, ov, rs, i⟩ ⟨hle, hi, hi5, hrs⟩
 dsimp only at hle hi hi5 hrs ⊢
 have hrl := hrs.length
 rw [List.length_map, List.length_take] at hrl
 have f1 : (i : Int) < (rs0.length : Int) → (decide ((i : Int) < (rs0.length : Int)) && decide ((i : Int) < 5)) = decide ((i : Int) < 5) := fun h => by simp [h]
 have f2 : ¬ (i : Int) < (rs0.length : Int) → (decide ((i : Int) < (rs0.length : Int)) && decide ((i : Int) < 5)) = false := fun h => by simp only [h, decide_false, Bool.false_and]
 refine SC.seq ?_
 refine SC.cutB 14 ((decide ((i : Int) < (rs0.length : Int)) && decide ((i : Int) < 5))) ?_ ?_
 ·refine SC.region (SL.M rfl (SL.M rfl (SL.U (SU.lenN underlying22 rfl) (SL.U (SU.lss rfl rfl) (SL.M rfl ?_)))))
  refine SL.split ?_ ?_
  ·intro h11
   refine SL.Y rfl rfl rfl (SU.move rfl) (SL.Y rfl rfl rfl (SU.lss rfl rfl) (SL.U (SU.pickT rfl rfl) (SL.nil ?_)))
   exact ST.mid1 (by (rw [f1 h11]; rfl)) mI
  ·intro h11
   refine SL.Z rfl rfl rfl (SL.Z rfl rfl rfl (SL.U (SU.pickF rfl rfl) (SL.nil ?_)))
   exact ST.mid1 (by (rw [f2 h11]; rfl)) mI
 refine SC.ifB rfl (fun hc => ?_) (fun hc => ?_)
 ·rw [Bool.and_eq_true, decide_eq_true_iff, decide_eq_true_iff] at hc
  have hil : i < ls.length := oM
  have hir : i < rs0.length := oM
  have hb1 := hrs0.based oM
  have hR := (hall0.get (List.getElem?_eq_getElem hil) (List.getElem?_eq_getElem hir)).mono hle
  have hRl := hR.len
  have hsucc := map_take_succ hil fun l => (l.take 4).map fun x => modW x 7
  generalize hx : ls[i] = x at *
  generalize hr : rs0[i] = r at *
  obtain ⟨rp, rn, rc⟩ := r
  dsimp only at hRl
  subst hRl
  have hxs : Ints g1 (.slice rp x.length rc) x := hR
  have hgr : rs0[((i : Nat) : Int).toNat]? = some ⟨rp, x.length, rc⟩ := by rw [← hr]; exact List.getElem?_eq_getElem hir
  refine SC.skip (ST.thenN (SC.seq (SC.block (SC.seq (SC.region (SL.A rfl (SL.nil (ST.thenN (SC.seq (SC.seq (SC.region (SL.A rfl (SL.nil (ST.thenN (SC.block (SC.nilRow 3 1 ?_))))))))))))))))
  refine SC.loop (ι := Value × Nat) (fun k => [(0, .slice p rs0.length c), (2, .slice none 0 0), (3, ov), (4, vi i), (5, k.1), (6, vi k.2)]) (fun _ => g1)
   (fun k => rowA encInt 3 k.1 ((x.take k.2).map fun x => modW x 7) :: rowA encSv 45 ov rs :: s)
   (fun k => k.2 ≤ x.length ∧ k.2 ≤ 4) (fun k => x.length - k.2) (.slice none 0 0, 0) ⟨rfl, rfl, rfl, rfl, rfl, rfl, trivial⟩ rfl rfl ⟨Nat.zero_le _, Nat.zero_le _⟩ ?_
  rintro ⟨iv, k⟩ ⟨hk, hk4⟩
  dsimp only at hk hk4 ⊢
  have f3 : (k : Int) < (x.length : Int) → (decide ((k : Int) < (x.length : Int)) && decide ((k : Int) < 4)) = decide ((k : Int) < 4) := fun h => by simp [h]
  have f4 : ¬ (k : Int) < (x.length : Int) → (decide ((k : Int) < (x.length : Int)) && decide ((k : Int) < 4)) = false := fun h => by simp only [h, decide_false, Bool.false_and]
  refine SC.seq ?_
  refine SC.cutB 27 ((decide ((k : Int) < (x.length : Int)) && decide ((k : Int) < 4))) ?_ ?_
  ·refine SC.region (SL.M rfl (SL.M rfl (SL.M rfl (SL.U (SU.indexAddr underlying22 sizeOf45 rfl rfl hb1 oM sL) (SL.K (SQ.elem1 (u := .slice rp x.length rc) isAgg45 rfl (hrs0.mono hle).rd hgr rfl) (SL.U (SU.lenN underlying45 rfl) (SL.U (SU.lss rfl rfl) (SL.M rfl ?_))))))))
   refine SL.split ?_ ?_
   ·intro h24
    refine SL.Y rfl rfl rfl (SU.move rfl) (SL.Y rfl rfl rfl (SU.lss rfl rfl) (SL.U (SU.pickT rfl rfl) (SL.nil ?_)))
    exact ST.mid1 (by (rw [f3 h24]; rfl)) mI
   ·intro h24
    refine SL.Z rfl rfl rfl (SL.Z rfl rfl rfl (SL.U (SU.pickF rfl rfl) (SL.nil ?_)))
    exact ST.mid1 (by (rw [f4 h24]; rfl)) mI
  refine SC.ifB rfl (fun hc2 => ?_) (fun hc2 => ?_)
  ·rw [Bool.and_eq_true, decide_eq_true_iff, decide_eq_true_iff] at hc2
   have hkl : k < x.length := oM
   have hb2 := SlA.based hxs oM
   have hks := map_take_succ hkl fun x => modW x 7
   have hgk : x[((k : Nat) : Int).toNat]? = some x[k] := List.getElem?_eq_getElem hkl
   generalize x[k] = y at *
   refine SC.skip (ST.thenN (SC.seq (SC.block (SC.region (SL.M rfl (SL.M rfl (SL.M rfl (SL.U (SU.indexAddr underlying22 sizeOf45 rfl rfl hb1 oM sL) (SL.K (SQ.elem1 (u := .slice rp x.length rc) isAgg45 rfl (hrs0.mono hle).rd hgr rfl) (SL.M rfl (SL.U (SU.indexAddr underlying45 sizeOf3 rfl rfl hb2 oM sL) (SL.K (SQ.elem1 isAgg3 rfl (SlA.rd hxs) hgk rfl) (SL.W (SO.call call38 rfl (mod_spec E g1 _ y 7 dC)) ?_)))))))))))))
   rintro _ _ _ ⟨rfl, rfl, rfl⟩
   refine SL.W (SO.buildSlice sty45 rfl rfl rfl (szs_mk (by exact ⟨rfl, trivial⟩)) dC) ?_
   rintro _ _ _ ⟨b39, rfl, rfl, rfl⟩
   refine SL.W (SO.app1A (e := encInt) 0 (modW y 7) sty45 rfl rfl rfl rfl rfl (by rw [List.length_map, List.length_take]; omega) (by rw [List.length_map, List.length_take]; omega)) ?_
   rintro iv' _ _ ⟨rfl, rfl⟩
   refine SL.A rfl (SL.nil (ST.blockN (ST.thenN (SC.region (SL.M rfl (SL.U (SU.add rfl rfl oM) (SL.A rfl (SL.nil ?_))))))))
   refine ST.to (fun w hw => ?_) (g' := g1) (s' := rowA encInt 3 iv' ((x.take (k + 1)).map fun x => modW x 7) :: rowA encSv 45 ov rs :: s) ?_
   ·rw [hks]; exact hw
   exact ST.again (iv', k + 1) ⟨rfl, rfl, rfl, rfl, rfl, rfl, trivial⟩ rfl rfl ⟨lN, lN⟩ lN
  ·have hxk : x.take k = x.take 4 := by
    rw [Bool.and_eq_false_iff, decide_eq_false_iff_not, decide_eq_false_iff_not] at hc2
    by_cases h4 : k = 4
    ·rw [h4]
    ·rw [List.take_of_length_le oM, List.take_of_length_le oM]
   rw [hxk]
   refine SC.exit (ST.thenX (ST.thenX (ST.blockX (ST.thenN (SC.freezeRow fun g2 hle2 hs2 => ?_)))))
   have hiv : Ints g2 iv ((x.take 4).map fun x => modW x 7) := hs2
   obtain ⟨q2, d2, rfl⟩ := SlA.form hiv
   obtain ⟨nl, hnl⟩ : ∃ nl, nl = ((x.take 4).map fun x => modW x 7).length := ⟨_, rfl⟩
   refine SC.region (SL.M rfl (SL.M rfl (SL.W (SO.buildSlice sty22 rfl rfl rfl (szs_mk (by exact ⟨rfl, trivial⟩)) dC) ?_)))
   rintro _ _ _ ⟨b43, rfl, rfl, rfl⟩
   refine SL.W (SO.app1A (e := encSv) 0 ⟨q2, ((x.take 4).map fun x => modW x 7).length, d2⟩ sty22 rfl rfl rfl rfl rfl oM oM) ?_
   rintro ov' _ _ ⟨rfl, rfl⟩
   refine SL.A rfl (SL.nil (ST.blockN (ST.thenN (SC.region (SL.M rfl (SL.U (SU.add rfl rfl oM) (SL.A rfl (SL.nil ?_))))))))
   refine ST.again (g2, ov', rs ++ [⟨q2, ((x.take 4).map fun x => modW x 7).length, d2⟩], i + 1) ⟨rfl, rfl, rfl, rfl, trivial⟩ rfl rfl ⟨hle.trans hle2, lN, lN, ?_⟩ lN
   dsimp only
   rw [hsucc]
   exact (hrs.mono fun _ _ => ListR.mono hle2).append ⟨hiv, trivial⟩
 ·have hls : ls.take i = ls.take 5 := by
   rw [Bool.and_eq_false_iff, decide_eq_false_iff_not, decide_eq_false_iff_not] at hc
   by_cases h5 : i = 5
   ·rw [h5]
   ·rw [List.take_of_length_le oM, List.take_of_length_le oM]
  rw [hls] at hrs
  refine SC.exit (ST.thenX (ST.thenX (ST.blockX (ST.thenN (SC.seq (SC.region (SL.M rfl (SL.A rfl (SL.nil (ST.thenN (SC.ret ?_)))))))))))
  exact ST.ret1 (.inl rfl) results10 rfl ⟨rs, rfl, hle, hrs⟩
def mixC (id k : Int) : Int := if k = 1 then id else IntKind.i64.wrap ((IntKind.i64.wrap (id * k)).tmod 211 + 1)
theorem mixed_spec (E : World) (g : PH) (s : Own) (a k : Int) : Ctr Tryz.prog E 98 #[vi a, vi k] g s
  (fun r g' s' => r = vi (mixC a k) ∧ g = g' ∧ s = s') := by
 refine Ctr.of (args := [vi a, vi k]) func98 rfl ntmps98 (Nat.le_of_ble_eq_true rfl) ?_
 refine SC.seq (SC.region (SL.A rfl (SL.nil (ST.thenN (SC.seq (SC.seq (SC.region (SL.M rfl (SL.U (SU.eql rfl rfl) (SL.nil (ST.thenN ?_)))))))))))
 refine SC.ifP rfl (fun h1 => ?_) (fun h1 => ?_)
 ·refine SC.seq (SC.region (SL.M rfl (SL.A rfl (SL.nil (ST.thenN (SC.ret (ST.thenR ?_)))))))
  exact ST.ret1 (.inl rfl) results98 rfl ⟨by simp [mixC, h1], rfl, rfl⟩
 ·refine SC.skip (ST.thenN (SC.seq (SC.region (SL.M rfl (SL.M rfl (SL.U (SU.mulW rfl rfl) (SL.U (SU.rem rfl rfl dC) (SL.U (SU.addW rfl rfl) (SL.A rfl (SL.nil (ST.thenN (SC.ret ?_))))))))))))
  exact ST.ret1 (.inl rfl) results98 rfl ⟨by simp [mixC, h1], rfl, rfl⟩
theorem turned_spec (E : World) (g : PH) (s : Own) (a k : Int) (hk : k ≠ 0) : Ctr Tryz.prog E 99 #[vi a, vi k] g s
  (fun r g' s' => r = vb (decide (a.tmod k = 1)) ∧ g = g' ∧ s = s') := by
 refine Ctr.of (args := [vi a, vi k]) func99 rfl ntmps99 (Nat.le_of_ble_eq_true rfl) ?_
 refine SC.seq (SC.region (SL.A rfl (SL.nil (ST.thenN (SC.seq (SC.region (SL.M rfl (SL.M rfl (SL.U (SU.rem rfl rfl oM) (SL.U (SU.eql rfl rfl) (SL.A rfl (SL.nil (ST.thenN (SC.ret ?_))))))))))))))
 exact ST.ret1 (.inl rfl) results99 rfl ⟨rfl, rfl, rfl⟩
theorem simpAll_facts : ∀ (all ls : List (List Int)), all.length ≤ 4000 → (∀ x ∈ all, x.length ≤ 9) → ∀ r, simpAll all ls = some r → r.length ≤ 4000 ∧ ∀ x ∈ r, x.length ≤ 9
 | all, [], h1, h2, r, h => by cases h; exact ⟨h1, h2⟩
 | all, t :: ls, h1, h2, r, h => by
  unfold simpAll at h
  split at h
  ·exact simpAll_facts all ls h1 h2 r h
  ·rename_i hb
   split at h
   ·cases h
   ·rename_i hl
    refine simpAll_facts _ ls oM (fun x hx => ?_) r h
    rcases addSets_mem hx with hx | hx
    ·exact h2 x hx
    ·refine subsetsC_short ?_ x hx
     cases hT : setC t with
     | nil => simp
     | cons a r =>
      rw [hT] at hb
      simp only [badSet, Bool.or_eq_true, decide_eq_true_iff, not_or] at hb
      omega
theorem simpC_fits (ls : List (List Int)) : Fits (simpC ls) ∧ (simpC ls).length ≤ 4000 := by
 unfold simpC
 cases h : simpAll [] ls with
 | none => exact ⟨⟨by simp, by simp⟩, by simp⟩
 | some all =>
  obtain ⟨h1, h2⟩ := simpAll_facts [] ls (by simp) (by simp) all h
  have h3 : (canonC (simpCells all)).length ≤ 4000 := by rw [canonC_length, simpCells_length]; exact h1
  exact ⟨canonC_fits (simpCells_fits h1 h2), h3⟩
theorem refProdC_fits (a b : List Cl) : Fits (refProdC a b) ∧ (refProdC a b).length ≤ 4000 := by
 unfold refProdC
 split
 ·exact ⟨⟨by simp, by simp⟩, by simp⟩
 ·rename_i hbad
  split
  ·have ha : (refCheckC a).2 = 0 := Decidable.of_not_not fun h => hbad (by simp [refProdBad, h])
   have hb : (refCheckC b).2 = 0 := Decidable.of_not_not fun h => hbad (by simp [refProdBad, h])
   have hsz : ((tabC a).length : Int) * (tabC b).length ≤ 4000 := by
    refine Decidable.of_not_not fun h => hbad ?_
    have : ((tabC a).length : Int) * (tabC b).length > 4000 := oM
    simp [refProdBad, this]
   obtain ⟨_, _, hat, haf⟩ := refRight_facts ha
   obtain ⟨_, _, hbt, hbf⟩ := refRight_facts hb
   rw [← hat] at haf
   rw [← hbt] at hbf
   have hprod : prodAll a b = (tabC a).flatMap fun x => (tabC b).map (prodCell (tabC a) (tabC b) x) := by unfold prodAll; rw [← hat, ← hbt]
   have hpl : (prodAll a b).length ≤ 4000 := by
    rw [hprod, flatMap_len]
    have h4 : (((tabC a).length * (tabC b).length : Nat) : Int) ≤ 4000 := by rw [Int.natCast_mul]; exact hsz
    omega
   have hfit : Fits (prodAll a b) := by
    refine ⟨oM, fun c hc => ?_⟩
    rw [hprod] at hc
    obtain ⟨x, hx, hc⟩ := List.mem_flatMap.1 hc
    obtain ⟨y, hy, rfl⟩ := List.mem_map.1 hc
    have h1 := (form_ok (haf x hx)).1
    have h2 := (form_ok (hbf y hy)).1
    simp [prodCell]
    omega
   exact ⟨canonC_fits hfit, by rw [canonC_length]; exact hpl⟩
  ·exact ⟨⟨by simp, by simp⟩, by simp⟩
def torusC : List Cl := refProdC (simpC [[0, 1], [1, 2], [0, 2]]) (simpC [[0, 1], [1, 2], [0, 2]])
theorem torus_spec (E : World) (g : PH) (s : Own) : Ctr Tryz.prog E 66 #[] g s (fun r g' s' => s = s' ∧ Le g g' ∧ ∃ u, r = .agg #[u] ∧ Cells g' u torusC) := by
 have hf := (simpC_fits [[0, 1], [1, 2], [0, 2]]).1
 refine Ctr.of (args := []) func66 rfl ntmps66 (Nat.le_of_ble_eq_true rfl) ?_
 refine SC.seq (SC.region (SL.W (SO.alloc zeroValue27) ?_))
 rintro _ _ _ ⟨b0, rfl, rfl, rfl⟩
 refine SL.nil (ST.thenN (SC.seq (SC.region (SL.W (SO.buildSlice sty45 rfl rfl rfl (szs_mk ⟨rfl, rfl, trivial⟩) dC) ?_))))
 rintro _ _ _ ⟨b2, rfl, rfl, rfl⟩
 refine SL.freeze fun g1 hle1 hb2 => ?_
 refine SL.W (SO.buildSlice sty45 rfl rfl rfl (szs_mk ⟨rfl, rfl, trivial⟩) dC) ?_
 rintro _ _ _ ⟨b3, rfl, rfl, rfl⟩
 refine SL.freeze fun g2 hle2 hb3 => ?_
 refine SL.W (SO.buildSlice sty45 rfl rfl rfl (szs_mk ⟨rfl, rfl, trivial⟩) dC) ?_
 rintro _ _ _ ⟨b4, rfl, rfl, rfl⟩
 refine SL.freeze fun g3 hle3 hb4 => ?_
 refine SL.W (SO.buildSlice sty22 rfl rfl rfl (szs_mk ⟨rfl, rfl, rfl, trivial⟩) dC) ?_
 rintro _ _ _ ⟨b5, rfl, rfl, rfl⟩
 refine SL.freeze fun g4 hle4 hb5 => ?_
 have hlit : Lists g4 (.slice (some ⟨b5, 0, none⟩) 3 3) [[0, 1], [1, 2], [0, 2]] := ⟨[svOf (.slice (some ⟨b2, 0, none⟩) 2 2), svOf (.slice (some ⟨b3, 0, none⟩) 2 2), svOf (.slice (some ⟨b4, 0, none⟩) 2 2)], SlA.lit hb5 rfl rfl, ⟨SlA.lit (hle4 _ _ (hle3 _ _ (hle2 _ _ hb2))) rfl rfl, SlA.lit (hle4 _ _ (hle3 _ _ hb3)) rfl rfl, SlA.lit (hle4 _ _ hb4) rfl rfl, trivial⟩⟩
 refine SL.W (SO.call call14 rfl (refSimplicial_spec E g4 _ _ _ hlit dC dC)) ?_
 rintro _ g5 _ ⟨rfl, hle5, u, rfl, hu⟩
 obtain ⟨q, d, rfl⟩ := hu.form
 refine SL.W (SO.alloc zeroValue27) ?_
 rintro _ _ _ ⟨b1, rfl, rfl, rfl⟩
 refine SL.on (SO.storeAllK 0 sizeOf27 rfl rfl rfl rfl rfl (by exact ⟨rfl, trivial⟩)) ?_
 rintro _ _ _ ⟨rfl, rfl⟩
 refine SL.nil (ST.thenN (SC.seq (SC.region (SL.K (SQ.loadVarK 0 isAgg27 sizeOf27 rfl rfl rfl) (SL.K (SQ.loadVarK 0 isAgg27 sizeOf27 rfl rfl rfl) (SL.W (SO.call call18 rfl (refProduct_spec E g5 _ _ _ _ _ hu hu hf hf)) ?_))))))
 rintro _ g6 _ ⟨rfl, hle6, x, rfl, hx⟩
 obtain ⟨q6, d6, rfl⟩ := hx.form
 refine SL.on (SO.storeAllK 1 sizeOf27 rfl rfl rfl rfl rfl (by exact ⟨rfl, trivial⟩)) ?_
 rintro _ _ _ ⟨rfl, rfl⟩
 refine SL.nil (ST.thenN (SC.ret ?_))
 exact ST.retCD 1 s (.inl rfl) results66 rfl isAgg27 sizeOf27 rfl rfl (.cons _ (.cons _ (.refl _))) ⟨rfl, hle1.trans (hle2.trans (hle3.trans (hle4.trans (hle5.trans hle6)))), _, rfl, hx⟩
theorem sets_small (ls : List (List Int)) : (setsC ls).length ≤ 5 ∧ ∀ x ∈ setsC ls, x.length ≤ 4 := by
 refine ⟨by simp [setsC]; omega, fun x hx => ?_⟩
 obtain ⟨l, _, rfl⟩ := List.mem_map.1 hx
 simp
 omega
def surf0 : List (List Int) := [[0, 1, 2], [0, 1, 3], [0, 2, 3], [1, 2, 3]]
def surf1 : List (List Int) := [[0, 1, 2], [0, 2, 3], [0, 3, 4], [0, 4, 5], [0, 1, 5], [1, 2, 4], [2, 3, 5], [1, 3, 4], [2, 4, 5], [1, 3, 5]]
def surf2 (k : Nat) : List (List Int) := (List.range k).flatMap fun (i : Nat) => [[(i : Int), ((i : Int) + 1).tmod 7, ((i : Int) + 3).tmod 7], [(i : Int), ((i : Int) + 2).tmod 7, ((i : Int) + 3).tmod 7]]
def surfC (n : Int) : List (List Int) := if modW n 3 = 0 then surf0 else if modW n 3 = 1 then surf1 else surf2 7
theorem surf2_succ (k : Nat) : surf2 (k + 1) = surf2 k ++ [[(k : Int), ((k : Int) + 1).tmod 7, ((k : Int) + 3).tmod 7], [(k : Int), ((k : Int) + 2).tmod 7, ((k : Int) + 3).tmod 7]] := by
 simp [surf2, List.range_succ, List.flatMap_append]
theorem surf2_length (k : Nat) : (surf2 k).length = 2 * k := by
 induction k with
 | zero => rfl
 | succ k ih => rw [surf2_succ, List.length_append, ih]; simp; omega
theorem surface_spec (E : World) (g : PH) (s : Own) (n : Int) : Ctr Tryz.prog E 64 #[vi n] g s (fun r g' s' => s = s' ∧ Le g g' ∧ Lists g' r (surfC n)) := by
 refine Ctr.of (args := [vi n]) func64 rfl ntmps64 (Nat.le_of_ble_eq_true rfl) ?_
 refine SC.seq (SC.region (SL.A rfl (SL.nil (ST.thenN (SC.seq (SC.seq (SC.region (SL.M rfl (SL.W (SO.call call38 rfl (mod_spec E g _ n 3 dC)) ?_)))))))))
 rintro _ _ _ ⟨rfl, rfl, rfl⟩
 refine SL.nil (ST.thenN (SC.block (SC.seq (SC.region (SL.U (SU.eql rfl rfl) (SL.A rfl (SL.nil (ST.thenN ?_))))))))
 refine SC.ifP rfl (fun h0 => ?_) (fun h0 => ?_)
 ·refine SC.seq (SC.region (SL.W (SO.buildSlice sty45 rfl rfl rfl (szs_mk ⟨rfl, rfl, rfl, trivial⟩) dC) ?_))
  rintro _ _ _ ⟨b9, rfl, rfl, rfl⟩
  refine SL.freeze fun g1 hle1 hb9 => ?_
  refine SL.W (SO.buildSlice sty45 rfl rfl rfl (szs_mk ⟨rfl, rfl, rfl, trivial⟩) dC) ?_
  rintro _ _ _ ⟨b10, rfl, rfl, rfl⟩
  refine SL.freeze fun g2 hle2 hb10 => ?_
  refine SL.W (SO.buildSlice sty45 rfl rfl rfl (szs_mk ⟨rfl, rfl, rfl, trivial⟩) dC) ?_
  rintro _ _ _ ⟨b11, rfl, rfl, rfl⟩
  refine SL.freeze fun g3 hle3 hb11 => ?_
  refine SL.W (SO.buildSlice sty45 rfl rfl rfl (szs_mk ⟨rfl, rfl, rfl, trivial⟩) dC) ?_
  rintro _ _ _ ⟨b12, rfl, rfl, rfl⟩
  refine SL.freeze fun g4 hle4 hb12 => ?_
  refine SL.W (SO.buildSlice sty22 rfl rfl rfl (szs_mk ⟨rfl, rfl, rfl, rfl, trivial⟩) dC) ?_
  rintro _ _ _ ⟨b13, rfl, rfl, rfl⟩
  refine SL.freeze fun g5 hle5 hb13 => ?_
  have hlit : Lists g5 (.slice (some ⟨b13, 0, none⟩) 4 4) surf0 := ⟨[svOf (.slice (some ⟨b9, 0, none⟩) 3 3), svOf (.slice (some ⟨b10, 0, none⟩) 3 3), svOf (.slice (some ⟨b11, 0, none⟩) 3 3), svOf (.slice (some ⟨b12, 0, none⟩) 3 3)], SlA.lit hb13 rfl rfl, ⟨SlA.lit (hle5 _ _ (hle4 _ _ (hle3 _ _ (hle2 _ _ hb9)))) rfl rfl, SlA.lit (hle5 _ _ (hle4 _ _ (hle3 _ _ hb10))) rfl rfl, SlA.lit (hle5 _ _ (hle4 _ _ hb11)) rfl rfl, SlA.lit (hle5 _ _ hb12) rfl rfl, trivial⟩⟩
  refine SL.A rfl (SL.nil (ST.thenN (SC.ret (ST.blockR (ST.thenR ?_)))))
  exact ST.ret1 (.inl rfl) results64 rfl ⟨rfl, (hle1.trans (hle2.trans (hle3.trans (hle4.trans hle5)))), by unfold surfC; rw [if_pos h0]; exact hlit⟩
 ·refine SC.seq (SC.region (SL.U (SU.eql rfl rfl) (SL.A rfl (SL.nil (ST.thenN ?_)))))
  refine SC.ifP rfl (fun h1 => ?_) (fun h1 => ?_)
  ·refine SC.seq (SC.region (SL.W (SO.buildSlice sty45 rfl rfl rfl (szs_mk ⟨rfl, rfl, rfl, trivial⟩) dC) ?_))
   rintro _ _ _ ⟨b16, rfl, rfl, rfl⟩
   refine SL.freeze fun g1 hle1 hb16 => ?_
   refine SL.W (SO.buildSlice sty45 rfl rfl rfl (szs_mk ⟨rfl, rfl, rfl, trivial⟩) dC) ?_
   rintro _ _ _ ⟨b17, rfl, rfl, rfl⟩
   refine SL.freeze fun g2 hle2 hb17 => ?_
   refine SL.W (SO.buildSlice sty45 rfl rfl rfl (szs_mk ⟨rfl, rfl, rfl, trivial⟩) dC) ?_
   rintro _ _ _ ⟨b18, rfl, rfl, rfl⟩
   refine SL.freeze fun g3 hle3 hb18 => ?_
   refine SL.W (SO.buildSlice sty45 rfl rfl rfl (szs_mk ⟨rfl, rfl, rfl, trivial⟩) dC) ?_
   rintro _ _ _ ⟨b19, rfl, rfl, rfl⟩
   refine SL.freeze fun g4 hle4 hb19 => ?_
   refine SL.W (SO.buildSlice sty45 rfl rfl rfl (szs_mk ⟨rfl, rfl, rfl, trivial⟩) dC) ?_
   rintro _ _ _ ⟨b20, rfl, rfl, rfl⟩
   refine SL.freeze fun g5 hle5 hb20 => ?_
   refine SL.W (SO.buildSlice sty45 rfl rfl rfl (szs_mk ⟨rfl, rfl, rfl, trivial⟩) dC) ?_
   rintro _ _ _ ⟨b21, rfl, rfl, rfl⟩
   refine SL.freeze fun g6 hle6 hb21 => ?_
   refine SL.W (SO.buildSlice sty45 rfl rfl rfl (szs_mk ⟨rfl, rfl, rfl, trivial⟩) dC) ?_
   rintro _ _ _ ⟨b22, rfl, rfl, rfl⟩
   refine SL.freeze fun g7 hle7 hb22 => ?_
   refine SL.W (SO.buildSlice sty45 rfl rfl rfl (szs_mk ⟨rfl, rfl, rfl, trivial⟩) dC) ?_
   rintro _ _ _ ⟨b23, rfl, rfl, rfl⟩
   refine SL.freeze fun g8 hle8 hb23 => ?_
   refine SL.W (SO.buildSlice sty45 rfl rfl rfl (szs_mk ⟨rfl, rfl, rfl, trivial⟩) dC) ?_
   rintro _ _ _ ⟨b24, rfl, rfl, rfl⟩
   refine SL.freeze fun g9 hle9 hb24 => ?_
   refine SL.W (SO.buildSlice sty45 rfl rfl rfl (szs_mk ⟨rfl, rfl, rfl, trivial⟩) dC) ?_
   rintro _ _ _ ⟨b25, rfl, rfl, rfl⟩
   refine SL.freeze fun g10 hle10 hb25 => ?_
   refine SL.W (SO.buildSlice sty22 rfl rfl rfl (szs_mk ⟨rfl, rfl, rfl, rfl, rfl, rfl, rfl, rfl, rfl, rfl, trivial⟩) dC) ?_
   rintro _ _ _ ⟨b26, rfl, rfl, rfl⟩
   refine SL.freeze fun g11 hle11 hb26 => ?_
   have hlit : Lists g11 (.slice (some ⟨b26, 0, none⟩) 10 10) surf1 := ⟨[svOf (.slice (some ⟨b16, 0, none⟩) 3 3), svOf (.slice (some ⟨b17, 0, none⟩) 3 3), svOf (.slice (some ⟨b18, 0, none⟩) 3 3), svOf (.slice (some ⟨b19, 0, none⟩) 3 3), svOf (.slice (some ⟨b20, 0, none⟩) 3 3), svOf (.slice (some ⟨b21, 0, none⟩) 3 3), svOf (.slice (some ⟨b22, 0, none⟩) 3 3), svOf (.slice (some ⟨b23, 0, none⟩) 3 3), svOf (.slice (some ⟨b24, 0, none⟩) 3 3), svOf (.slice (some ⟨b25, 0, none⟩) 3 3)], SlA.lit hb26 rfl rfl, ⟨SlA.lit (hle11 _ _ (hle10 _ _ (hle9 _ _ (hle8 _ _ (hle7 _ _ (hle6 _ _ (hle5 _ _ (hle4 _ _ (hle3 _ _ (hle2 _ _ hb16)))))))))) rfl rfl, SlA.lit (hle11 _ _ (hle10 _ _ (hle9 _ _ (hle8 _ _ (hle7 _ _ (hle6 _ _ (hle5 _ _ (hle4 _ _ (hle3 _ _ hb17))))))))) rfl rfl, SlA.lit (hle11 _ _ (hle10 _ _ (hle9 _ _ (hle8 _ _ (hle7 _ _ (hle6 _ _ (hle5 _ _ (hle4 _ _ hb18)))))))) rfl rfl, SlA.lit (hle11 _ _ (hle10 _ _ (hle9 _ _ (hle8 _ _ (hle7 _ _ (hle6 _ _ (hle5 _ _ hb19))))))) rfl rfl, SlA.lit (hle11 _ _ (hle10 _ _ (hle9 _ _ (hle8 _ _ (hle7 _ _ (hle6 _ _ hb20)))))) rfl rfl, SlA.lit (hle11 _ _ (hle10 _ _ (hle9 _ _ (hle8 _ _ (hle7 _ _ hb21))))) rfl rfl, SlA.lit (hle11 _ _ (hle10 _ _ (hle9 _ _ (hle8 _ _ hb22)))) rfl rfl, SlA.lit (hle11 _ _ (hle10 _ _ (hle9 _ _ hb23))) rfl rfl, SlA.lit (hle11 _ _ (hle10 _ _ hb24)) rfl rfl, SlA.lit (hle11 _ _ hb25) rfl rfl, trivial⟩⟩
   refine SL.A rfl (SL.nil (ST.thenN (SC.ret (ST.blockR (ST.thenR ?_)))))
   exact ST.ret1 (.inl rfl) results64 rfl ⟨rfl, (hle1.trans (hle2.trans (hle3.trans (hle4.trans (hle5.trans (hle6.trans (hle7.trans (hle8.trans (hle9.trans (hle10.trans hle11)))))))))), by unfold surfC; rw [if_neg h0, if_pos h1]; exact hlit⟩
  ·refine SC.skip (ST.blockN (ST.thenN (SC.seq (SC.region (SL.A rfl (SL.nil (ST.thenN (SC.seq (SC.seq (SC.region (SL.A rfl (SL.nil (ST.thenN (SC.block (SC.nilRow 45 1 ?_)))))))))))))))
   refine SC.loop (ι := PH × Value × List Sv × Nat) (fun i => [(3, i.2.1), (4, vi i.2.2.2)]) (fun i => i.1)
    (fun i => rowA encSv 45 i.2.1 i.2.2.1 :: s)
    (fun i => Le g i.1 ∧ i.2.2.2 ≤ 7 ∧ All2 (ListR i.1) (surf2 i.2.2.2) i.2.2.1) (fun i => 7 - i.2.2.2)
    (g, .slice none 0 0, [], 0) ⟨rfl, rfl, trivial⟩ rfl rfl ⟨Le.refl g, Nat.zero_le _, trivial⟩ ?_
   rintro ⟨g1, ov, rs, i⟩ ⟨hle, hi, hrs⟩
   dsimp only at hle hi hrs ⊢
   have hrl := hrs.length
   rw [surf2_length] at hrl
   refine SC.seq (SC.seq (SC.region (SL.M rfl (SL.U (SU.lss rfl rfl) (SL.nil (ST.thenN ?_))))))
   refine SC.ifP rfl (fun hlt => ?_) (fun hlt => ?_)
   ·have hi7 : i < 7 := oM
    refine SC.skip (ST.thenN (SC.seq (SC.block (SC.region (SL.M rfl (SL.M rfl (SL.M rfl (SL.U (SU.add rfl rfl oM) (SL.U (SU.rem rfl rfl dC) (SL.M rfl (SL.U (SU.add rfl rfl oM) (SL.U (SU.rem rfl rfl dC) (SL.W (SO.buildSlice sty45 rfl rfl rfl (szs_mk ⟨rfl, rfl, rfl, trivial⟩) dC) ?_)))))))))))))
    rintro _ _ _ ⟨b39, rfl, rfl, rfl⟩
    refine SL.freeze fun g2 hle2 hb39 => ?_
    refine SL.M rfl (SL.M rfl (SL.U (SU.add rfl rfl oM) (SL.U (SU.rem rfl rfl dC) (SL.M rfl (SL.U (SU.add rfl rfl oM) (SL.U (SU.rem rfl rfl dC) (SL.W (SO.buildSlice sty45 rfl rfl rfl (szs_mk ⟨rfl, rfl, rfl, trivial⟩) dC) ?_)))))))
    rintro _ _ _ ⟨b47, rfl, rfl, rfl⟩
    refine SL.freeze fun g3 hle3 hb47 => ?_
    refine SL.W (SO.buildSlice sty22 rfl rfl rfl (szs_mk ⟨rfl, rfl, trivial⟩) dC) ?_
    rintro _ _ _ ⟨b48, rfl, rfl, rfl⟩
    refine SL.freeze fun g4 hle4 hb48 => ?_
    have hlit : SlA encSv g4 (.slice (some ⟨b48, 0, none⟩) 2 2) [⟨some ⟨b39, 0, none⟩, 3, 3⟩, ⟨some ⟨b47, 0, none⟩, 3, 3⟩] := SlA.lit hb48 rfl rfl
    refine SL.W (SO.appA (e := encSv) 0 sty22 rfl rfl rfl hlit lN lN) ?_
    rintro ov' _ _ ⟨rfl, rfl⟩
    refine SL.A rfl (SL.nil (ST.blockN (ST.thenN (SC.region (SL.M rfl (SL.U (SU.add rfl rfl oM) (SL.A rfl (SL.nil ?_))))))))
    refine ST.again (g4, ov', rs ++ [⟨some ⟨b39, 0, none⟩, 3, 3⟩, ⟨some ⟨b47, 0, none⟩, 3, 3⟩], i + 1) ⟨rfl, rfl, trivial⟩ rfl rfl ⟨hle.trans (hle2.trans (hle3.trans hle4)), lN, ?_⟩ lN
    dsimp only
    rw [surf2_succ]
    exact (hrs.mono fun _ _ => ListR.mono (hle2.trans (hle3.trans hle4))).append ⟨SlA.lit (hle4 _ _ (hle3 _ _ hb39)) rfl rfl, SlA.lit (hle4 _ _ hb47) rfl rfl, trivial⟩
   ·have hi7 : i = 7 := oM
    subst hi7
    refine SC.exit (ST.thenX (ST.thenX (ST.blockX (ST.thenN (SC.seq (SC.freezeRow fun g2 hle2 hs2 => ?_))))))
    have hov : Lists g2 ov (surf2 7) := ⟨rs, hs2, hrs.mono fun _ _ => ListR.mono hle2⟩
    refine SC.region (SL.M rfl (SL.A rfl (SL.nil (ST.thenN (SC.ret ?_)))))
    exact ST.ret1 (.inl rfl) results64 rfl ⟨rfl, hle.trans hle2, by unfold surfC; rw [if_neg h0, if_neg h1]; exact hov⟩
set_option maxHeartbeats 1000000
def polyV (k : Nat) : List Cl := (List.range k).map fun (i : Nat) => ⟨(i : Int) + 1, 0, []⟩
def polyE (n k : Nat) : List Cl := (List.range k).map fun (i : Nat) => ⟨(n : Int) + i + 1, 1, [⟨(i : Int) + 1, -1⟩, ⟨((i : Int) + 1).tmod n + 1, 1⟩]⟩
def polyS (n k : Nat) : List Side := (List.range k).map fun (i : Nat) => ⟨(n : Int) + i + 1, 1⟩
def polyAll (n : Nat) : List Cl := polyV n ++ polyE n n ++ [⟨2 * (n : Int) + 1, 2, polyS n n⟩] ++ (if (n : Int).tmod 2 = 0 then [⟨2 * (n : Int) + 2, 2, polyS n n⟩] else [])
def polyC (n : Nat) : List Cl := canonC (polyAll n)
theorem polyV_succ (k : Nat) : polyV (k + 1) = polyV k ++ [⟨(k : Int) + 1, 0, []⟩] := by simp [polyV, List.range_succ]
theorem polyE_succ (n k : Nat) : polyE n (k + 1) = polyE n k ++ [⟨(n : Int) + k + 1, 1, [⟨(k : Int) + 1, -1⟩, ⟨((k : Int) + 1).tmod n + 1, 1⟩]⟩] := by simp [polyE, List.range_succ]
theorem polyS_succ (n k : Nat) : polyS n (k + 1) = polyS n k ++ [⟨(n : Int) + k + 1, 1⟩] := by simp [polyS, List.range_succ]
theorem polyS_length (n k : Nat) : (polyS n k).length = k := by simp [polyS]
theorem polyAll_fits {n : Nat} (h : n ≤ 6) : Fits (polyAll n) ∧ (polyAll n).length ≤ 14 := by
 have hl : (polyAll n).length ≤ 14 := by
  unfold polyAll
  split <;> simp [polyV, polyE] <;> omega
 refine ⟨⟨oM, fun c hc => ?_⟩, hl⟩
 unfold polyAll at hc
 rcases List.mem_append.1 hc with hc | hc
 ·rcases List.mem_append.1 hc with hc | hc
  ·rcases List.mem_append.1 hc with hc | hc
   ·obtain ⟨i, _, rfl⟩ := List.mem_map.1 hc
    simp
   ·obtain ⟨i, _, rfl⟩ := List.mem_map.1 hc
    simp
  ·simp at hc
   subst hc
   simp [polyS_length]
   omega
 ·split at hc
  ·simp at hc
   subst hc
   simp [polyS_length]
   omega
  ·simp at hc
theorem Tryz.buildD51 (x : Int) (w : World) : (Instr.build 51 #[(0, vi x)]).run Tryz.prog w = .ok (.agg #[vi x, vi 0, .slice none 0 0]) w := by
 have hz : (Value.agg #[vi 0, vi 0, Value.slice none 0 0]).cells = #[vi 0, vi 0, .slice none 0 0] := rfl
 have h1 : ∀ z : Int, (vi z).cells = #[vi z] := fun _ => rfl
 simp [Instr.build, Instr.fill, hz, h1]
theorem polygon_spec (E : World) (g : PH) (s : Own) (n : Nat) (h2 : 2 ≤ n) (h6 : n ≤ 6) :
  Ctr Tryz.prog E 65 #[vi n] g s (fun r g' s' => s = s' ∧ Le g g' ∧ ∃ x, r = .agg #[x] ∧ Cells g' x (polyC n)) := by
 have hnn : ((n : Nat) : Int) ≠ 0 := oM
 refine Ctr.of (args := [vi n]) func65 rfl ntmps65 (Nat.le_of_ble_eq_true rfl) ?_
 refine SC.seq (SC.region (SL.W (SO.alloc zeroValue27) ?_))
 rintro _ _ _ ⟨b2, rfl, rfl, rfl⟩
 refine SL.nil (ST.thenN (SC.seq (SC.region (SL.W (SO.alloc zeroValue27) ?_))))
 rintro _ _ _ ⟨b3, rfl, rfl, rfl⟩
 refine SL.nil (ST.thenN (SC.seq (SC.seq (SC.region (SL.A rfl (SL.nil (ST.thenN (SC.block (SC.nilRow 51 3 ?_)))))))))
 refine SC.loop (ι := Value × List Rc × Nat) (fun i => [(0, vi n), (2, pp b2 0), (3, pp b3 0), (4, vi i.2.2)]) (fun _ => g)
  (fun i => rowA encCell 51 i.1 i.2.1 :: pt b3 (.cells #[i.1] 27 (0, 0)) :: pt b2 (.cells #[.slice none 0 0] 27 (0, 0)) :: s)
  (fun i => i.2.2 ≤ n ∧ All2 (CellR g) (polyV i.2.2) i.2.1) (fun i => n - i.2.2)
  (.slice none 0 0, [], 0) ⟨rfl, rfl, rfl, rfl, trivial⟩ rfl rfl ⟨Nat.zero_le _, trivial⟩ ?_
 rintro ⟨ov, rcs, i⟩ ⟨hi, hrcs⟩
 dsimp only at hi hrcs ⊢
 have hrl := hrcs.length
 simp only [polyV, List.length_map, List.length_range] at hrl
 refine SC.seq (SC.seq (SC.region (SL.M rfl (SL.M rfl (SL.U (SU.lss rfl rfl) (SL.nil (ST.thenN ?_)))))))
 refine SC.ifP rfl (fun hlt => ?_) (fun hlt => ?_)
 ·refine SC.skip (ST.thenN (SC.seq (SC.block (SC.region (SL.U (SU.fieldAddr underlying27 rfl sizeOf25 rfl) (SL.K (SQ.load (v := ov) isAgg25 rfl (CellAt.own 1 rfl rfl)) (SL.M rfl (SL.U (SU.add rfl rfl oM) (SL.U (SU.build rfl (buildD51 _)) (SL.W (SO.buildSlice sty25 rfl rfl rfl (szs_mk (by exact ⟨rfl, trivial⟩)) dC) ?_))))))))))
  rintro _ _ _ ⟨b19, rfl, rfl, rfl⟩
  refine SL.W (SO.app1A (e := encCell) 0 ⟨(i : Int) + 1, 0, ⟨none, 0, 0⟩⟩ sty25 rfl rfl rfl rfl rfl oM oM) ?_
  rintro v20 _ _ ⟨rfl, rfl⟩
  refine SL.facts fun ⟨w0, hw0⟩ => ?_
  obtain ⟨q9, d9, rfl⟩ := rowA_form (i := 0) hw0 rfl
  clear hw0 w0
  refine SL.U (SU.fieldAddr underlying27 rfl sizeOf25 rfl) (SL.on (SO.storeAllK 1 sizeOf25 rfl rfl rfl rfl rfl (by exact ⟨rfl, trivial⟩)) ?_)
  rintro _ _ _ ⟨rfl, rfl⟩
  refine SL.nil (ST.blockN (ST.thenN (SC.region (SL.M rfl (SL.U (SU.add rfl rfl oM) (SL.A rfl (SL.nil ?_)))))))
  refine ST.again (_, rcs ++ [⟨(i : Int) + 1, 0, ⟨none, 0, 0⟩⟩], i + 1) ⟨rfl, rfl, rfl, rfl, trivial⟩ rfl rfl ⟨lN, ?_⟩ lN
  dsimp only
  rw [polyV_succ]
  exact hrcs.append ⟨⟨rfl, rfl, Sl.nil _ _⟩, trivial⟩
 ·have hin : i = n := oM
  subst hin
  refine SC.exit (ST.thenX (ST.thenX (ST.blockX (ST.thenN (SC.seq (SC.region (SL.A rfl (SL.nil (ST.thenN (SC.seq (SC.seq (SC.region (SL.A rfl (SL.nil (ST.thenN (SC.block (SC.nilRow 55 2 ?_)))))))))))))))))
  refine SC.loop (ι := PH × Value × List Rc × Value × Nat) (fun k => [(0, vi i), (2, pp b2 0), (3, pp b3 0), (5, k.2.2.2.1), (6, vi k.2.2.2.2)]) (fun k => k.1)
   (fun k => rowA encSide 55 k.2.2.2.1 (polyS i k.2.2.2.2) :: rowA encCell 51 k.2.1 k.2.2.1 :: pt b3 (.cells #[k.2.1] 27 (0, 0)) :: pt b2 (.cells #[.slice none 0 0] 27 (0, 0)) :: s)
   (fun k => Le g k.1 ∧ k.2.2.2.2 ≤ i ∧ All2 (CellR k.1) (polyV i ++ polyE i k.2.2.2.2) k.2.2.1) (fun k => i - k.2.2.2.2)
   (g, ov, rcs, .slice none 0 0, 0) ⟨rfl, rfl, rfl, rfl, rfl, trivial⟩ rfl rfl ⟨Le.refl g, Nat.zero_le _, by simpa [polyE] using hrcs⟩ ?_
  rintro ⟨g1, ov1, rcs1, sv, k⟩ ⟨hle1, hk, hrcs1⟩
  dsimp only at hle1 hk hrcs1 ⊢
  have hrl1 := hrcs1.length
  simp only [polyV, polyE, List.length_append, List.length_map, List.length_range] at hrl1
  have hsl := polyS_length i k
  refine SC.seq (SC.seq (SC.region (SL.M rfl (SL.M rfl (SL.U (SU.lss rfl rfl) (SL.nil (ST.thenN ?_)))))))
  refine SC.ifP rfl (fun hlt2 => ?_) (fun hlt2 => ?_)
  ·have hkm : 0 ≤ ((k : Int) + 1).tmod i ∧ ((k : Int) + 1).tmod i < i := by
    rw [Int.tmod_eq_emod_of_nonneg oM]
    exact ⟨Int.emod_nonneg _ hnn, Int.emod_lt_of_pos _ oM⟩
   refine SC.skip (ST.thenN (SC.seq (SC.block (SC.seq (SC.region (SL.M rfl (SL.U (SU.add rfl rfl oM) (SL.U (SU.build rfl (buildS55 _ _)) (SL.W (SO.alloc zeroValue55) ?_)))))))))
   rintro _ _ _ ⟨b7, rfl, rfl, rfl⟩
   refine SL.on (SO.storeAllK 0 sizeOf55 rfl rfl rfl rfl rfl (by exact ⟨rfl, rfl, trivial⟩)) ?_
   rintro _ _ _ ⟨rfl, rfl⟩
   refine SL.nil (ST.thenN (SC.seq (SC.region (SL.M rfl (SL.U (SU.add rfl rfl oM) (SL.M rfl (SL.U (SU.rem rfl rfl hnn) (SL.U (SU.add rfl rfl oM) (SL.U (SU.build rfl (buildS55 _ _)) (SL.W (SO.alloc zeroValue55) ?_))))))))))
   rintro _ _ _ ⟨b8, rfl, rfl, rfl⟩
   refine SL.on (SO.storeAllK 0 sizeOf55 rfl rfl rfl rfl rfl (by exact ⟨rfl, rfl, trivial⟩)) ?_
   rintro _ _ _ ⟨rfl, rfl⟩
   refine SL.nil (ST.thenN (SC.seq ?_))
   refine SC.to (fun w hw => hw) (g' := g1) (s' := pt b8 (.cells #[vi (((k : Int) + 1).tmod i + 1), vi 1] 55 (0, 0)) :: pt b7 (.cells #[vi ((k : Int) + 1), vi (-1)] 55 (0, 0)) :: rowA encSide 55 sv (polyS i k) :: rowA encCell 51 ov1 rcs1 :: pt b3 (.cells #[ov1] 27 (0, 0)) :: pt b2 (.cells #[.slice none 0 0] 27 (0, 0)) :: s) ?_
   refine SC.region (SL.U (SU.fieldAddr underlying27 rfl sizeOf25 rfl) (SL.K (SQ.load (v := ov1) isAgg25 rfl (CellAt.own 4 rfl rfl)) (SL.M rfl (SL.M rfl (SL.U (SU.add rfl rfl oM) (SL.U (SU.add rfl rfl oM) (SL.K (SQ.loadVarK 1 isAgg55 sizeOf55 rfl rfl rfl) (SL.K (SQ.loadVarK 0 isAgg55 sizeOf55 rfl rfl rfl) (SL.W (SO.buildSlice sty49 rfl rfl rfl (szs_mk ⟨rfl, rfl, trivial⟩) dC) ?_)))))))))
   rintro _ _ _ ⟨b44, rfl, rfl, rfl⟩
   refine SL.freeze fun g2 hle2 hb44 => ?_
   have hsd : SlA encSide g2 (.slice (some ⟨b44, 0, none⟩) 2 2) [⟨(k : Int) + 1, -1⟩, ⟨((k : Int) + 1).tmod i + 1, 1⟩] := SlA.lit hb44 rfl rfl
   refine SL.U (SU.build rfl (buildF51 _ _ _ rfl)) (SL.W (SO.buildSlice sty25 rfl rfl rfl (szs_mk (by exact ⟨rfl, trivial⟩)) dC) ?_)
   rintro _ _ _ ⟨b46, rfl, rfl, rfl⟩
   refine SL.W (SO.app1A (e := encCell) 3 ⟨(i : Int) + k + 1, 1, ⟨some ⟨b44, 0, none⟩, 2, 2⟩⟩ sty25 rfl rfl rfl rfl rfl oM oM) ?_
   rintro v47 _ _ ⟨rfl, rfl⟩
   refine SL.facts fun ⟨w0, hw0⟩ => ?_
   obtain ⟨q9, d9, rfl⟩ := rowA_form (i := 3) hw0 rfl
   clear hw0 w0
   refine SL.U (SU.fieldAddr underlying27 rfl sizeOf25 rfl) (SL.on (SO.storeAllK 4 sizeOf25 rfl rfl rfl rfl rfl (by exact ⟨rfl, trivial⟩)) ?_)
   rintro _ _ _ ⟨rfl, rfl⟩
   refine SL.nil (ST.thenN (SC.region (SL.M rfl (SL.M rfl (SL.M rfl (SL.U (SU.add rfl rfl oM) (SL.U (SU.add rfl rfl oM) (SL.U (SU.build rfl (buildS55 _ _)) (SL.W (SO.buildSlice sty49 rfl rfl rfl (szs_mk (by exact ⟨rfl, trivial⟩)) dC) ?_)))))))))
   rintro _ _ _ ⟨b55, rfl, rfl, rfl⟩
   refine SL.W (SO.app1A (e := encSide) 2 ⟨(i : Int) + k + 1, 1⟩ sty49 rfl rfl rfl rfl rfl oM oM) ?_
   rintro v56 _ _ ⟨rfl, rfl⟩
   refine SL.A rfl (SL.nil (ST.blockN (ST.thenN (SC.region (SL.M rfl (SL.U (SU.add rfl rfl oM) (SL.A rfl (SL.nil (ST.drop (s' := rowA encSide 55 v56 (polyS i k ++ [⟨(i : Int) + k + 1, 1⟩]) :: rowA encCell 51 (.slice q9 (rcs1 ++ [(⟨(i : Int) + k + 1, 1, ⟨some ⟨b44, 0, none⟩, 2, 2⟩⟩ : Rc)]).length d9) (rcs1 ++ [⟨(i : Int) + k + 1, 1, ⟨some ⟨b44, 0, none⟩, 2, 2⟩⟩]) :: pt b3 (.cells #[.slice q9 (rcs1 ++ [(⟨(i : Int) + k + 1, 1, ⟨some ⟨b44, 0, none⟩, 2, 2⟩⟩ : Rc)]).length d9] 27 (0, 0)) :: pt b2 (.cells #[.slice none 0 0] 27 (0, 0)) :: s) (.cons _ (.cons _ (.refl _))) ?_)))))))))
   rw [← polyS_succ]
   refine ST.again (g2, _, rcs1 ++ [⟨(i : Int) + k + 1, 1, ⟨some ⟨b44, 0, none⟩, 2, 2⟩⟩], v56, k + 1) ⟨rfl, rfl, rfl, rfl, rfl, trivial⟩ rfl rfl ⟨hle1.trans hle2, lN, ?_⟩ lN
   dsimp only
   rw [polyE_succ, ← List.append_assoc]
   exact (hrcs1.mono fun _ _ => CellR.mono hle2).append ⟨⟨rfl, rfl, hsd⟩, trivial⟩
  ·have hki : k = i := oM
   subst hki
   refine SC.exit (ST.thenX (ST.thenX (ST.blockX (ST.thenN (SC.seq (SC.freezeRow fun g2 hle2 hs2 => ?_))))))
   have hsd : SlA encSide g2 sv (polyS k k) := hs2
   obtain ⟨qs, ds, rfl⟩ := SlA.form hsd
   have hrcs2 := hrcs1.mono fun _ _ => CellR.mono hle2
   refine SC.region (SL.U (SU.fieldAddr underlying27 rfl sizeOf25 rfl) (SL.K (SQ.load (v := ov1) isAgg25 rfl (CellAt.own 1 rfl rfl)) (SL.M rfl (SL.U (SU.mul rfl rfl oM) (SL.U (SU.add rfl rfl oM) (SL.M rfl (SL.U (SU.build rfl (buildF51 _ _ _ rfl)) (SL.W (SO.buildSlice sty25 rfl rfl rfl (szs_mk (by exact ⟨rfl, trivial⟩)) dC) ?_))))))))
   rintro _ _ _ ⟨b64, rfl, rfl, rfl⟩
   refine SL.W (SO.app1A (e := encCell) 0 ⟨2 * (k : Int) + 1, 2, ⟨qs, (polyS k k).length, ds⟩⟩ sty25 rfl rfl rfl rfl rfl oM oM) ?_
   rintro v65 _ _ ⟨rfl, rfl⟩
   refine SL.facts fun ⟨w0, hw0⟩ => ?_
   obtain ⟨q9, d9, rfl⟩ := rowA_form (i := 0) hw0 rfl
   clear hw0 w0
   refine SL.U (SU.fieldAddr underlying27 rfl sizeOf25 rfl) (SL.on (SO.storeAllK 1 sizeOf25 rfl rfl rfl rfl rfl (by exact ⟨rfl, trivial⟩)) ?_)
   rintro _ _ _ ⟨rfl, rfl⟩
   refine SL.nil (ST.thenN (SC.seq (SC.seq (SC.region (SL.M rfl (SL.U (SU.rem rfl rfl dC) (SL.U (SU.eql rfl rfl) (SL.nil (ST.thenN ?_)))))))))
   have hrcs3 : All2 (CellR g2) (polyV k ++ polyE k k ++ [⟨2 * (k : Int) + 1, 2, polyS k k⟩]) (rcs1 ++ [⟨2 * (k : Int) + 1, 2, ⟨qs, (polyS k k).length, ds⟩⟩]) := hrcs2.append ⟨⟨rfl, rfl, hsd⟩, trivial⟩
   obtain ⟨rc3, hrc3⟩ : ∃ rc3, rc3 = rcs1 ++ [(⟨2 * (k : Int) + 1, 2, ⟨qs, (polyS k k).length, ds⟩⟩ : Rc)] := ⟨_, rfl⟩
   have hrc3l : rc3.length = rcs1.length + 1 := by rw [hrc3]; simp
   rw [← hrc3] at hrcs3 ⊢
   have hfit := (polyAll_fits h6).1
   refine SC.ifP rfl (fun hev => ?_) (fun hev => ?_)
   ·have hall : polyAll k = polyV k ++ polyE k k ++ [⟨2 * (k : Int) + 1, 2, polyS k k⟩] ++ [⟨2 * (k : Int) + 2, 2, polyS k k⟩] := by unfold polyAll; rw [if_pos hev]
    refine SC.draw [10, 11, 12] [(0, 2), (1, 1), (2, 2), (3, 2), (4, 2), (6, 2), (5, 0), (7, 0), (8, 2), (9, 0), (10, 0), (11, 0), (12, 0)] Tryz.mixed (by kernel_rfl) ?_
    refine SP.U (i := 0) rfl (SU.fieldAddr underlying27 rfl sizeOf25 rfl) (SP.K (i := 1) rfl (SQ.load (v := .slice q9 rc3.length d9) isAgg25 rfl (CellAt.own 1 rfl rfl)) (SP.U (i := 2) rfl (SU.move rfl) (SP.U (i := 3) rfl (SU.mul rfl rfl oM) (SP.U (i := 4) rfl (SU.add rfl rfl oM) (SP.U (i := 6) rfl (SU.move rfl) (SP.o (i := 5) rfl (SO.buildSlice sty49 rfl rfl rfl (szs_mk trivial) dC) dC (.inr (by rintro _ _ _ ⟨b75, rfl, rfl, rfl⟩; exact ⟨by exact Le.refl _, (by exact .cons _ (.refl _))⟩)) ?_))))))
    rintro _ _ _ ⟨b75, rfl, rfl, rfl⟩
    refine SP.to (fun w hw => (hw.sublist (List.Sublist.cons _ (.refl _))).emptyRow 55 2 (some ⟨b75, 0, none⟩)) ?_
    refine SP.o (i := 7) rfl (SO.appA (e := encSide) (l := []) 0 sty49 rfl rfl rfl hsd lN lN) dC (.inr (by rintro v77 _ _ ⟨rfl, rfl⟩; exact ⟨by exact Le.refl _, (by exact .cons _ (.refl _))⟩)) ?_
    rintro v77 _ _ ⟨rfl, rfl⟩
    refine SP.freezeRow fun g77 hle77 hs77 => ?_
    have hsd2 : SlA encSide g77 v77 ([] ++ polyS k k) := hs77
    rw [List.nil_append] at hsd2
    obtain ⟨q77, d77, rfl⟩ := SlA.form hsd2
    refine SP.U (i := 8) rfl (SU.build rfl (buildF51 _ _ _ rfl)) (SP.o (i := 9) rfl (SO.buildSlice sty25 rfl rfl rfl (szs_mk (by exact ⟨rfl, trivial⟩)) dC) dC (.inr (by rintro _ _ _ ⟨b79, rfl, rfl, rfl⟩; exact ⟨by assumption, (by exact .cons _ (.refl _))⟩)) ?_)
    rintro _ _ _ ⟨b79, rfl, rfl, rfl⟩
    refine SP.o (i := 10) rfl (SO.app1A (e := encCell) (l := rc3) 0 ⟨2 * (k : Int) + 2, 2, ⟨q77, (polyS k k).length, d77⟩⟩ sty25 rfl rfl rfl rfl rfl oM oM) dC (.inl dC) ?_
    rintro v80 _ _ ⟨rfl, rfl⟩
    refine SP.facts fun ⟨w0, hw0⟩ => ?_
    obtain ⟨q10, d10, rfl⟩ := rowA_form (i := 0) hw0 rfl
    clear hw0 w0
    refine SP.ou (i := 11) rfl (SU.fieldAddr underlying27 rfl sizeOf25 rfl) dC (.inl dC) (SP.on (i := 12) rfl (SO.storeAllK 1 sizeOf25 rfl rfl rfl rfl rfl (by exact ⟨rfl, trivial⟩)) (.inl dC) ?_)
    rintro _ _ _ ⟨rfl, rfl⟩
    refine SP.nil (ST.thenN (SC.seq (SC.freezeRow fun g78 hle78 hs78 => ?_)))
    have hov : Cells g78 (.slice q10 (rc3 ++ [(⟨2 * (k : Int) + 2, 2, ⟨q77, (polyS k k).length, d77⟩⟩ : Rc)]).length d10) (polyAll k) := (by rw [hall]; exact ⟨_, hs78, (hrcs3.mono fun _ _ => CellR.mono (hle77.trans hle78)).append ⟨⟨rfl, rfl, hsd2.mono hle78⟩, trivial⟩⟩)
    refine SC.region (SL.K (SQ.loadVarK 0 isAgg27 sizeOf27 rfl rfl rfl) (SL.W (SO.call call63 rfl (refCanon_spec E g78 _ _ (polyAll k) hov hfit)) ?_))
    rintro _ g79 _ ⟨rfl, hle79, x79, rfl, hx79⟩
    obtain ⟨q79, d79, rfl⟩ := hx79.form
    refine SL.on (SO.storeAllK 1 sizeOf27 rfl rfl rfl rfl rfl (by exact ⟨rfl, trivial⟩)) ?_
    rintro _ _ _ ⟨rfl, rfl⟩
    refine SL.nil (ST.thenN (SC.ret ?_))
    exact ST.retCD 1 s (.inl rfl) results65 rfl isAgg27 sizeOf27 rfl rfl (.cons _ (.cons _ (.refl _))) ⟨rfl, hle1.trans (hle2.trans (hle77.trans (hle78.trans hle79))), _, rfl, hx79⟩
   ·have hall : polyAll k = polyV k ++ polyE k k ++ [⟨2 * (k : Int) + 1, 2, polyS k k⟩] := by unfold polyAll; rw [if_neg hev, List.append_nil]
    refine SC.skip (ST.thenN (SC.seq (SC.freezeRow fun g78 hle78 hs78 => ?_)))
    have hov : Cells g78 (.slice q9 rc3.length d9) (polyAll k) := (by rw [hall]; exact ⟨_, hs78, hrcs3.mono fun _ _ => CellR.mono hle78⟩)
    refine SC.region (SL.K (SQ.loadVarK 0 isAgg27 sizeOf27 rfl rfl rfl) (SL.W (SO.call call63 rfl (refCanon_spec E g78 _ _ (polyAll k) hov hfit)) ?_))
    rintro _ g79 _ ⟨rfl, hle79, x79, rfl, hx79⟩
    obtain ⟨q79, d79, rfl⟩ := hx79.form
    refine SL.on (SO.storeAllK 1 sizeOf27 rfl rfl rfl rfl rfl (by exact ⟨rfl, trivial⟩)) ?_
    rintro _ _ _ ⟨rfl, rfl⟩
    refine SL.nil (ST.thenN (SC.ret ?_))
    exact ST.retCD 1 s (.inl rfl) results65 rfl isAgg27 sizeOf27 rfl rfl (.cons _ (.cons _ (.refl _))) ⟨rfl, hle1.trans (hle2.trans (hle78.trans hle79)), _, rfl, hx79⟩
theorem modW_range (a b : Int) (h0 : 0 < b) (h1 : b ≤ 1000) : 0 ≤ modW a b ∧ modW a b < b := by
 have h2 : a.tmod b < b := Int.tmod_lt_of_pos a h0
 have h3 : -b < a.tmod b := by
  have := Int.lt_tmod_of_pos a h0
  omega
 unfold modW
 rw [IntWalk.i64_in _ oM, Int.tmod_eq_emod_of_nonneg oM]
 exact ⟨Int.emod_nonneg _ oM, Int.emod_lt_of_pos _ h0⟩
def renK (y : Int) : Int := 1 + 2 * modW (IntKind.i64.wrap (y.tdiv 7)) 3
def renT (y : Int) : Int := modW (IntKind.i64.wrap (y.tdiv 5)) 4
def turn1 (t : Int) (x : Cl) : Bool := decide (t > 1) && decide (x.id.tmod t = 1)
def turn2 (t : Int) (x : Cl) (q : Int) : Bool := (decide (t > 1) && decide (x.dim > 1)) && decide (q.tmod t = 1)
def negIf (b : Bool) (a : Int) : Int := if b then IntKind.i64.wrap (0 - a) else a
def renSide (k t : Int) (x : Cl) (q : Side) : Side := ⟨mixC q.cell k, negIf (turn2 t x q.cell) (negIf (turn1 t x) q.sign)⟩
def renCell (k t : Int) (x : Cl) : Cl := ⟨mixC x.id k, x.dim, x.sides.map (renSide k t x)⟩
def renC (l : List Cl) (y : Int) : List Cl := canonC (l.map (renCell (renK y) (renT y)))
theorem ren_fits {l : List Cl} (h : Fits l) (k t : Int) : Fits (l.map (renCell k t)) := by
 refine ⟨by simpa using h.1, fun c hc => ?_⟩
 obtain ⟨x, hx, rfl⟩ := List.mem_map.1 hc
 simpa [renCell] using h.2 x hx
theorem renumbered_spec (E : World) (g : PH) (s : Own) (v : Value) (l : List Cl) (y : Int) (hv : Cells g v l) (hf : Fits l) :
  Ctr Tryz.prog E 67 #[.agg #[v], vi y] g s (fun r g' s' => s = s' ∧ Le g g' ∧ ∃ x, r = .agg #[x] ∧ Cells g' x (renC l y)) := by
 obtain ⟨rs, hrs, hall⟩ := hv
 have el := hall.length
 obtain ⟨p, c, rfl⟩ := hrs.form
 have hll := hf.1
 have hk3 := modW_range (IntKind.i64.wrap (y.tdiv 7)) 3 dC dC
 have ht4 := modW_range (IntKind.i64.wrap (y.tdiv 5)) 4 dC dC
 refine Ctr.of (args := [.agg #[.slice p rs.length c], vi y]) func67 rfl ntmps67 (Nat.le_of_ble_eq_true rfl) ?_
 refine SC.seq (SC.region (SL.W (SO.box rfl) ?_))
 rintro _ _ _ ⟨b2, rfl, rfl, rfl⟩
 refine SL.W (SO.alloc zeroValue27) ?_
 rintro _ _ _ ⟨b4, rfl, rfl, rfl⟩
 refine SL.nil (ST.thenN (SC.seq (SC.region (SL.M rfl (SL.U (SU.quo rfl rfl dC) (SL.W (SO.call call38 rfl (mod_spec E g _ _ 3 dC)) ?_))))))
 rintro _ _ _ ⟨rfl, rfl, rfl⟩
 refine SL.U (SU.mul rfl rfl oM) (SL.U (SU.add rfl rfl oM) (SL.A rfl (SL.nil (ST.thenN (SC.seq (SC.region (SL.M rfl (SL.U (SU.quo rfl rfl dC) (SL.W (SO.call call38 rfl (mod_spec E g _ _ 4 dC)) ?_)))))))))
 rintro _ _ _ ⟨rfl, rfl, rfl⟩
 refine SL.A rfl (SL.nil (ST.thenN (SC.seq (SC.region (SL.W (SO.alloc zeroValue27) ?_)))))
 rintro _ _ _ ⟨b7, rfl, rfl, rfl⟩
 refine SL.nil (ST.thenN (SC.seq (SC.seq (SC.region (SL.A rfl (SL.nil (ST.thenN (SC.block (SC.nilRow 51 3 ?_)))))))))
 have hke : 1 + 2 * modW (IntKind.i64.wrap (y.tdiv 7)) 3 = renK y := rfl
 have hte : modW (IntKind.i64.wrap (y.tdiv 5)) 4 = renT y := rfl
 rw [hte] at ht4
 unfold renC
 simp only [hke, hte]
 generalize renK y = k at *
 generalize renT y = t at *
 refine SC.loop (ι := PH × Value × List Rc × Nat) (fun i => [(2, pp b2 0), (4, pp b4 0), (5, vi k), (6, vi t), (7, pp b7 0), (8, vi i.2.2.2)]) (fun i => i.1) (fun i => rowA encCell 51 i.2.1 i.2.2.1 :: pt b7 (.cells #[i.2.1] 27 (0, 0)) :: pt b4 (.cells #[.slice none 0 0] 27 (0, 0)) :: pt b2 (.cells #[.slice p rs.length c] 27 (0, 0)) :: s)
  (fun i => Le g i.1 ∧ i.2.2.2 ≤ rs.length ∧ All2 (CellR i.1) ((l.take i.2.2.2).map (renCell k t)) i.2.2.1) (fun i => rs.length - i.2.2.2)
  (g, .slice none 0 0, [], 0) ⟨rfl, rfl, rfl, rfl, rfl, rfl, trivial⟩ rfl rfl ⟨Le.refl g, Nat.zero_le _, trivial⟩ ?_
 rintro ⟨g1, ov, rcs, i⟩ ⟨hle, hi, hrcs⟩
 dsimp only at hle hi hrcs ⊢
 have hrl := hrcs.length
 rw [List.length_map, List.length_take] at hrl
 refine SC.seq (SC.seq (SC.region (SL.M rfl (SL.U (SU.fieldAddr underlying27 rfl sizeOf25 rfl) (SL.K (SQ.load (v := .slice p rs.length c) isAgg25 rfl (CellAt.own 3 rfl rfl)) (SL.U (SU.lenN underlying25 rfl) (SL.U (SU.lss rfl rfl) (SL.nil (ST.thenN ?_)))))))))
 refine SC.ifP rfl (fun hlt => ?_) (fun hlt => ?_)
 ·have hil : i < l.length := oM
  have hir : i < rs.length := oM
  have hb1 := hrs.based oM
  have hxr := (hall.get (List.getElem?_eq_getElem hil) (List.getElem?_eq_getElem hir)).mono hle
  have hgx : rs[((i : Nat) : Int).toNat]? = some rs[i] := List.getElem?_eq_getElem hir
  have hsucc := map_take_succ hil (renCell k t)
  have hxl := hf.2 _ (List.getElem_mem hil)
  generalize hxe : l[i] = x at *
  obtain ⟨xp, xcap, hrx, hxs⟩ := cellR_form hxr
  rw [hrx] at hgx
  refine SC.skip (ST.thenN (SC.seq (SC.block (SC.seq (SC.region (SL.U (SU.fieldAddr underlying27 rfl sizeOf25 rfl) (SL.K (SQ.load (v := .slice p rs.length c) isAgg25 rfl (CellAt.own 3 rfl rfl)) (SL.M rfl (SL.U (SU.indexAddr underlying25 sizeOf51 rfl rfl hb1 oM sL) (SL.K (SQ.elemA isAgg51 sizeOf51 rfl (hrs.mono hle).rd hgx) (SL.W (SO.alloc zeroValue51) ?_)))))))))))
  rintro _ _ _ ⟨b9, rfl, rfl, rfl⟩
  refine SL.on (SO.storeAllK 0 sizeOf51 rfl rfl rfl rfl rfl (by exact ⟨rfl, rfl, rfl, trivial⟩)) ?_
  rintro _ _ _ ⟨rfl, rfl⟩
  refine SL.nil (ST.thenN ?_)
  refine SC.to (fun w hw => hw) (g' := g1) (s' := pt b9 (.cells #[vi x.id, vi x.dim, .slice xp x.sides.length xcap] 51 (0, 0)) :: rowA encCell 51 ov rcs :: pt b7 (.cells #[ov] 27 (0, 0)) :: pt b4 (.cells #[.slice none 0 0] 27 (0, 0)) :: pt b2 (.cells #[.slice p rs.length c] 27 (0, 0)) :: s) ?_
  refine SC.cut (ι := Nat) (fun b10 => [(2, pp b2 0), (4, pp b4 0), (5, vi k), (6, vi t), (7, pp b7 0), (8, vi i), (9, pp b9 0), (10, pp b10 0)]) (fun _ => g1) (fun b10 => pt b10 (.cells #[vi (mixC x.id k), vi x.dim, .slice none 0 0] 51 (0, 0)) :: pt b9 (.cells #[vi x.id, vi x.dim, .slice xp x.sides.length xcap] 51 (0, 0)) :: rowA encCell 51 ov rcs :: pt b7 (.cells #[ov] 27 (0, 0)) :: pt b4 (.cells #[.slice none 0 0] 27 (0, 0)) :: pt b2 (.cells #[.slice p rs.length c] 27 (0, 0)) :: s) (fun _ => True) ?_ ?_
  ·refine SC.drawX [] Tryz.mixed (by kernel_rfl) ?_
   refine SX.u (i := 0) rfl (by kernel_rfl) (SU.fieldAddr underlying51 rfl sizeOf3 rfl) dC (SX.q (i := 1) rfl (by kernel_rfl) (SQ.load (v := vi x.id) isAgg3 rfl (CellAt.own 0 rfl rfl)) dC (SX.u (i := 2) rfl (by kernel_rfl) (SU.move rfl) dC (SX.u (i := 4) rfl (by kernel_rfl) (SU.fieldAddr underlying51 rfl sizeOf3 rfl) dC (SX.q (i := 5) rfl (by kernel_rfl) (SQ.load (v := vi x.dim) isAgg3 rfl (CellAt.own 0 rfl rfl)) dC ?_))))
   refine SX.br2 3 7 (by kernel_rfl) ?_ ?_
   ·refine SB.o (i := 3) rfl (SO.call call98 rfl (mixed_spec E g1 _ x.id k)) dC (.inr (by rintro _ _ _ ⟨rfl, rfl, rfl⟩; exact ⟨by exact Le.refl _, (by exact .refl _)⟩)) ?_
    rintro _ _ _ ⟨rfl, rfl, rfl⟩
    refine SX.u (i := 6) rfl (by kernel_rfl) (SU.build rfl (buildC51 _ _)) dC ?_
    refine SX.br1 7 (by kernel_rfl) ?_
    ·refine SB.o (i := 7) rfl (SO.alloc zeroValue51) dC (.inr (by rintro _ _ _ ⟨b10, rfl, rfl, rfl⟩; exact ⟨by exact Le.refl _, (by exact .cons _ (.refl _))⟩)) ?_
     rintro _ _ _ ⟨b10, rfl, rfl, rfl⟩
     refine SX.br1 8 (by kernel_rfl) ?_
     ·refine SB.on (i := 8) rfl (SO.storeAllK 0 sizeOf51 rfl rfl rfl rfl rfl (by exact ⟨rfl, rfl, rfl, trivial⟩)) (.inr (by rintro _ _ _ ⟨rfl, rfl⟩; exact ⟨by exact Le.refl _, (by exact .cons _ (.refl _))⟩)) ?_
      rintro _ _ _ ⟨rfl, rfl⟩
      refine SX.nil (by kernel_rfl) ?_
      exact ST.mid b10 ⟨rfl, rfl, rfl, rfl, rfl, rfl, rfl, rfl, trivial⟩ rfl rfl trivial
   ·refine SB.o (i := 7) rfl (SO.alloc zeroValue51) dC (.inr (by rintro _ _ _ ⟨b10, rfl, rfl, rfl⟩; exact ⟨by exact Le.refl _, (by exact .cons _ (.refl _))⟩)) ?_
    rintro _ _ _ ⟨b10, rfl, rfl, rfl⟩
    refine SX.br1 3 (by kernel_rfl) ?_
    ·refine SB.o (i := 3) rfl (SO.call call98 rfl (mixed_spec E g1 _ x.id k)) dC (.inr (by rintro _ _ _ ⟨rfl, rfl, rfl⟩; exact ⟨by exact Le.refl _, (by exact .cons _ (.refl _))⟩)) ?_
     rintro _ _ _ ⟨rfl, rfl, rfl⟩
     refine SX.u (i := 6) rfl (by kernel_rfl) (SU.build rfl (buildC51 _ _)) dC ?_
     refine SX.br1 8 (by kernel_rfl) ?_
     ·refine SB.on (i := 8) rfl (SO.storeAllK 0 sizeOf51 rfl rfl rfl rfl rfl (by exact ⟨rfl, rfl, rfl, trivial⟩)) (.inr (by rintro _ _ _ ⟨rfl, rfl⟩; exact ⟨by exact Le.refl _, (by exact .cons _ (.refl _))⟩)) ?_
      rintro _ _ _ ⟨rfl, rfl⟩
      refine SX.nil (by kernel_rfl) ?_
      exact ST.mid b10 ⟨rfl, rfl, rfl, rfl, rfl, rfl, rfl, rfl, trivial⟩ rfl rfl trivial
  rintro b10 -
  try dsimp only
  refine SC.nilRow 55 2 (SC.seq (SC.seq (SC.region (SL.A rfl (SL.nil (ST.thenN (SC.block ?_)))))))
  refine SC.loop (ι := Value × Nat) (fun j => [(2, pp b2 0), (4, pp b4 0), (5, vi k), (6, vi t), (7, pp b7 0), (8, vi i), (9, pp b9 0), (10, pp b10 0), (11, vi j.2)]) (fun _ => g1) (fun j => rowA encSide 55 j.1 ((x.sides.take j.2).map (renSide k t x)) :: pt b10 (.cells #[vi (mixC x.id k), vi x.dim, j.1] 51 (0, 0)) :: pt b9 (.cells #[vi x.id, vi x.dim, .slice xp x.sides.length xcap] 51 (0, 0)) :: rowA encCell 51 ov rcs :: pt b7 (.cells #[ov] 27 (0, 0)) :: pt b4 (.cells #[.slice none 0 0] 27 (0, 0)) :: pt b2 (.cells #[.slice p rs.length c] 27 (0, 0)) :: s)
   (fun j => j.2 ≤ x.sides.length) (fun j => x.sides.length - j.2) (.slice none 0 0, 0) ⟨rfl, rfl, rfl, rfl, rfl, rfl, rfl, rfl, rfl, trivial⟩ rfl rfl (Nat.zero_le _) ?_
  rintro ⟨sv, j⟩ hj
  dsimp only at hj ⊢
  refine SC.seq (SC.seq (SC.region (SL.M rfl (SL.U (SU.fieldAddr underlying51 rfl sizeOf49 rfl) (SL.K (SQ.load (v := .slice xp x.sides.length xcap) isAgg49 rfl (CellAt.own 2 rfl rfl)) (SL.U (SU.lenN underlying49 rfl) (SL.U (SU.lss rfl rfl) (SL.nil (ST.thenN ?_)))))))))
  refine SC.ifP rfl (fun hlt2 => ?_) (fun hlt2 => ?_)
  ·have hjl : j < x.sides.length := oM
   have hb3 := hxs.based oM
   have hjx : x.sides[((j : Nat) : Int).toNat]? = some x.sides[j] := List.getElem?_eq_getElem hjl
   have hjs := map_take_succ hjl (renSide k t x)
   generalize x.sides[j] = z at *
   refine SC.skip (ST.thenN (SC.seq (SC.block ?_)))
   refine SC.cut (ι := Nat) (fun b12 => [(2, pp b2 0), (4, pp b4 0), (5, vi k), (6, vi t), (7, pp b7 0), (8, vi i), (9, pp b9 0), (10, pp b10 0), (11, vi j), (12, pp b12 0)]) (fun _ => g1) (fun b12 => pt b12 (.cells #[vi (mixC z.cell k), vi z.sign] 55 (0, 0)) :: rowA encSide 55 sv ((x.sides.take j).map (renSide k t x)) :: pt b10 (.cells #[vi (mixC x.id k), vi x.dim, sv] 51 (0, 0)) :: pt b9 (.cells #[vi x.id, vi x.dim, .slice xp x.sides.length xcap] 51 (0, 0)) :: rowA encCell 51 ov rcs :: pt b7 (.cells #[ov] 27 (0, 0)) :: pt b4 (.cells #[.slice none 0 0] 27 (0, 0)) :: pt b2 (.cells #[.slice p rs.length c] 27 (0, 0)) :: s) (fun _ => True) ?_ ?_
   ·refine SC.drawX [] Tryz.mixed (by kernel_rfl) ?_
    refine SX.u (i := 0) rfl (by kernel_rfl) (SU.fieldAddr underlying51 rfl sizeOf49 rfl) dC (SX.q (i := 1) rfl (by kernel_rfl) (SQ.load (v := .slice xp x.sides.length xcap) isAgg49 rfl (CellAt.own 2 rfl rfl)) dC (SX.u (i := 2) rfl (by kernel_rfl) (SU.move rfl) dC (SX.u (i := 3) rfl (by kernel_rfl) (SU.indexAddr underlying49 sizeOf55 rfl rfl hb3 oM sL) dC (SX.u (i := 4) rfl (by kernel_rfl) (SU.fieldAddrC underlying55 rfl sizeOf3 rfl hb3) dC (SX.q (i := 5) rfl (by kernel_rfl) (SQ.partA (e := encSide) (o := 0) (u := vi z.cell) isAgg3 rfl hxs.rd hjx rfl) dC (SX.u (i := 6) rfl (by kernel_rfl) (SU.move rfl) dC (SX.u (i := 8) rfl (by kernel_rfl) (SU.fieldAddr underlying51 rfl sizeOf49 rfl) dC (SX.q (i := 9) rfl (by kernel_rfl) (SQ.load (v := .slice xp x.sides.length xcap) isAgg49 rfl (CellAt.own 2 rfl rfl)) dC (SX.u (i := 10) rfl (by kernel_rfl) (SU.move rfl) dC (SX.u (i := 11) rfl (by kernel_rfl) (SU.indexAddr underlying49 sizeOf55 rfl rfl hb3 oM sL) dC (SX.u (i := 12) rfl (by kernel_rfl) (SU.fieldAddrC underlying55 rfl sizeOf3 rfl hb3) dC (SX.q (i := 13) rfl (by kernel_rfl) (SQ.partA (e := encSide) (o := 1) (u := vi z.sign) isAgg3 rfl hxs.rd hjx rfl) dC ?_))))))))))))
    refine SX.br2 7 15 (by kernel_rfl) ?_ ?_
    ·refine SB.o (i := 7) rfl (SO.call call98 rfl (mixed_spec E g1 _ z.cell k)) dC (.inr (by rintro _ _ _ ⟨rfl, rfl, rfl⟩; exact ⟨by exact Le.refl _, (by exact .refl _)⟩)) ?_
     rintro _ _ _ ⟨rfl, rfl, rfl⟩
     refine SX.u (i := 14) rfl (by kernel_rfl) (SU.build rfl (buildS55 _ _)) dC ?_
     refine SX.br1 15 (by kernel_rfl) ?_
     ·refine SB.o (i := 15) rfl (SO.alloc zeroValue55) dC (.inr (by rintro _ _ _ ⟨b12, rfl, rfl, rfl⟩; exact ⟨by exact Le.refl _, (by exact .cons _ (.refl _))⟩)) ?_
      rintro _ _ _ ⟨b12, rfl, rfl, rfl⟩
      refine SX.br1 16 (by kernel_rfl) ?_
      ·refine SB.on (i := 16) rfl (SO.storeAllK 0 sizeOf55 rfl rfl rfl rfl rfl (by exact ⟨rfl, rfl, trivial⟩)) (.inr (by rintro _ _ _ ⟨rfl, rfl⟩; exact ⟨by exact Le.refl _, (by exact .cons _ (.refl _))⟩)) ?_
       rintro _ _ _ ⟨rfl, rfl⟩
       refine SX.nil (by kernel_rfl) ?_
       exact ST.mid b12 ⟨rfl, rfl, rfl, rfl, rfl, rfl, rfl, rfl, rfl, rfl, trivial⟩ rfl rfl trivial
    ·refine SB.o (i := 15) rfl (SO.alloc zeroValue55) dC (.inr (by rintro _ _ _ ⟨b12, rfl, rfl, rfl⟩; exact ⟨by exact Le.refl _, (by exact .cons _ (.refl _))⟩)) ?_
     rintro _ _ _ ⟨b12, rfl, rfl, rfl⟩
     refine SX.br1 7 (by kernel_rfl) ?_
     ·refine SB.o (i := 7) rfl (SO.call call98 rfl (mixed_spec E g1 _ z.cell k)) dC (.inr (by rintro _ _ _ ⟨rfl, rfl, rfl⟩; exact ⟨by exact Le.refl _, (by exact .cons _ (.refl _))⟩)) ?_
      rintro _ _ _ ⟨rfl, rfl, rfl⟩
      refine SX.u (i := 14) rfl (by kernel_rfl) (SU.build rfl (buildS55 _ _)) dC ?_
      refine SX.br1 16 (by kernel_rfl) ?_
      ·refine SB.on (i := 16) rfl (SO.storeAllK 0 sizeOf55 rfl rfl rfl rfl rfl (by exact ⟨rfl, rfl, trivial⟩)) (.inr (by rintro _ _ _ ⟨rfl, rfl⟩; exact ⟨by exact Le.refl _, (by exact .cons _ (.refl _))⟩)) ?_
       rintro _ _ _ ⟨rfl, rfl⟩
       refine SX.nil (by kernel_rfl) ?_
       exact ST.mid b12 ⟨rfl, rfl, rfl, rfl, rfl, rfl, rfl, rfl, rfl, rfl, trivial⟩ rfl rfl trivial
   rintro b12 -
   try dsimp only
   have e1 : t > 1 → turn1 t x = decide (x.id.tmod t = 1) := fun h => by simp [turn1, h]
   have e2 : ¬ t > 1 → turn1 t x = false := fun h => by simp only [turn1, h, decide_false, Bool.false_and]
   have e3 : t > 1 → x.dim > 1 → turn2 t x z.cell = decide (z.cell.tmod t = 1) := fun h h' => by simp [turn2, h, h']
   have e4 : t > 1 → ¬ x.dim > 1 → turn2 t x z.cell = false := fun h h' => by simp only [turn2, h', decide_false, Bool.and_false, Bool.false_and]
   have e5 : ¬ t > 1 → turn2 t x z.cell = false := fun h => by simp only [turn2, h, decide_false, Bool.false_and]
   refine SC.cut (ι := Int) (fun _ => [(2, pp b2 0), (4, pp b4 0), (5, vi k), (6, vi t), (7, pp b7 0), (8, vi i), (9, pp b9 0), (10, pp b10 0), (11, vi j), (12, pp b12 0)]) (fun _ => g1) (fun sg => pt b12 (.cells #[vi (mixC z.cell k), vi sg] 55 (0, 0)) :: rowA encSide 55 sv ((x.sides.take j).map (renSide k t x)) :: pt b10 (.cells #[vi (mixC x.id k), vi x.dim, sv] 51 (0, 0)) :: pt b9 (.cells #[vi x.id, vi x.dim, .slice xp x.sides.length xcap] 51 (0, 0)) :: rowA encCell 51 ov rcs :: pt b7 (.cells #[ov] 27 (0, 0)) :: pt b4 (.cells #[.slice none 0 0] 27 (0, 0)) :: pt b2 (.cells #[.slice p rs.length c] 27 (0, 0)) :: s) (fun sg => sg = negIf (turn1 t x) z.sign) ?_ ?_
   ·refine SC.cutB 69 ((turn1 t x)) ?_ ?_
    ·refine SC.region (SL.M rfl (SL.U (SU.gtr rfl rfl) (SL.M rfl ?_)))
     refine SL.split ?_ ?_
     ·intro h64
      refine SL.Y rfl rfl rfl (SU.fieldAddr underlying51 rfl sizeOf3 rfl) (SL.gq (Gd.onT rfl rfl rfl dC) (SQ.load (v := vi x.id) isAgg3 rfl (CellAt.own 3 rfl rfl)) dC (SL.Y rfl rfl rfl (SU.move rfl) (SL.go (Gd.onT rfl rfl rfl dC) (SO.call call99 rfl (turned_spec E g1 _ x.id t oM)) dC ?_)))
      rintro _ _ _ ⟨rfl, rfl, rfl⟩
      refine SL.U (SU.pickT rfl rfl) (SL.nil ?_)
      exact ST.mid1 (by (rw [e1 h64]; rfl)) mI
     ·intro h64
      refine SL.Z rfl rfl rfl (SL.Z rfl rfl rfl (SL.Z rfl rfl rfl (SL.Z rfl rfl rfl (SL.U (SU.pickF rfl rfl) (SL.nil ?_)))))
      exact ST.mid1 (by (rw [e2 h64]; rfl)) mI
    refine SC.ifB rfl (fun hq1 => ?_) (fun hq1 => ?_)
    ·refine SC.region (SL.U (SU.fieldAddr underlying55 rfl sizeOf3 rfl) (SL.K (SQ.load (v := vi z.sign) isAgg3 rfl (CellAt.own 0 rfl rfl)) (SL.U (SU.neg rfl) (SL.U (SU.fieldAddr underlying55 rfl sizeOf3 rfl) (SL.on (SO.store1 0 sizeOf3 rfl rfl rfl rfl (Nat.le_of_ble_eq_true rfl) (by rfl)) ?_)))))
     rintro _ _ _ ⟨rfl, rfl⟩
     refine SL.nil ?_
     exact ST.mid (IntKind.i64.wrap (0 - z.sign)) ⟨rfl, rfl, rfl, rfl, rfl, rfl, rfl, rfl, rfl, rfl, trivial⟩ rfl rfl (by rw [hq1]; rfl)
    ·refine SC.skip ?_
     exact ST.mid z.sign ⟨rfl, rfl, rfl, rfl, rfl, rfl, rfl, rfl, rfl, rfl, trivial⟩ rfl rfl (by rw [hq1]; rfl)
   rintro s1 hs1
   try dsimp only
   refine SC.cut (ι := Int) (fun _ => [(2, pp b2 0), (4, pp b4 0), (5, vi k), (6, vi t), (7, pp b7 0), (8, vi i), (9, pp b9 0), (10, pp b10 0), (11, vi j), (12, pp b12 0)]) (fun _ => g1) (fun sg => pt b12 (.cells #[vi (mixC z.cell k), vi sg] 55 (0, 0)) :: rowA encSide 55 sv ((x.sides.take j).map (renSide k t x)) :: pt b10 (.cells #[vi (mixC x.id k), vi x.dim, sv] 51 (0, 0)) :: pt b9 (.cells #[vi x.id, vi x.dim, .slice xp x.sides.length xcap] 51 (0, 0)) :: rowA encCell 51 ov rcs :: pt b7 (.cells #[ov] 27 (0, 0)) :: pt b4 (.cells #[.slice none 0 0] 27 (0, 0)) :: pt b2 (.cells #[.slice p rs.length c] 27 (0, 0)) :: s) (fun sg => sg = negIf (turn2 t x z.cell) s1) ?_ ?_
   ·refine SC.cutB 90 ((turn2 t x z.cell)) ?_ ?_
    ·refine SC.region (SL.M rfl (SL.U (SU.gtr rfl rfl) (SL.M rfl ?_)))
     refine SL.split ?_ ?_
     ·intro h76
      refine SL.Y rfl rfl rfl (SU.fieldAddr underlying51 rfl sizeOf3 rfl) (SL.gq (Gd.onT rfl rfl rfl dC) (SQ.load (v := vi x.dim) isAgg3 rfl (CellAt.own 3 rfl rfl)) dC (SL.Y rfl rfl rfl (SU.gtr rfl rfl) (SL.U (SU.pickT rfl rfl) (SL.M rfl ?_))))
      refine SL.split ?_ ?_
      ·intro h81
       refine SL.Y rfl rfl rfl (SU.fieldAddr underlying51 rfl sizeOf49 rfl) (SL.gq (Gd.onT rfl rfl rfl dC) (SQ.load (v := .slice xp x.sides.length xcap) isAgg49 rfl (CellAt.own 3 rfl rfl)) dC (SL.Y rfl rfl rfl (SU.move rfl) (SL.Y rfl rfl rfl (SU.indexAddr underlying49 sizeOf55 rfl rfl hb3 oM sL) (SL.Y rfl rfl rfl (SU.fieldAddrC underlying55 rfl sizeOf3 rfl hb3) (SL.gq (Gd.onT rfl rfl rfl dC) (SQ.partA (e := encSide) (o := 0) (u := vi z.cell) isAgg3 rfl hxs.rd hjx rfl) dC (SL.Y rfl rfl rfl (SU.move rfl) (SL.go (Gd.onT rfl rfl rfl dC) (SO.call call99 rfl (turned_spec E g1 _ z.cell t oM)) dC ?_)))))))
       rintro _ _ _ ⟨rfl, rfl, rfl⟩
       refine SL.U (SU.pickT rfl rfl) (SL.nil ?_)
       exact ST.mid1 (by (rw [e3 h76 h81]; rfl)) mI
      ·intro h81
       refine SL.Z rfl rfl rfl (SL.Z rfl rfl rfl (SL.Z rfl rfl rfl (SL.Z rfl rfl rfl (SL.Z rfl rfl rfl (SL.Z rfl rfl rfl (SL.Z rfl rfl rfl (SL.Z rfl rfl rfl (SL.U (SU.pickF rfl rfl) (SL.nil ?_)))))))))
       exact ST.mid1 (by (rw [e4 h76 h81]; rfl)) mI
     ·intro h76
      refine SL.Z rfl rfl rfl (SL.Z rfl rfl rfl (SL.Z rfl rfl rfl (SL.U (SU.pickF rfl rfl) (SL.M rfl (SL.Z rfl rfl rfl (SL.Z rfl rfl rfl (SL.Z rfl rfl rfl (SL.Z rfl rfl rfl (SL.Z rfl rfl rfl (SL.Z rfl rfl rfl (SL.Z rfl rfl rfl (SL.Z rfl rfl rfl (SL.U (SU.pickF rfl rfl) (SL.nil ?_))))))))))))))
      exact ST.mid1 (by (rw [e5 h76]; rfl)) mI
    refine SC.ifB rfl (fun hq2 => ?_) (fun hq2 => ?_)
    ·refine SC.region (SL.U (SU.fieldAddr underlying55 rfl sizeOf3 rfl) (SL.K (SQ.load (v := vi s1) isAgg3 rfl (CellAt.own 0 rfl rfl)) (SL.U (SU.neg rfl) (SL.U (SU.fieldAddr underlying55 rfl sizeOf3 rfl) (SL.on (SO.store1 0 sizeOf3 rfl rfl rfl rfl (Nat.le_of_ble_eq_true rfl) (by rfl)) ?_)))))
     rintro _ _ _ ⟨rfl, rfl⟩
     refine SL.nil ?_
     exact ST.mid (IntKind.i64.wrap (0 - s1)) ⟨rfl, rfl, rfl, rfl, rfl, rfl, rfl, rfl, rfl, rfl, trivial⟩ rfl rfl (by rw [hq2]; rfl)
    ·refine SC.skip ?_
     exact ST.mid s1 ⟨rfl, rfl, rfl, rfl, rfl, rfl, rfl, rfl, rfl, rfl, trivial⟩ rfl rfl (by rw [hq2]; rfl)
   rintro s2 hs2
   try dsimp only
   have hrz : renSide k t x z = ⟨mixC z.cell k, s2⟩ := by unfold renSide; rw [hs2, hs1]
   rw [hrz] at hjs
   have hml : ((x.sides.take j).map (renSide k t x)).length = j := by rw [List.length_map, List.length_take]; omega
   refine SC.region (SL.U (SU.fieldAddr underlying51 rfl sizeOf49 rfl) (SL.K (SQ.load (v := sv) isAgg49 rfl (CellAt.own 2 rfl rfl)) (SL.K (SQ.loadVarK 0 isAgg55 sizeOf55 rfl rfl rfl) (SL.W (SO.buildSlice sty49 rfl rfl rfl (szs_mk (by exact ⟨rfl, trivial⟩)) dC) ?_))))
   rintro _ _ _ ⟨b98, rfl, rfl, rfl⟩
   refine SL.W (SO.app1A (e := encSide) 1 ⟨mixC z.cell k, s2⟩ sty49 rfl rfl rfl rfl rfl oM oM) ?_
   rintro sv' _ _ ⟨rfl, rfl⟩
   rw [← hjs]
   refine SL.facts fun ⟨w0, hw0⟩ => ?_
   obtain ⟨q6, d6, rfl⟩ := rowA_form (i := 1) hw0 rfl
   clear hw0 w0
   refine SL.U (SU.fieldAddr underlying51 rfl sizeOf49 rfl) (SL.on (SO.store1 2 sizeOf49 rfl rfl rfl rfl (Nat.le_of_ble_eq_true rfl) (by rfl)) ?_)
   rintro _ _ _ ⟨rfl, rfl⟩
   refine SL.nil (ST.blockN (ST.thenN (SC.region (SL.M rfl (SL.U (SU.add rfl rfl oM) (SL.A rfl (SL.nil (ST.drop (s' := rowA encSide 55 (.slice q6 ((x.sides.take (j + 1)).map (renSide k t x)).length d6) ((x.sides.take (j + 1)).map (renSide k t x)) :: pt b10 (.cells #[vi (mixC x.id k), vi x.dim, (.slice q6 ((x.sides.take (j + 1)).map (renSide k t x)).length d6)] 51 (0, 0)) :: pt b9 (.cells #[vi x.id, vi x.dim, .slice xp x.sides.length xcap] 51 (0, 0)) :: rowA encCell 51 ov rcs :: pt b7 (.cells #[ov] 27 (0, 0)) :: pt b4 (.cells #[.slice none 0 0] 27 (0, 0)) :: pt b2 (.cells #[.slice p rs.length c] 27 (0, 0)) :: s) (.cons _ (.refl _)) ?_))))))))
   exact ST.again (_, j + 1) ⟨rfl, rfl, rfl, rfl, rfl, rfl, rfl, rfl, rfl, trivial⟩ rfl rfl lN lN
  ·have hjj : x.sides.take j = x.sides := List.take_of_length_le oM
   rw [hjj]
   refine SC.exit (ST.thenX (ST.thenX (ST.blockX (ST.thenN (SC.freezeRow fun g2 hle2 hs2 => ?_)))))
   have hsd : SlA encSide g2 sv (x.sides.map (renSide k t x)) := hs2
   obtain ⟨q8, d8, rfl⟩ := SlA.form hsd
   obtain ⟨nc, hnc⟩ : ∃ nc : Rc, nc = ⟨mixC x.id k, x.dim, ⟨q8, (x.sides.map (renSide k t x)).length, d8⟩⟩ := ⟨_, rfl⟩
   refine SC.region (SL.U (SU.fieldAddr underlying27 rfl sizeOf25 rfl) (SL.K (SQ.load (v := ov) isAgg25 rfl (CellAt.own 3 rfl rfl)) (SL.K (SQ.loadVarK 0 isAgg51 sizeOf51 rfl rfl rfl) (SL.W (SO.buildSlice sty25 rfl rfl rfl (szs_mk (by exact ⟨rfl, trivial⟩)) dC) ?_))))
   rintro _ _ _ ⟨b104, rfl, rfl, rfl⟩
   refine SL.W (SO.app1A (e := encCell) 2 nc sty25 rfl rfl rfl rfl (by rw [hnc]; rfl) oM oM) ?_
   rintro v105 _ _ ⟨rfl, rfl⟩
   refine SL.facts fun ⟨w0, hw0⟩ => ?_
   obtain ⟨q9, d9, rfl⟩ := rowA_form (i := 2) hw0 rfl
   clear hw0 w0
   refine SL.U (SU.fieldAddr underlying27 rfl sizeOf25 rfl) (SL.on (SO.storeAllK 3 sizeOf25 rfl rfl rfl rfl rfl (by exact ⟨rfl, trivial⟩)) ?_)
   rintro _ _ _ ⟨rfl, rfl⟩
   refine SL.nil (ST.blockN (ST.thenN (SC.region (SL.M rfl (SL.U (SU.add rfl rfl oM) (SL.A rfl (SL.nil (ST.drop (s' := rowA encCell 51 (.slice q9 (rcs ++ [nc]).length d9) (rcs ++ [nc]) :: pt b7 (.cells #[(.slice q9 (rcs ++ [nc]).length d9)] 27 (0, 0)) :: pt b4 (.cells #[.slice none 0 0] 27 (0, 0)) :: pt b2 (.cells #[.slice p rs.length c] 27 (0, 0)) :: s) (.cons _ (.cons _ (.refl _))) ?_))))))))
   refine ST.again (g2, _, rcs ++ [nc], i + 1) ⟨rfl, rfl, rfl, rfl, rfl, rfl, trivial⟩ rfl rfl ⟨hle.trans hle2, lN, ?_⟩ lN
   dsimp only
   rw [hsucc]
   exact (hrcs.mono fun _ _ => CellR.mono hle2).append ⟨(by rw [hnc]; exact ⟨rfl, rfl, hsd⟩), trivial⟩
 ·have hii : l.take i = l := List.take_of_length_le oM
  rw [hii] at hrcs
  refine SC.exit (ST.thenX (ST.thenX (ST.blockX (ST.thenN (SC.seq (SC.freezeRow fun g2 hle2 hs2 => ?_))))))
  have hov : Cells g2 ov (l.map (renCell k t)) := ⟨rcs, hs2, hrcs.mono fun _ _ => CellR.mono hle2⟩
  obtain ⟨qo, do_, rfl⟩ := hov.form
  refine SC.region (SL.K (SQ.loadVarK 0 isAgg27 sizeOf27 rfl rfl rfl) (SL.W (SO.call call63 rfl (refCanon_spec E g2 _ _ _ hov (ren_fits hf k t))) ?_))
  rintro _ g3 _ ⟨rfl, hle3, x3, rfl, hx3⟩
  obtain ⟨q3, d3, rfl⟩ := hx3.form
  refine SL.on (SO.storeAllK 1 sizeOf27 rfl rfl rfl rfl rfl (by exact ⟨rfl, trivial⟩)) ?_
  rintro _ _ _ ⟨rfl, rfl⟩
  refine SL.nil (ST.thenN (SC.ret ?_))
  exact ST.retCD 1 s (.inl rfl) results67 rfl isAgg27 sizeOf27 rfl rfl (.cons _ (.cons _ (.cons _ (.refl _)))) ⟨rfl, hle.trans (hle2.trans hle3), _, rfl, hx3⟩
end Go.Proofs.YtkdibcicncjpdaaGreat
