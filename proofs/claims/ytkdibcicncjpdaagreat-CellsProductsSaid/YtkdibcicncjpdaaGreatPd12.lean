/- Prr SyQ Mad1 Mad2 Mad3 Mad4 Mad5 Spo1 -/
import Derived.Test.YtkdibcicncjpdaaGreatPd11
import Derived.Test.YtkdibcicncjpdaaGreatPd07
import Derived.Test.YtkdibcicncjpdaaGreatPd06
import Derived.Test.YtkdibcicncjpdaaGreatPd09
set_option linter.unusedSimpArgs false
set_option linter.unusedVariables false
namespace Go.Proofs.YtkdibcicncjpdaaGreat
open _root_.Go.Proofs.Tryz _root_.Go.Proofs.YtkdibcicncjpdaaGreat.Tryz
open Go Go.Sy Go.Pl Go.Proofs
set_option maxRecDepth 100000
set_option maxHeartbeats 2000000
theorem refRight_facts {l : List Cl} (h : (refCheckC l).2 = 0) : l.length ≤ 4000 ∧ (canonC l).Pairwise (fun a b => a.id < b.id) ∧ tabC l = canonC l ∧ ∀ x ∈ canonC l, formC (tabC l) x = 0 := by
 unfold refCheckC at h
 split at h
 ·exact absurd h dC
 ·rename_i hl
  cases hc : chk1 (tabC l) (canonC l) 0 with
  | some p => rw [hc] at h; exact absurd h (chk1_ne hc)
  | none =>
   have hst := (chk1_strict hc).2
   exact ⟨oM, hst, tabC_strict hst, chk1_none hc⟩
theorem lbI_self : ∀ {l : List Int} {k : Nat} (h : k < l.length), l.Pairwise (· < ·) → lbI l l[k] = k := by
 intro l
 induction l with
 | nil => intro k h; simp at h
 | cons a r ih =>
  intro k h hs
  obtain ⟨h1, h2⟩ := List.pairwise_cons.1 hs
  cases k with
  | zero =>
   unfold lbI
   rw [List.length_eq_zero_iff, List.filter_eq_nil_iff]
   intro y hy
   rcases List.mem_cons.1 hy with rfl | hy
   ·simp
   ·have := h1 y hy; simp; omega
  | succ k =>
   have hk : k < r.length := by simpa using h
   have hlt := h1 r[k] (List.getElem_mem hk)
   have := ih hk h2
   unfold lbI at this ⊢
   simp [hlt, this]
theorem at_found {tl : List Cl} (hs : (tl.map Cl.id).Pairwise (· ≤ ·)) {id : Int} (h : (findT tl id).isSome = true) : atC tl id = lbI (tl.map Cl.id) id := by
 obtain ⟨c, hc⟩ := Option.isSome_iff_exists.1 h
 have hm : (tl.map Cl.id).contains id = true := by
  obtain ⟨h1, h2⟩ := findT_mem hc
  simp
  exact ⟨c, h1, h2⟩
 unfold atC
 rw [if_pos hm]
def refProdBad (a b : List Cl) : Bool := !decide ((refCheckC a).2 = 0) || !decide ((refCheckC b).2 = 0) || decide (((tabC a).length : Int) * (tabC b).length > 4000)
def refProdC (a b : List Cl) : List Cl := if refProdBad a b then [] else if (refCheckC (prodAll a b)).2 = 0 then canonC (prodAll a b) else []
theorem flatMap_take_succ {α β : Type} {l : List α} {i : Nat} (h : i < l.length) (f : α → List β) : (l.take (i + 1)).flatMap f = (l.take i).flatMap f ++ f l[i] := by
 rw [List.take_succ_eq_append_getElem h, List.flatMap_append]
 simp
theorem refProduct_spec (E : World) (g : PH) (s : Own) (v u : Value) (a b : List Cl) (hv : Cells g v a) (hu : Cells g u b) (ha : Fits a) (hb : Fits b) :
  Ctr Tryz.prog E 18 #[.agg #[v], .agg #[u]] g s (fun r g' s' => s = s' ∧ Le g g' ∧ ∃ x, r = .agg #[x] ∧ Cells g' x (refProdC a b)) := by
 obtain ⟨vp0, vc0, hvf⟩ := hv.form
 obtain ⟨up0, uc0, huf⟩ := hu.form
 have hbadA : ¬ (refCheckC a).2 = 0 → refProdBad a b = true := fun h => by simp [refProdBad, h]
 have hbadB : (refCheckC a).2 = 0 → ¬ (refCheckC b).2 = 0 → refProdBad a b = true := fun h h2 => by simp [refProdBad, h2]
 have hbadC : (refCheckC a).2 = 0 → (refCheckC b).2 = 0 → refProdBad a b = decide (((tabC a).length : Int) * (tabC b).length > 4000) := fun h h2 => by simp [refProdBad, h, h2]
 have hta := tabC_length a
 have htb := tabC_length b
 have hmul : (refCheckC a).2 = 0 → (refCheckC b).2 = 0 → ((tabC a).length : Int) * (tabC b).length ≤ 16000000 ∧ 0 ≤ ((tabC a).length : Int) * (tabC b).length := fun h h2 => mul_le_4000 (Nat.le_trans hta (refRight_facts h).1) (Nat.le_trans htb (refRight_facts h2).1)
 refine Ctr.of (args := [.agg #[v], .agg #[u]]) func18 rfl ntmps18 (Nat.le_of_ble_eq_true rfl) ?_
 refine SC.seq (SC.region (SL.W (SO.box rfl) ?_))
 rintro _ _ _ ⟨b2, rfl, rfl, rfl⟩
 refine SL.W (SO.box rfl) ?_
 rintro _ _ _ ⟨b3, rfl, rfl, rfl⟩
 refine SL.W (SO.alloc zeroValue27) ?_
 rintro _ _ _ ⟨b4, rfl, rfl, rfl⟩
 refine SL.nil (ST.thenN (SC.seq (SC.region (SL.K (SQ.loadVarK 2 isAgg27 sizeOf27 rfl rfl rfl) (SL.W (SO.call call60 rfl (refRight_spec E g _ _ a hv ha)) ?_)))))
 rintro _ g1 _ ⟨rfl, rfl, hle1⟩
 refine SL.A rfl (SL.nil (ST.thenN (SC.seq (SC.region (SL.K (SQ.loadVarK 1 isAgg27 sizeOf27 rfl rfl rfl) (SL.W (SO.call call60 rfl (refRight_spec E g1 _ _ b (hu.mono hle1) hb)) ?_))))))
 rintro _ g2 _ ⟨rfl, rfl, hle2⟩
 refine SL.A rfl (SL.nil (ST.thenN (SC.seq (SC.region (SL.K (SQ.loadVarK 2 isAgg27 sizeOf27 rfl rfl rfl) (SL.W (SO.call call61 rfl (refCells_spec E g2 _ _ a (hv.mono (hle1.trans hle2)) ha)) ?_))))))
 rintro v24 g3 _ ⟨rfl, hle3, hA⟩
 refine SL.A rfl (SL.nil (ST.thenN (SC.seq (SC.region (SL.K (SQ.loadVarK 1 isAgg27 sizeOf27 rfl rfl rfl) (SL.W (SO.call call61 rfl (refCells_spec E g3 _ _ b (hu.mono (hle1.trans (hle2.trans hle3))) hb)) ?_))))))
 rintro v26 g4 _ ⟨rfl, hle4, hB⟩
 obtain ⟨ra, hra0, halla0⟩ := hA
 have hra := hra0.mono hle4
 have halla := halla0.mono fun _ _ => CellR.mono hle4
 obtain ⟨rb, hrb, hallb⟩ := hB
 have eal := halla.length
 have ebl := hallb.length
 obtain ⟨pa, ca, rfl⟩ := hra.form
 obtain ⟨pb, cb, rfl⟩ := hrb.form
 refine SL.A rfl (SL.nil (ST.thenN (SC.seq ?_)))
 refine SC.cutB 40 ((refProdBad a b)) ?_ ?_
 ·refine SC.region (SL.M rfl (SL.U (SU.notP rfl) (SL.M rfl ?_)))
  refine SL.split ?_ ?_
  ·intro h29
   refine SL.Z rfl rfl rfl (SL.Z rfl rfl rfl (SL.U (SU.pickT rfl rfl) (SL.M rfl (SL.Z rfl rfl rfl (SL.Z rfl rfl rfl (SL.Z rfl rfl rfl (SL.Z rfl rfl rfl (SL.Z rfl rfl rfl (SL.Z rfl rfl rfl (SL.U (SU.pickT rfl rfl) (SL.nil ?_)))))))))))
   exact ST.mid1 (by (rw [hbadA h29]; rfl)) mI
  ·intro h29
   refine SL.Y rfl rfl rfl (SU.move rfl) (SL.Y rfl rfl rfl (SU.notP rfl) (SL.U (SU.pickF rfl rfl) (SL.M rfl ?_)))
   refine SL.split ?_ ?_
   ·intro h33
    refine SL.Z rfl rfl rfl (SL.Z rfl rfl rfl (SL.Z rfl rfl rfl (SL.Z rfl rfl rfl (SL.Z rfl rfl rfl (SL.Z rfl rfl rfl (SL.U (SU.pickT rfl rfl) (SL.nil ?_)))))))
    exact ST.mid1 (by (rw [hbadB (Decidable.of_not_not h29) h33]; rfl)) mI
   ·intro h33
    refine SL.Y rfl rfl rfl (SU.move rfl) (SL.Y rfl rfl rfl (SU.lenN underlying25 rfl) (SL.Y rfl rfl rfl (SU.move rfl) (SL.Y rfl rfl rfl (SU.lenN underlying25 rfl) (SL.Y rfl rfl rfl (SU.mul rfl rfl (by have := hmul (Decidable.of_not_not h29) (Decidable.of_not_not h33); rw [eal, ebl] at this; omega)) ?_))))
    refine SL.Y rfl rfl rfl (SU.gtr rfl rfl) (SL.U (SU.pickF rfl rfl) (SL.nil ?_))
    exact ST.mid1 (by (rw [hbadC (Decidable.of_not_not h29) (Decidable.of_not_not h33), eal, ebl]; rfl)) mI
 refine SC.ifB rfl (fun hbad => ?_) (fun hbad => ?_)
 ·refine SC.seq (SC.region (SL.U (SU.build rfl (buildE27)) (SL.on (SO.storeAllK 0 sizeOf27 rfl rfl rfl rfl rfl (by exact ⟨rfl, trivial⟩)) ?_)))
  rintro _ _ _ ⟨rfl, rfl⟩
  refine SL.nil (ST.thenN (SC.ret (ST.thenR ?_)))
  exact ST.retCD 0 s (.inl rfl) results18 rfl isAgg27 sizeOf27 rfl rfl (.cons _ (.cons _ (.cons _ (.refl _)))) ⟨rfl, hle1.trans (hle2.trans (hle3.trans hle4)), _, rfl, by unfold refProdC; rw [if_pos hbad]; exact ⟨[], Sl.nil _ _, trivial⟩⟩
 ·have hra0 : (refCheckC a).2 = 0 := Decidable.of_not_not fun h => by rw [hbadA h] at hbad; cases hbad
  have hrb0 : (refCheckC b).2 = 0 := Decidable.of_not_not fun h => by rw [hbadB hra0 h] at hbad; cases hbad
  have hsz : ((tabC a).length : Int) * (tabC b).length ≤ 4000 := by rw [hbadC hra0 hrb0] at hbad; simp at hbad; omega
  obtain ⟨hal, hastr, hat, haf⟩ := refRight_facts hra0
  obtain ⟨hbl, hbstr, hbt, hbf⟩ := refRight_facts hrb0
  rw [← hat] at hastr haf
  rw [← hbt] at hbstr hbf
  have hats := tabC_sorted a
  have hbts := tabC_sorted b
  have hai : ((tabC a).map Cl.id).Pairwise (· < ·) := List.pairwise_map.2 hastr
  have hbi : ((tabC b).map Cl.id).Pairwise (· < ·) := List.pairwise_map.2 hbstr
  have hall4 : tabC a = canonC a → tabC b = canonC b → prodAll a b = (tabC a).flatMap fun x => (tabC b).map (prodCell (tabC a) (tabC b) x) := fun h h2 => by unfold prodAll; rw [← h, ← h2]
  have hprod := hall4 hat hbt
  have hCa : Cells g4 (.slice pa ra.length ca) (tabC a) := ⟨ra, hra, halla⟩
  have hCb : Cells g4 (.slice pb rb.length cb) (tabC b) := ⟨rb, hrb, hallb⟩
  refine SC.skip (ST.thenN (SC.seq (SC.region (SL.M rfl (SL.U (SU.lenN underlying25 rfl) (SL.A rfl (SL.nil (ST.thenN (SC.seq (SC.region (SL.W (SO.alloc zeroValue27) ?_)))))))))))
  rintro _ _ _ ⟨b10, rfl, rfl, rfl⟩
  refine SL.nil (ST.thenN (SC.seq (SC.seq (SC.region (SL.A rfl (SL.nil (ST.thenN (SC.block (SC.nilRow 51 3 ?_)))))))))
  refine SC.loop (ι := PH × Value × List Rc × Nat) (fun i => [(2, pp b2 0), (3, pp b3 0), (4, pp b4 0), (7, .slice pa ra.length ca), (8, .slice pb rb.length cb), (9, vi rb.length), (10, pp b10 0), (11, vi i.2.2.2)]) (fun i => i.1) (fun i => rowA encCell 51 i.2.1 i.2.2.1 :: pt b10 (.cells #[i.2.1] 27 (0, 0)) :: pt b4 (.cells #[.slice none 0 0] 27 (0, 0)) :: pt b3 (.cells #[u] 27 (0, 0)) :: pt b2 (.cells #[v] 27 (0, 0)) :: s)
   (fun i => Le g4 i.1 ∧ i.2.2.2 ≤ ra.length ∧ All2 (CellR i.1) (((tabC a).take i.2.2.2).flatMap fun x => (tabC b).map (prodCell (tabC a) (tabC b) x)) i.2.2.1) (fun i => ra.length - i.2.2.2)
   (g4, .slice none 0 0, [], 0) ⟨rfl, rfl, rfl, rfl, rfl, rfl, rfl, rfl, trivial⟩ rfl rfl ⟨Le.refl g4, Nat.zero_le _, trivial⟩ ?_
  rintro ⟨g5, ov, rcs, i⟩ ⟨hle5, hi, hrcs⟩
  dsimp only at hle5 hi hrcs ⊢
  refine SC.seq (SC.seq (SC.region (SL.M rfl (SL.M rfl (SL.U (SU.lenN underlying25 rfl) (SL.U (SU.lss rfl rfl) (SL.nil (ST.thenN ?_))))))))
  refine SC.ifP rfl (fun hlt => ?_) (fun hlt => ?_)
  ·have hil : i < (tabC a).length := oM
   have hir : i < ra.length := oM
   have hb1 := hra.based oM
   have hxr := halla.get (List.getElem?_eq_getElem hil) (List.getElem?_eq_getElem hir)
   have hgx0 : ra[((i : Nat) : Int).toNat]? = some ra[i] := List.getElem?_eq_getElem hir
   have hxm := List.getElem_mem hil
   have hxi : lbI ((tabC a).map Cl.id) (tabC a)[i].id = i := by
    have := lbI_self (l := (tabC a).map Cl.id) (k := i) (by simpa using hil) hai
    simpa using this
   have hsucc := flatMap_take_succ hil fun x => (tabC b).map (prodCell (tabC a) (tabC b) x)
   generalize hxe : (tabC a)[i] = x at *
   obtain ⟨xp, xcap, hrx, hxs⟩ := cellR_form hxr
   rw [hrx] at hgx0
   have hgx := hgx0
   have hxf := haf x hxm
   have hxd := form_dim hxf
   have hxo := form_ok hxf
   have hxfd := form_found hxf
   refine SC.skip (ST.thenN (SC.seq (SC.block (SC.seq (SC.region (SL.A rfl (SL.nil (ST.thenN (SC.block ?_)))))))))
   refine SC.loop (ι := PH × Value × List Rc × Nat) (fun k => [(2, pp b2 0), (3, pp b3 0), (4, pp b4 0), (7, .slice pa ra.length ca), (8, .slice pb rb.length cb), (9, vi rb.length), (10, pp b10 0), (11, vi i), (12, vi k.2.2.2)]) (fun k => k.1) (fun k => rowA encCell 51 k.2.1 k.2.2.1 :: pt b10 (.cells #[k.2.1] 27 (0, 0)) :: pt b4 (.cells #[.slice none 0 0] 27 (0, 0)) :: pt b3 (.cells #[u] 27 (0, 0)) :: pt b2 (.cells #[v] 27 (0, 0)) :: s)
    (fun k => Le g5 k.1 ∧ k.2.2.2 ≤ rb.length ∧ All2 (CellR k.1) ((((tabC a).take i).flatMap fun x => (tabC b).map (prodCell (tabC a) (tabC b) x)) ++ ((tabC b).take k.2.2.2).map (prodCell (tabC a) (tabC b) x)) k.2.2.1) (fun k => rb.length - k.2.2.2)
    (g5, ov, rcs, 0) ⟨rfl, rfl, rfl, rfl, rfl, rfl, rfl, rfl, rfl, trivial⟩ rfl rfl ⟨Le.refl g5, Nat.zero_le _, by simpa using hrcs⟩ ?_
   rintro ⟨g6, ov2, rcs2, k⟩ ⟨hle6, hk, hrcs2⟩
   dsimp only at hle6 hk hrcs2 ⊢
   refine SC.seq (SC.seq (SC.region (SL.M rfl (SL.M rfl (SL.U (SU.lss rfl rfl) (SL.nil (ST.thenN ?_)))))))
   refine SC.ifP rfl (fun hlt2 => ?_) (fun hlt2 => ?_)
   ·have hkl : k < (tabC b).length := oM
    have hkr : k < rb.length := oM
    have hb2 := hrb.based oM
    have hyr := hallb.get (List.getElem?_eq_getElem hkl) (List.getElem?_eq_getElem hkr)
    have hgy0 : rb[((k : Nat) : Int).toNat]? = some rb[k] := List.getElem?_eq_getElem hkr
    have hym := List.getElem_mem hkl
    have hyi : lbI ((tabC b).map Cl.id) (tabC b)[k].id = k := by
     have := lbI_self (l := (tabC b).map Cl.id) (k := k) (by simpa using hkl) hbi
     simpa using this
    have htk : ((tabC b).take (k + 1)).map (prodCell (tabC a) (tabC b) x) = ((tabC b).take k).map (prodCell (tabC a) (tabC b) x) ++ [prodCell (tabC a) (tabC b) x (tabC b)[k]] := by rw [List.take_succ_eq_append_getElem hkl, List.map_append]; rfl
    generalize hye : (tabC b)[k] = y at *
    obtain ⟨yp, ycap, hry, hys⟩ := cellR_form hyr
    rw [hry] at hgy0
    have hgy := hgy0
    have hyf := hbf y hym
    have hyd := form_dim hyf
    have hyo := form_ok hyf
    have hyfd := form_found hyf
    have hlenr := hrcs2.length
    have hbnd : (i : Int) * rb.length ≤ 4000 := by
     have h1 : (i : Int) * rb.length ≤ (ra.length : Int) * rb.length := Int.mul_le_mul_of_nonneg_right oM oM
     rw [eal, ebl] at hsz
     omega
    have hbnd0 : 0 ≤ (i : Int) * rb.length := Int.mul_nonneg oM oM
    have hrcl : rcs2.length ≤ 4000 := by
     have h1 : rcs2.length = i * rb.length + k := by
      rw [← hlenr, List.length_append, List.length_map, List.length_take, flatMap_len, List.length_take, ← ebl]
      rw [Nat.min_eq_left oM, Nat.min_eq_left oM]
     have h2 : i * rb.length + k ≤ ra.length * rb.length := by
      have h3 : (i + 1) * rb.length ≤ ra.length * rb.length := Nat.mul_le_mul_right _ oM
      rw [Nat.succ_mul] at h3
      omega
     have h4 : ((ra.length * rb.length : Nat) : Int) ≤ 4000 := by rw [eal, ebl] at hsz; rw [Int.natCast_mul]; exact hsz
     omega
    have hid : prodId (tabC a) (tabC b) x.id y.id = (i : Int) * rb.length + k + 1 := by unfold prodId; rw [hxi, hyi, ebl]
    have hra6 := hra.mono (hle5.trans hle6)
    have hrb6 := hrb.mono (hle5.trans hle6)
    have hxs6 := hxs.mono (hle5.trans hle6)
    have hys6 := hys.mono (hle5.trans hle6)
    refine SC.skip (ST.thenN (SC.seq (SC.block (SC.seq ?_))))
    refine SC.draw [] [(0, 2), (1, 2), (2, 2), (3, 2), (4, 2), (5, 2), (6, 2), (7, 2), (8, 2), (9, 2), (10, 1), (11, 2), (12, 2), (13, 2), (14, 2), (15, 1), (16, 2), (17, 2), (18, 0), (19, 0)] Tryz.mixed (by kernel_rfl) ?_
    refine SP.U (i := 0) rfl (SU.move rfl) (SP.U (i := 1) rfl (SU.move rfl) (SP.U (i := 2) rfl (SU.mul rfl rfl oM) (SP.U (i := 3) rfl (SU.move rfl) (SP.U (i := 4) rfl (SU.add rfl rfl oM) (SP.U (i := 5) rfl (SU.add rfl rfl oM) (SP.U (i := 6) rfl (SU.move rfl) (SP.U (i := 7) rfl (SU.move rfl) (SP.U (i := 8) rfl (SU.indexAddr underlying25 sizeOf51 rfl rfl hb1 oM sL) (SP.U (i := 9) rfl (SU.fieldAddrC underlying51 rfl sizeOf3 rfl hb1) (SP.K (i := 10) rfl (SQ.partA (e := encCell) (o := 1) (u := vi x.dim) isAgg3 rfl hra6.rd hgx rfl) (SP.U (i := 11) rfl (SU.move rfl) (SP.U (i := 12) rfl (SU.move rfl) (SP.U (i := 13) rfl (SU.indexAddr underlying25 sizeOf51 rfl rfl hb2 oM sL) (SP.U (i := 14) rfl (SU.fieldAddrC underlying51 rfl sizeOf3 rfl hb2) (SP.K (i := 15) rfl (SQ.partA (e := encCell) (o := 1) (u := vi y.dim) isAgg3 rfl hrb6.rd hgy rfl) (SP.U (i := 16) rfl (SU.add rfl rfl oM) (SP.U (i := 17) rfl (SU.build rfl (buildC51 _ _)) (SP.o (i := 18) rfl (SO.alloc zeroValue51) dC (.inr (by rintro _ _ _ ⟨b13, rfl, rfl, rfl⟩; exact ⟨by exact Le.refl _, (by exact .cons _ (.refl _))⟩)) ?_))))))))))))))))))
    rintro _ _ _ ⟨b13, rfl, rfl, rfl⟩
    refine SP.on (i := 19) rfl (SO.storeAllK 0 sizeOf51 rfl rfl rfl rfl rfl (by exact ⟨rfl, rfl, rfl, trivial⟩)) (.inr (by rintro _ _ _ ⟨rfl, rfl⟩; exact ⟨by exact Le.refl _, (by exact .cons _ (.refl _))⟩)) ?_
    rintro _ _ _ ⟨rfl, rfl⟩
    refine SP.nil (ST.thenN (SC.seq (SC.seq (SC.region (SL.A rfl (SL.nil (ST.thenN (SC.block ?_))))))))
    refine SC.to (fun w hw => ?_) (g' := g6) (s' := pt b13 (.cells #[vi (prodId (tabC a) (tabC b) x.id y.id), vi (x.dim + y.dim), .slice none 0 0] 51 (0, 0)) :: rowA encCell 51 ov2 rcs2 :: pt b10 (.cells #[ov2] 27 (0, 0)) :: pt b4 (.cells #[.slice none 0 0] 27 (0, 0)) :: pt b3 (.cells #[u] 27 (0, 0)) :: pt b2 (.cells #[v] 27 (0, 0)) :: s) ?_
    ·rw [hid]; exact hw
    refine SC.nilRow 55 2 ?_
    refine SC.loop (ι := Value × Nat) (fun j => [(2, pp b2 0), (3, pp b3 0), (4, pp b4 0), (7, .slice pa ra.length ca), (8, .slice pb rb.length cb), (9, vi rb.length), (10, pp b10 0), (11, vi i), (12, vi k), (13, pp b13 0), (14, vi j.2)]) (fun _ => g6)
     (fun j => rowA encSide 55 j.1 ((x.sides.take j.2).map fun q => (⟨prodId (tabC a) (tabC b) q.cell y.id, q.sign⟩ : Side)) :: pt b13 (.cells #[vi (prodId (tabC a) (tabC b) x.id y.id), vi (x.dim + y.dim), j.1] 51 (0, 0)) :: rowA encCell 51 ov2 rcs2 :: pt b10 (.cells #[ov2] 27 (0, 0)) :: pt b4 (.cells #[.slice none 0 0] 27 (0, 0)) :: pt b3 (.cells #[u] 27 (0, 0)) :: pt b2 (.cells #[v] 27 (0, 0)) :: s)
     (fun j => j.2 ≤ x.sides.length) (fun j => x.sides.length - j.2) (.slice none 0 0, 0) ⟨rfl, rfl, rfl, rfl, rfl, rfl, rfl, rfl, rfl, rfl, rfl, trivial⟩ rfl rfl (Nat.zero_le _) ?_
    rintro ⟨sv, j⟩ hj
    dsimp only at hj ⊢
    refine SC.seq (SC.seq (SC.region (SL.M rfl (SL.M rfl (SL.M rfl (SL.U (SU.indexAddr underlying25 sizeOf51 rfl rfl hb1 oM sL) (SL.U (SU.fieldAddrC underlying51 rfl sizeOf49 rfl hb1) (SL.K (SQ.partA (e := encCell) (o := 2) (u := .slice xp x.sides.length xcap) isAgg49 rfl hra6.rd hgx rfl) (SL.U (SU.lenN underlying49 rfl) (SL.U (SU.lss rfl rfl) (SL.nil (ST.thenN ?_))))))))))))
    refine SC.ifP rfl (fun hlt3 => ?_) (fun hlt3 => ?_)
    ·have hjl : j < x.sides.length := oM
     have hb3 := hxs6.based oM
     have hjx : x.sides[((j : Nat) : Int).toNat]? = some x.sides[j] := List.getElem?_eq_getElem hjl
     have htj : (x.sides.take (j + 1)).map (fun q => (⟨prodId (tabC a) (tabC b) q.cell y.id, q.sign⟩ : Side)) = (x.sides.take j).map (fun q => (⟨prodId (tabC a) (tabC b) q.cell y.id, q.sign⟩ : Side)) ++ [⟨prodId (tabC a) (tabC b) x.sides[j].cell y.id, x.sides[j].sign⟩] := by rw [List.take_succ_eq_append_getElem hjl, List.map_append]; rfl
     have hqf := hxfd _ (List.getElem_mem hjl)
     generalize x.sides[j] = z at *
     have hatz := at_found hats hqf
     have hlbz := lbI_le ((tabC a).map Cl.id) z.cell
     rw [List.length_map] at hlbz
     have hidz : prodId (tabC a) (tabC b) z.cell y.id = ((lbI ((tabC a).map Cl.id) z.cell : Nat) : Int) * rb.length + k + 1 := by unfold prodId; rw [hyi, ebl]
     have hbz : ((lbI ((tabC a).map Cl.id) z.cell : Nat) : Int) * rb.length ≤ 4000 := by
      have h1 : ((lbI ((tabC a).map Cl.id) z.cell : Nat) : Int) * rb.length ≤ (ra.length : Int) * rb.length := Int.mul_le_mul_of_nonneg_right oM oM
      rw [eal, ebl] at hsz
      omega
     have hbz0 : 0 ≤ ((lbI ((tabC a).map Cl.id) z.cell : Nat) : Int) * rb.length := Int.mul_nonneg oM oM
     refine SC.skip (ST.thenN (SC.seq (SC.block (SC.seq (SC.region (SL.M rfl (SL.M rfl (SL.U (SU.indexAddr underlying25 sizeOf51 rfl rfl hb1 oM sL) (SL.U (SU.fieldAddrC underlying51 rfl sizeOf49 rfl hb1) (SL.K (SQ.partA (e := encCell) (o := 2) (u := .slice xp x.sides.length xcap) isAgg49 rfl hra6.rd hgx rfl) (SL.M rfl (SL.U (SU.indexAddr underlying49 sizeOf55 rfl rfl hb3 oM sL) (SL.K (SQ.elemA isAgg55 sizeOf55 rfl hxs6.rd hjx) (SL.W (SO.alloc zeroValue55) ?_))))))))))))))
     rintro _ _ _ ⟨b15, rfl, rfl, rfl⟩
     refine SL.on (SO.storeAllK 0 sizeOf55 rfl rfl rfl rfl rfl (by exact ⟨rfl, rfl, trivial⟩)) ?_
     rintro _ _ _ ⟨rfl, rfl⟩
     refine SL.nil (ST.thenN ?_)
     refine SC.to (fun w hw => hw) (g' := g6) (s' := pt b15 (.cells #[vi z.cell, vi z.sign] 55 (0, 0)) :: rowA encSide 55 sv ((x.sides.take j).map fun q => (⟨prodId (tabC a) (tabC b) q.cell y.id, q.sign⟩ : Side)) :: pt b13 (.cells #[vi (prodId (tabC a) (tabC b) x.id y.id), vi (x.dim + y.dim), sv] 51 (0, 0)) :: rowA encCell 51 ov2 rcs2 :: pt b10 (.cells #[ov2] 27 (0, 0)) :: pt b4 (.cells #[.slice none 0 0] 27 (0, 0)) :: pt b3 (.cells #[u] 27 (0, 0)) :: pt b2 (.cells #[v] 27 (0, 0)) :: s) ?_
     refine SC.draw [15, 16, 17] [(0, 2), (1, 1), (2, 2), (3, 2), (4, 1), (6, 2), (8, 2), (11, 2), (12, 1), (5, 0), (7, 2), (9, 2), (10, 2), (13, 2), (14, 0), (15, 0), (16, 0), (17, 0)] Tryz.mixed (by kernel_rfl) ?_
     refine SP.U (i := 0) rfl (SU.fieldAddr underlying51 rfl sizeOf49 rfl) (SP.K (i := 1) rfl (SQ.load (v := sv) isAgg49 rfl (CellAt.own 2 rfl rfl)) (SP.U (i := 2) rfl (SU.move rfl) (SP.U (i := 3) rfl (SU.fieldAddr underlying55 rfl sizeOf3 rfl) (SP.K (i := 4) rfl (SQ.load (v := vi z.cell) isAgg3 rfl (CellAt.own 0 rfl rfl)) (SP.U (i := 6) rfl (SU.move rfl) (SP.U (i := 8) rfl (SU.move rfl) (SP.U (i := 11) rfl (SU.fieldAddr underlying55 rfl sizeOf3 rfl) (SP.K (i := 12) rfl (SQ.load (v := vi z.sign) isAgg3 rfl (CellAt.own 0 rfl rfl)) (SP.o (i := 5) rfl (SO.call call62 rfl (at_spec E g6 _ _ (tabC a) z.cell (hCa.mono (hle5.trans hle6)) oM hats)) dC (.inr (by rintro _ _ _ ⟨rfl, rfl, rfl⟩; exact ⟨by exact Le.refl _, (by exact .refl _)⟩)) ?_)))))))))
     rintro _ _ _ ⟨rfl, rfl, rfl⟩
     rw [hatz]
     refine SP.U (i := 7) rfl (SU.mul rfl rfl oM) (SP.U (i := 9) rfl (SU.add rfl rfl oM) (SP.U (i := 10) rfl (SU.eq (v' := vi (prodId (tabC a) (tabC b) z.cell y.id)) (SU.add rfl rfl oM) (congrArg vi hidz.symm)) (SP.U (i := 13) rfl (SU.build rfl (buildS55 _ _)) (SP.o (i := 14) rfl (SO.buildSlice sty49 rfl rfl rfl (szs_mk (by exact ⟨rfl, trivial⟩)) dC) dC (.inr (by rintro _ _ _ ⟨b105, rfl, rfl, rfl⟩; exact ⟨by exact Le.refl _, (by exact .cons _ (.refl _))⟩)) ?_))))
     rintro _ _ _ ⟨b105, rfl, rfl, rfl⟩
     refine SP.o (i := 15) rfl (SO.app1A (e := encSide) 1 ⟨prodId (tabC a) (tabC b) z.cell y.id, z.sign⟩ sty49 rfl rfl rfl rfl rfl (by simp; omega) (by simp; omega)) dC (.inl dC) ?_
     rintro sv' _ _ ⟨rfl, rfl⟩
     rw [← htj]
     refine SP.facts fun ⟨w0, hw0⟩ => ?_
     obtain ⟨q6, d6, rfl⟩ := rowA_form (i := 1) hw0 rfl
     clear hw0 w0
     refine SP.ou (i := 16) rfl (SU.fieldAddr underlying51 rfl sizeOf49 rfl) dC (.inl dC) (SP.on (i := 17) rfl (SO.store1 2 sizeOf49 rfl rfl rfl rfl (Nat.le_of_ble_eq_true rfl) (by rfl)) (.inl dC) ?_)
     rintro _ _ _ ⟨rfl, rfl⟩
     refine SP.nil (ST.blockN (ST.thenN (SC.region (SL.M rfl (SL.U (SU.add rfl rfl oM) (SL.A rfl (SL.nil (ST.drop (s' := rowA encSide 55 (.slice q6 ((x.sides.take (j + 1)).map fun q => (⟨prodId (tabC a) (tabC b) q.cell y.id, q.sign⟩ : Side)).length d6) ((x.sides.take (j + 1)).map fun q => (⟨prodId (tabC a) (tabC b) q.cell y.id, q.sign⟩ : Side)) :: pt b13 (.cells #[vi (prodId (tabC a) (tabC b) x.id y.id), vi (x.dim + y.dim), .slice q6 ((x.sides.take (j + 1)).map fun q => (⟨prodId (tabC a) (tabC b) q.cell y.id, q.sign⟩ : Side)).length d6] 51 (0, 0)) :: rowA encCell 51 ov2 rcs2 :: pt b10 (.cells #[ov2] 27 (0, 0)) :: pt b4 (.cells #[.slice none 0 0] 27 (0, 0)) :: pt b3 (.cells #[u] 27 (0, 0)) :: pt b2 (.cells #[v] 27 (0, 0)) :: s) (.cons _ (.refl _)) ?_))))))))
     exact ST.again (_, j + 1) ⟨rfl, rfl, rfl, rfl, rfl, rfl, rfl, rfl, rfl, rfl, rfl, trivial⟩ rfl rfl lN lN
    ·have hjj : x.sides.take j = x.sides := List.take_of_length_le oM
     rw [hjj]
     generalize hfl1 : x.sides.map (fun q => (⟨prodId (tabC a) (tabC b) q.cell y.id, q.sign⟩ : Side)) = fl1 at *
     have hfl1l : fl1.length = x.sides.length := by rw [← hfl1, List.length_map]
     refine SC.exit (ST.thenX (ST.thenX (ST.blockX (ST.thenN (SC.seq (SC.seq (SC.region (SL.A rfl (SL.nil (ST.thenN (SC.block ?_)))))))))))
     refine SC.loop (ι := Value × Nat) (fun m => [(2, pp b2 0), (3, pp b3 0), (4, pp b4 0), (7, .slice pa ra.length ca), (8, .slice pb rb.length cb), (9, vi rb.length), (10, pp b10 0), (11, vi i), (12, vi k), (13, pp b13 0), (16, vi m.2)]) (fun _ => g6)
      (fun m => rowA encSide 55 m.1 (fl1 ++ (y.sides.take m.2).map fun q => (⟨prodId (tabC a) (tabC b) x.id q.cell, signC x.dim * q.sign⟩ : Side)) :: pt b13 (.cells #[vi (prodId (tabC a) (tabC b) x.id y.id), vi (x.dim + y.dim), m.1] 51 (0, 0)) :: rowA encCell 51 ov2 rcs2 :: pt b10 (.cells #[ov2] 27 (0, 0)) :: pt b4 (.cells #[.slice none 0 0] 27 (0, 0)) :: pt b3 (.cells #[u] 27 (0, 0)) :: pt b2 (.cells #[v] 27 (0, 0)) :: s)
      (fun m => m.2 ≤ y.sides.length) (fun m => y.sides.length - m.2) (sv, 0) ⟨rfl, rfl, rfl, rfl, rfl, rfl, rfl, rfl, rfl, rfl, rfl, trivial⟩ rfl (by simp) (Nat.zero_le _) ?_
     rintro ⟨sv2, m⟩ hm
     dsimp only at hm ⊢
     refine SC.seq (SC.seq (SC.region (SL.M rfl (SL.M rfl (SL.M rfl (SL.U (SU.indexAddr underlying25 sizeOf51 rfl rfl hb2 oM sL) (SL.U (SU.fieldAddrC underlying51 rfl sizeOf49 rfl hb2) (SL.K (SQ.partA (e := encCell) (o := 2) (u := .slice yp y.sides.length ycap) isAgg49 rfl hrb6.rd hgy rfl) (SL.U (SU.lenN underlying49 rfl) (SL.U (SU.lss rfl rfl) (SL.nil (ST.thenN ?_))))))))))))
     refine SC.ifP rfl (fun hlt4 => ?_) (fun hlt4 => ?_)
     ·have hml : m < y.sides.length := oM
      have hb3 := hys6.based oM
      have hmx : y.sides[((m : Nat) : Int).toNat]? = some y.sides[m] := List.getElem?_eq_getElem hml
      have htm : fl1 ++ (y.sides.take (m + 1)).map (fun q => (⟨prodId (tabC a) (tabC b) x.id q.cell, signC x.dim * q.sign⟩ : Side)) = fl1 ++ (y.sides.take m).map (fun q => (⟨prodId (tabC a) (tabC b) x.id q.cell, signC x.dim * q.sign⟩ : Side)) ++ [⟨prodId (tabC a) (tabC b) x.id y.sides[m].cell, signC x.dim * y.sides[m].sign⟩] := by rw [List.take_succ_eq_append_getElem hml, List.map_append]; simp
      have hqf := hyfd _ (List.getElem_mem hml)
      have hqs := hyo.2 _ (List.getElem_mem hml)
      generalize y.sides[m] = z at *
      have hatz := at_found hbts hqf
      have hlbz := lbI_le ((tabC b).map Cl.id) z.cell
      rw [List.length_map] at hlbz
      have hidz : prodId (tabC a) (tabC b) x.id z.cell = (i : Int) * rb.length + ((lbI ((tabC b).map Cl.id) z.cell : Nat) : Int) + 1 := by unfold prodId; rw [hxi, ebl]
      have hsgn : z.sign * signC x.dim = signC x.dim * z.sign := Int.mul_comm _ _
      have hsgc := signC_cases x.dim
      have htmod : x.dim.tmod 2 = x.dim % 2 := Int.tmod_eq_emod_of_nonneg hxd.1
      have hmulb : -1 ≤ z.sign * signC x.dim ∧ z.sign * signC x.dim ≤ 1 := by rcases hqs with h | h <;> rcases hsgc with h2 | h2 <;> rw [h, h2] <;> decide
      refine SC.skip (ST.thenN (SC.seq (SC.block (SC.seq (SC.region (SL.M rfl (SL.M rfl (SL.U (SU.indexAddr underlying25 sizeOf51 rfl rfl hb2 oM sL) (SL.U (SU.fieldAddrC underlying51 rfl sizeOf49 rfl hb2) (SL.K (SQ.partA (e := encCell) (o := 2) (u := .slice yp y.sides.length ycap) isAgg49 rfl hrb6.rd hgy rfl) (SL.M rfl (SL.U (SU.indexAddr underlying49 sizeOf55 rfl rfl hb3 oM sL) (SL.K (SQ.elemA isAgg55 sizeOf55 rfl hys6.rd hmx) (SL.W (SO.alloc zeroValue55) ?_))))))))))))))
      rintro _ _ _ ⟨b17, rfl, rfl, rfl⟩
      refine SL.on (SO.storeAllK 0 sizeOf55 rfl rfl rfl rfl rfl (by exact ⟨rfl, rfl, trivial⟩)) ?_
      rintro _ _ _ ⟨rfl, rfl⟩
      refine SL.nil (ST.thenN ?_)
      refine SC.to (fun w hw => hw) (g' := g6) (s' := pt b17 (.cells #[vi z.cell, vi z.sign] 55 (0, 0)) :: rowA encSide 55 sv2 (fl1 ++ (y.sides.take m).map fun q => (⟨prodId (tabC a) (tabC b) x.id q.cell, signC x.dim * q.sign⟩ : Side)) :: pt b13 (.cells #[vi (prodId (tabC a) (tabC b) x.id y.id), vi (x.dim + y.dim), sv2] 51 (0, 0)) :: rowA encCell 51 ov2 rcs2 :: pt b10 (.cells #[ov2] 27 (0, 0)) :: pt b4 (.cells #[.slice none 0 0] 27 (0, 0)) :: pt b3 (.cells #[u] 27 (0, 0)) :: pt b2 (.cells #[v] 27 (0, 0)) :: s) ?_
      refine SC.draw [24, 25, 26] [(0, 2), (1, 1), (2, 2), (3, 2), (4, 2), (5, 2), (6, 2), (7, 1), (11, 2), (12, 1), (13, 2), (14, 2), (15, 2), (16, 2), (17, 1), (18, 2), (19, 2), (20, 2), (21, 2), (8, 0), (9, 2), (10, 2), (22, 2), (23, 0), (24, 0), (25, 0), (26, 0)] Tryz.mixed (by kernel_rfl) ?_
      refine SP.U (i := 0) rfl (SU.fieldAddr underlying51 rfl sizeOf49 rfl) (SP.K (i := 1) rfl (SQ.load (v := sv2) isAgg49 rfl (CellAt.own 2 rfl rfl)) (SP.U (i := 2) rfl (SU.move rfl) (SP.U (i := 3) rfl (SU.move rfl) (SP.U (i := 4) rfl (SU.mul rfl rfl oM) (SP.U (i := 5) rfl (SU.move rfl) (SP.U (i := 6) rfl (SU.fieldAddr underlying55 rfl sizeOf3 rfl) (SP.K (i := 7) rfl (SQ.load (v := vi z.cell) isAgg3 rfl (CellAt.own 0 rfl rfl)) (SP.U (i := 11) rfl (SU.fieldAddr underlying55 rfl sizeOf3 rfl) (SP.K (i := 12) rfl (SQ.load (v := vi z.sign) isAgg3 rfl (CellAt.own 0 rfl rfl)) (SP.U (i := 13) rfl (SU.move rfl) (SP.U (i := 14) rfl (SU.move rfl) (SP.U (i := 15) rfl (SU.indexAddr underlying25 sizeOf51 rfl rfl hb1 oM sL) (SP.U (i := 16) rfl (SU.fieldAddrC underlying51 rfl sizeOf3 rfl hb1) (SP.K (i := 17) rfl (SQ.partA (e := encCell) (o := 1) (u := vi x.dim) isAgg3 rfl hra6.rd hgx rfl) (SP.U (i := 18) rfl (SU.eq (v' := vi (x.dim % 2)) (SU.rem rfl rfl dC) (congrArg vi htmod)) (SP.U (i := 19) rfl (SU.mul rfl rfl oM) (SP.U (i := 20) rfl (SU.eq (v' := vi (signC x.dim)) (SU.sub rfl rfl oM) rfl) (SP.U (i := 21) rfl (SU.eq (v' := vi (signC x.dim * z.sign)) (SU.mul rfl rfl oM) (congrArg vi hsgn)) (SP.o (i := 8) rfl (SO.call call62 rfl (at_spec E g6 _ _ (tabC b) z.cell (hCb.mono (hle5.trans hle6)) oM hbts)) dC (.inr (by rintro _ _ _ ⟨rfl, rfl, rfl⟩; exact ⟨by exact Le.refl _, (by exact .refl _)⟩)) ?_)))))))))))))))))))
      rintro _ _ _ ⟨rfl, rfl, rfl⟩
      rw [hatz]
      refine SP.U (i := 9) rfl (SU.add rfl rfl oM) (SP.U (i := 10) rfl (SU.eq (v' := vi (prodId (tabC a) (tabC b) x.id z.cell)) (SU.add rfl rfl oM) (congrArg vi hidz.symm)) (SP.U (i := 22) rfl (SU.build rfl (buildS55 _ _)) (SP.o (i := 23) rfl (SO.buildSlice sty49 rfl rfl rfl (szs_mk (by exact ⟨rfl, trivial⟩)) dC) dC (.inr (by rintro _ _ _ ⟨b149, rfl, rfl, rfl⟩; exact ⟨by exact Le.refl _, (by exact .cons _ (.refl _))⟩)) ?_)))
      rintro _ _ _ ⟨b149, rfl, rfl, rfl⟩
      refine SP.o (i := 24) rfl (SO.app1A (e := encSide) 1 ⟨prodId (tabC a) (tabC b) x.id z.cell, signC x.dim * z.sign⟩ sty49 rfl rfl rfl rfl rfl (by simp; omega) (by simp; omega)) dC (.inl dC) ?_
      rintro sv3 _ _ ⟨rfl, rfl⟩
      rw [← htm]
      refine SP.facts fun ⟨w0, hw0⟩ => ?_
      obtain ⟨q7, d7, rfl⟩ := rowA_form (i := 1) hw0 rfl
      clear hw0 w0
      refine SP.ou (i := 25) rfl (SU.fieldAddr underlying51 rfl sizeOf49 rfl) dC (.inl dC) (SP.on (i := 26) rfl (SO.store1 2 sizeOf49 rfl rfl rfl rfl (Nat.le_of_ble_eq_true rfl) (by rfl)) (.inl dC) ?_)
      rintro _ _ _ ⟨rfl, rfl⟩
      refine SP.nil (ST.blockN (ST.thenN (SC.region (SL.M rfl (SL.U (SU.add rfl rfl oM) (SL.A rfl (SL.nil (ST.drop (s' := rowA encSide 55 (.slice q7 (fl1 ++ (y.sides.take (m + 1)).map fun q => (⟨prodId (tabC a) (tabC b) x.id q.cell, signC x.dim * q.sign⟩ : Side)).length d7) (fl1 ++ (y.sides.take (m + 1)).map fun q => (⟨prodId (tabC a) (tabC b) x.id q.cell, signC x.dim * q.sign⟩ : Side)) :: pt b13 (.cells #[vi (prodId (tabC a) (tabC b) x.id y.id), vi (x.dim + y.dim), .slice q7 (fl1 ++ (y.sides.take (m + 1)).map fun q => (⟨prodId (tabC a) (tabC b) x.id q.cell, signC x.dim * q.sign⟩ : Side)).length d7] 51 (0, 0)) :: rowA encCell 51 ov2 rcs2 :: pt b10 (.cells #[ov2] 27 (0, 0)) :: pt b4 (.cells #[.slice none 0 0] 27 (0, 0)) :: pt b3 (.cells #[u] 27 (0, 0)) :: pt b2 (.cells #[v] 27 (0, 0)) :: s) (.cons _ (.refl _)) ?_))))))))
      exact ST.again (_, m + 1) ⟨rfl, rfl, rfl, rfl, rfl, rfl, rfl, rfl, rfl, rfl, rfl, trivial⟩ rfl rfl lN lN
     ·have hmm : y.sides.take m = y.sides := List.take_of_length_le oM
      rw [hmm]
      have hpc : prodCell (tabC a) (tabC b) x y = ⟨prodId (tabC a) (tabC b) x.id y.id, x.dim + y.dim, fl1 ++ y.sides.map fun q => (⟨prodId (tabC a) (tabC b) x.id q.cell, signC x.dim * q.sign⟩ : Side)⟩ := by unfold prodCell; rw [hfl1]
      generalize hfl2 : (fl1 ++ y.sides.map fun q => (⟨prodId (tabC a) (tabC b) x.id q.cell, signC x.dim * q.sign⟩ : Side)) = fl2 at *
      refine SC.exit (ST.thenX (ST.thenX (ST.blockX (ST.thenN (SC.region (SL.freezeRow fun g7 hle7 hs7 => ?_))))))
      have hsd : SlA encSide g7 sv2 fl2 := hs7
      obtain ⟨q8, d8, rfl⟩ := SlA.form hsd
      obtain ⟨nc, hnc⟩ : ∃ nc : Rc, nc = ⟨prodId (tabC a) (tabC b) x.id y.id, x.dim + y.dim, ⟨q8, fl2.length, d8⟩⟩ := ⟨_, rfl⟩
      refine SL.U (SU.fieldAddr underlying27 rfl sizeOf25 rfl) (SL.K (SQ.load isAgg25 rfl (CellAt.own 2 rfl rfl)) (SL.K (SQ.loadVarK 0 isAgg51 sizeOf51 rfl rfl rfl) (SL.W (SO.buildSlice sty25 rfl rfl rfl (szs_mk (by exact ⟨rfl, trivial⟩)) dC) ?_)))
      rintro _ _ _ ⟨b155, rfl, rfl, rfl⟩
      refine SL.W (SO.app1A (e := encCell) 1 nc sty25 rfl rfl rfl rfl (by rw [hnc]; rfl) oM oM) ?_
      rintro v156 _ _ ⟨rfl, rfl⟩
      refine SL.facts fun ⟨w0, hw0⟩ => ?_
      obtain ⟨q9, d9, rfl⟩ := rowA_form (i := 1) hw0 rfl
      clear hw0 w0
      refine SL.U (SU.fieldAddr underlying27 rfl sizeOf25 rfl) (SL.on (SO.storeAllK 2 sizeOf25 rfl rfl rfl rfl rfl (by exact ⟨rfl, trivial⟩)) ?_)
      rintro _ _ _ ⟨rfl, rfl⟩
      refine SL.nil (ST.blockN (ST.thenN (SC.region (SL.M rfl (SL.U (SU.add rfl rfl oM) (SL.A rfl (SL.nil (ST.drop (s' := rowA encCell 51 (.slice q9 (rcs2 ++ [nc]).length d9) (rcs2 ++ [nc]) :: pt b10 (.cells #[(.slice q9 (rcs2 ++ [nc]).length d9)] 27 (0, 0)) :: pt b4 (.cells #[.slice none 0 0] 27 (0, 0)) :: pt b3 (.cells #[u] 27 (0, 0)) :: pt b2 (.cells #[v] 27 (0, 0)) :: s) (.cons _ (.refl _)) ?_))))))))
      refine ST.again (g7, _, rcs2 ++ [nc], k + 1) ⟨rfl, rfl, rfl, rfl, rfl, rfl, rfl, rfl, rfl, trivial⟩ rfl rfl ⟨hle6.trans hle7, lN, ?_⟩ lN
      dsimp only
      rw [htk, ← List.append_assoc]
      exact (hrcs2.mono fun _ _ => CellR.mono hle7).append ⟨(by rw [hpc, hnc]; exact ⟨rfl, rfl, hsd⟩), trivial⟩
   ·have hkk : (tabC b).take k = tabC b := List.take_of_length_le oM
    rw [hkk] at hrcs2
    refine SC.exit (ST.thenX (ST.thenX (ST.blockX (ST.blockN (ST.thenN (SC.region (SL.M rfl (SL.U (SU.add rfl rfl oM) (SL.A rfl (SL.nil ?_))))))))))
    exact ST.again (g6, ov2, rcs2, i + 1) ⟨rfl, rfl, rfl, rfl, rfl, rfl, rfl, rfl, trivial⟩ rfl rfl ⟨hle5.trans hle6, lN, by dsimp only; rw [hsucc]; exact hrcs2⟩ lN
  ·have hii : (tabC a).take i = tabC a := List.take_of_length_le oM
   rw [hii, ← hprod] at hrcs
   have hpl : (prodAll a b).length ≤ 4000 := by
    rw [hprod, flatMap_len]
    have h4 : (((tabC a).length * (tabC b).length : Nat) : Int) ≤ 4000 := by rw [Int.natCast_mul]; exact hsz
    omega
   have hfit : Fits (prodAll a b) := by
    refine ⟨oM, fun c hc => ?_⟩
    rw [hprod] at hc
    obtain ⟨x, hx, hc⟩ := List.mem_flatMap.1 hc
    obtain ⟨y, hy, rfl⟩ := List.mem_map.1 hc
    have h1 := (form_ok (haf x hx)).1
    have h2 := (form_ok (hbf y hy)).1
    simp [prodCell]
    omega
   refine SC.exit (ST.thenX (ST.thenX (ST.blockX (ST.thenN (SC.seq (SC.freezeRow fun g6 hle6 hs6 => ?_))))))
   have hov : Cells g6 ov (prodAll a b) := ⟨rcs, hs6, hrcs.mono fun _ _ => CellR.mono hle6⟩
   refine SC.region (SL.K (SQ.loadVarK 0 isAgg27 sizeOf27 rfl rfl rfl) (SL.W (SO.call call60 rfl (refRight_spec E g6 _ _ (prodAll a b) hov hfit)) ?_))
   rintro _ g7 _ ⟨rfl, rfl, hle7⟩
   refine SL.A rfl (SL.nil (ST.thenN (SC.seq (SC.seq (SC.region (SL.M rfl (SL.U (SU.notP rfl) (SL.nil (ST.thenN ?_)))))))))
   refine SC.ifP rfl (fun hr => ?_) (fun hr => ?_)
   ·refine SC.seq (SC.region (SL.U (SU.build rfl (buildE27)) (SL.on (SO.storeAllK 1 sizeOf27 rfl rfl rfl rfl rfl (by exact ⟨rfl, trivial⟩)) ?_)))
    rintro _ _ _ ⟨rfl, rfl⟩
    refine SL.nil (ST.thenN (SC.ret (ST.thenR ?_)))
    exact ST.retCD 1 s (.inl rfl) results18 rfl isAgg27 sizeOf27 rfl rfl (.cons _ (.cons _ (.cons _ (.cons _ (.refl _))))) ⟨rfl, hle1.trans (hle2.trans (hle3.trans (hle4.trans (hle5.trans (hle6.trans hle7))))), _, rfl, by unfold refProdC; rw [if_neg (by rw [hbad]; simp), if_neg hr]; exact ⟨[], Sl.nil _ _, trivial⟩⟩
   ·refine SC.skip (ST.thenN (SC.seq (SC.region (SL.K (SQ.loadVarK 0 isAgg27 sizeOf27 rfl rfl rfl) (SL.W (SO.call call63 rfl (refCanon_spec E g7 _ _ (prodAll a b) (hov.mono hle7) hfit)) ?_)))))
    rintro _ g8 _ ⟨rfl, hle8, x8, rfl, hx8⟩
    obtain ⟨q8, d8, rfl⟩ := hx8.form
    refine SL.on (SO.storeAllK 1 sizeOf27 rfl rfl rfl rfl rfl (by exact ⟨rfl, trivial⟩)) ?_
    rintro _ _ _ ⟨rfl, rfl⟩
    refine SL.nil (ST.thenN (SC.ret ?_))
    exact ST.retCD 1 s (.inl rfl) results18 rfl isAgg27 sizeOf27 rfl rfl (.cons _ (.cons _ (.cons _ (.cons _ (.refl _))))) ⟨rfl, hle1.trans (hle2.trans (hle3.trans (hle4.trans (hle5.trans (hle6.trans (hle7.trans hle8)))))), _, rfl, by unfold refProdC; rw [if_neg (by rw [hbad]; simp), if_pos (Decidable.of_not_not hr)]; exact hx8⟩
end Go.Proofs.YtkdibcicncjpdaaGreat
namespace Go.Sy
open Go
section
variable {P : Program} {N : Nat} {E : World} {ops : Array Oper} {Q : Exit → Act → World → Prop} {g0 : PH} {s0 : Own} {tail : List Nat} {f : Fr} {g g' : PH} {s s' : Own} {L : Array Bool} {n : Nat}
theorem SX.to (h : ∀ w, At E g s w → At E g' s' w) (hc : SX P N E ops Q g0 s0 tail L n f g' s') : SX P N E ops Q g0 s0 tail L n f g s := fun a w h1 hcl ha hw hb => hc a w h1 hcl ha (h w hw) hb
theorem SX.facts (h : (∃ w, At E g s w) → SX P N E ops Q g0 s0 tail L n f g s) : SX P N E ops Q g0 s0 tail L n f g s := fun a w h1 hcl ha hw hb => h ⟨w, hw⟩ a w h1 hcl ha hw hb
theorem SX.freezeRow {T : TypeId} {k m : Nat} {v : Value} {xs : List Value} (h : ∀ g', Le g g' → Sl g' k v m xs → SX P N E ops Q g0 s0 tail L n f g' s) : SX P N E ops Q g0 s0 tail L n f g (row T k v m xs :: s) := fun a w h1 hcl ha hw hb => by
 obtain ⟨g', h3, h4, h5⟩ := hw.freezeRow
 exact h g' h3 h5 a w h1 hcl ha h4 hb
end
end Go.Sy
namespace Go.Proofs.YtkdibcicncjpdaaGreat
open _root_.Go.Proofs.Tryz _root_.Go.Proofs.YtkdibcicncjpdaaGreat.Tryz
open Go Go.Sy Go.Pl Go.Proofs
set_option maxRecDepth 100000
def setsC (ls : List (List Int)) : List (List Int) := (ls.take 5).map fun l => (l.take 4).map fun x => modW x 7
theorem map_take_succ {α β : Type} {l : List α} {i : Nat} (h : i < l.length) (f : α → β) : (l.take (i + 1)).map f = (l.take i).map f ++ [f l[i]] := by
 rw [List.take_succ_eq_append_getElem h, List.map_append]; rfl
theorem sets_spec (E : World) (g : PH) (s : Own) (v : Value) (ls : List (List Int)) (hv : Lists g v ls) :
  Ctr Tryz.prog E 10 #[v] g s (fun r g' s' => ∃ rs, s' = rowA encSv 45 r rs :: s ∧ Le g g' ∧ All2 (ListR g') (setsC ls) rs) := by
 obtain ⟨rs0, hrs0, hall0⟩ := hv
 have hlen0 := hall0.length
 obtain ⟨p, c, rfl⟩ := SlA.form hrs0
 refine Ctr.of (args := [.slice p rs0.length c]) func10 rfl ntmps10 (Nat.le_of_ble_eq_true rfl) ?_
 refine SC.seq (SC.region (SL.A rfl (SL.nil (ST.thenN (SC.seq (SC.region (SL.A rfl (SL.nil (ST.thenN (SC.seq (SC.seq (SC.region (SL.A rfl (SL.nil (ST.thenN (SC.block (SC.nilRow 45 1 ?_)))))))))))))))))
 refine SC.loop (ι := PH × Value × List Sv × Nat) (fun i => [(0, .slice p rs0.length c), (2, .slice none 0 0), (3, i.2.1), (4, vi i.2.2.2)]) (fun i => i.1)
  (fun i => rowA encSv 45 i.2.1 i.2.2.1 :: s)
  (fun i => Le g i.1 ∧ i.2.2.2 ≤ rs0.length ∧ i.2.2.2 ≤ 5 ∧ All2 (ListR i.1) ((ls.take i.2.2.2).map fun l => (l.take 4).map fun x => modW x 7) i.2.2.1) (fun i => rs0.length - i.2.2.2)
  (g, .slice none 0 0, [], 0) ⟨rfl, rfl, rfl, rfl, trivial⟩ rfl rfl ⟨Le.refl g, Nat.zero_le _, Nat.zero_le _, trivial⟩ ?_
 rintro ⟨g1, ov, rs, i⟩ ⟨hle, hi, hi5, hrs⟩
 dsimp only at hle hi hi5 hrs ⊢
 have hrl := hrs.length
 rw [List.length_map, List.length_take] at hrl
 have f1 : (i : Int) < (rs0.length : Int) → (decide ((i : Int) < (rs0.length : Int)) && decide ((i : Int) < 5)) = decide ((i : Int) < 5) := fun h => by simp [h]
 have f2 : ¬ (i : Int) < (rs0.length : Int) → (decide ((i : Int) < (rs0.length : Int)) && decide ((i : Int) < 5)) = false := fun h => by simp only [h, decide_false, Bool.false_and]
 refine SC.seq ?_
 refine SC.cutB 14 ((decide ((i : Int) < (rs0.length : Int)) && decide ((i : Int) < 5))) ?_ ?_
 ·refine SC.region (SL.M rfl (SL.M rfl (SL.U (SU.lenN underlying22 rfl) (SL.U (SU.lss rfl rfl) (SL.M rfl ?_)))))
  refine SL.split ?_ ?_
  ·intro h11
   refine SL.Y rfl rfl rfl (SU.move rfl) (SL.Y rfl rfl rfl (SU.lss rfl rfl) (SL.U (SU.pickT rfl rfl) (SL.nil ?_)))
   exact ST.mid1 (by (rw [f1 h11]; rfl)) mI
  ·intro h11
   refine SL.Z rfl rfl rfl (SL.Z rfl rfl rfl (SL.U (SU.pickF rfl rfl) (SL.nil ?_)))
   exact ST.mid1 (by (rw [f2 h11]; rfl)) mI
 refine SC.ifB rfl (fun hc => ?_) (fun hc => ?_)
 ·rw [Bool.and_eq_true, decide_eq_true_iff, decide_eq_true_iff] at hc
  have hil : i < ls.length := oM
  have hir : i < rs0.length := oM
  have hb1 := hrs0.based oM
  have hR := (hall0.get (List.getElem?_eq_getElem hil) (List.getElem?_eq_getElem hir)).mono hle
  have hRl := hR.len
  have hsucc := map_take_succ hil fun l => (l.take 4).map fun x => modW x 7
  generalize hx : ls[i] = x at *
  generalize hr : rs0[i] = r at *
  obtain ⟨rp, rn, rc⟩ := r
  dsimp only at hRl
  subst hRl
  have hxs : Ints g1 (.slice rp x.length rc) x := hR
  have hgr : rs0[((i : Nat) : Int).toNat]? = some ⟨rp, x.length, rc⟩ := by rw [← hr]; exact List.getElem?_eq_getElem hir
  refine SC.skip (ST.thenN (SC.seq (SC.block (SC.seq (SC.region (SL.A rfl (SL.nil (ST.thenN (SC.seq (SC.seq (SC.region (SL.A rfl (SL.nil (ST.thenN (SC.block (SC.nilRow 3 1 ?_))))))))))))))))
  refine SC.loop (ι := Value × Nat) (fun k => [(0, .slice p rs0.length c), (2, .slice none 0 0), (3, ov), (4, vi i), (5, k.1), (6, vi k.2)]) (fun _ => g1)
   (fun k => rowA encInt 3 k.1 ((x.take k.2).map fun x => modW x 7) :: rowA encSv 45 ov rs :: s)
   (fun k => k.2 ≤ x.length ∧ k.2 ≤ 4) (fun k => x.length - k.2) (.slice none 0 0, 0) ⟨rfl, rfl, rfl, rfl, rfl, rfl, trivial⟩ rfl rfl ⟨Nat.zero_le _, Nat.zero_le _⟩ ?_
  rintro ⟨iv, k⟩ ⟨hk, hk4⟩
  dsimp only at hk hk4 ⊢
  have f3 : (k : Int) < (x.length : Int) → (decide ((k : Int) < (x.length : Int)) && decide ((k : Int) < 4)) = decide ((k : Int) < 4) := fun h => by simp [h]
  have f4 : ¬ (k : Int) < (x.length : Int) → (decide ((k : Int) < (x.length : Int)) && decide ((k : Int) < 4)) = false := fun h => by simp only [h, decide_false, Bool.false_and]
  refine SC.seq ?_
  refine SC.cutB 27 ((decide ((k : Int) < (x.length : Int)) && decide ((k : Int) < 4))) ?_ ?_
  ·refine SC.region (SL.M rfl (SL.M rfl (SL.M rfl (SL.U (SU.indexAddr underlying22 sizeOf45 rfl rfl hb1 oM sL) (SL.K (SQ.elem1 (u := .slice rp x.length rc) isAgg45 rfl (hrs0.mono hle).rd hgr rfl) (SL.U (SU.lenN underlying45 rfl) (SL.U (SU.lss rfl rfl) (SL.M rfl ?_))))))))
   refine SL.split ?_ ?_
   ·intro h24
    refine SL.Y rfl rfl rfl (SU.move rfl) (SL.Y rfl rfl rfl (SU.lss rfl rfl) (SL.U (SU.pickT rfl rfl) (SL.nil ?_)))
    exact ST.mid1 (by (rw [f3 h24]; rfl)) mI
   ·intro h24
    refine SL.Z rfl rfl rfl (SL.Z rfl rfl rfl (SL.U (SU.pickF rfl rfl) (SL.nil ?_)))
    exact ST.mid1 (by (rw [f4 h24]; rfl)) mI
  refine SC.ifB rfl (fun hc2 => ?_) (fun hc2 => ?_)
  ·rw [Bool.and_eq_true, decide_eq_true_iff, decide_eq_true_iff] at hc2
   have hkl : k < x.length := oM
   have hb2 := SlA.based hxs oM
   have hks := map_take_succ hkl fun x => modW x 7
   have hgk : x[((k : Nat) : Int).toNat]? = some x[k] := List.getElem?_eq_getElem hkl
   generalize x[k] = y at *
   refine SC.skip (ST.thenN (SC.seq (SC.block (SC.region (SL.M rfl (SL.M rfl (SL.M rfl (SL.U (SU.indexAddr underlying22 sizeOf45 rfl rfl hb1 oM sL) (SL.K (SQ.elem1 (u := .slice rp x.length rc) isAgg45 rfl (hrs0.mono hle).rd hgr rfl) (SL.M rfl (SL.U (SU.indexAddr underlying45 sizeOf3 rfl rfl hb2 oM sL) (SL.K (SQ.elem1 isAgg3 rfl (SlA.rd hxs) hgk rfl) (SL.W (SO.call call38 rfl (mod_spec E g1 _ y 7 dC)) ?_)))))))))))))
   rintro _ _ _ ⟨rfl, rfl, rfl⟩
   refine SL.W (SO.buildSlice sty45 rfl rfl rfl (szs_mk (by exact ⟨rfl, trivial⟩)) dC) ?_
   rintro _ _ _ ⟨b39, rfl, rfl, rfl⟩
   refine SL.W (SO.app1A (e := encInt) 0 (modW y 7) sty45 rfl rfl rfl rfl rfl (by rw [List.length_map, List.length_take]; omega) (by rw [List.length_map, List.length_take]; omega)) ?_
   rintro iv' _ _ ⟨rfl, rfl⟩
   refine SL.A rfl (SL.nil (ST.blockN (ST.thenN (SC.region (SL.M rfl (SL.U (SU.add rfl rfl oM) (SL.A rfl (SL.nil ?_))))))))
   refine ST.to (fun w hw => ?_) (g' := g1) (s' := rowA encInt 3 iv' ((x.take (k + 1)).map fun x => modW x 7) :: rowA encSv 45 ov rs :: s) ?_
   ·rw [hks]; exact hw
   exact ST.again (iv', k + 1) ⟨rfl, rfl, rfl, rfl, rfl, rfl, trivial⟩ rfl rfl ⟨lN, lN⟩ lN
  ·have hxk : x.take k = x.take 4 := by
    rw [Bool.and_eq_false_iff, decide_eq_false_iff_not, decide_eq_false_iff_not] at hc2
    by_cases h4 : k = 4
    ·rw [h4]
    ·rw [List.take_of_length_le oM, List.take_of_length_le oM]
   rw [hxk]
   refine SC.exit (ST.thenX (ST.thenX (ST.blockX (ST.thenN (SC.freezeRow fun g2 hle2 hs2 => ?_)))))
   have hiv : Ints g2 iv ((x.take 4).map fun x => modW x 7) := hs2
   obtain ⟨q2, d2, rfl⟩ := SlA.form hiv
   obtain ⟨nl, hnl⟩ : ∃ nl, nl = ((x.take 4).map fun x => modW x 7).length := ⟨_, rfl⟩
   refine SC.region (SL.M rfl (SL.M rfl (SL.W (SO.buildSlice sty22 rfl rfl rfl (szs_mk (by exact ⟨rfl, trivial⟩)) dC) ?_)))
   rintro _ _ _ ⟨b43, rfl, rfl, rfl⟩
   refine SL.W (SO.app1A (e := encSv) 0 ⟨q2, ((x.take 4).map fun x => modW x 7).length, d2⟩ sty22 rfl rfl rfl rfl rfl oM oM) ?_
   rintro ov' _ _ ⟨rfl, rfl⟩
   refine SL.A rfl (SL.nil (ST.blockN (ST.thenN (SC.region (SL.M rfl (SL.U (SU.add rfl rfl oM) (SL.A rfl (SL.nil ?_))))))))
   refine ST.again (g2, ov', rs ++ [⟨q2, ((x.take 4).map fun x => modW x 7).length, d2⟩], i + 1) ⟨rfl, rfl, rfl, rfl, trivial⟩ rfl rfl ⟨hle.trans hle2, lN, lN, ?_⟩ lN
   dsimp only
   rw [hsucc]
   exact (hrs.mono fun _ _ => ListR.mono hle2).append ⟨hiv, trivial⟩
 ·have hls : ls.take i = ls.take 5 := by
   rw [Bool.and_eq_false_iff, decide_eq_false_iff_not, decide_eq_false_iff_not] at hc
   by_cases h5 : i = 5
   ·rw [h5]
   ·rw [List.take_of_length_le oM, List.take_of_length_le oM]
  rw [hls] at hrs
  refine SC.exit (ST.thenX (ST.thenX (ST.blockX (ST.thenN (SC.seq (SC.region (SL.M rfl (SL.A rfl (SL.nil (ST.thenN (SC.ret ?_)))))))))))
  exact ST.ret1 (.inl rfl) results10 rfl ⟨rs, rfl, hle, hrs⟩
theorem simpAll_facts : ∀ (all ls : List (List Int)), all.length ≤ 4000 → (∀ x ∈ all, x.length ≤ 9) → ∀ r, simpAll all ls = some r → r.length ≤ 4000 ∧ ∀ x ∈ r, x.length ≤ 9
 | all, [], h1, h2, r, h => by cases h; exact ⟨h1, h2⟩
 | all, t :: ls, h1, h2, r, h => by
  unfold simpAll at h
  split at h
  ·exact simpAll_facts all ls h1 h2 r h
  ·rename_i hb
   split at h
   ·cases h
   ·rename_i hl
    refine simpAll_facts _ ls oM (fun x hx => ?_) r h
    rcases addSets_mem hx with hx | hx
    ·exact h2 x hx
    ·refine subsetsC_short ?_ x hx
     cases hT : setC t with
     | nil => simp
     | cons a r =>
      rw [hT] at hb
      simp only [badSet, Bool.or_eq_true, decide_eq_true_iff, not_or] at hb
      omega
theorem simpC_fits (ls : List (List Int)) : Fits (simpC ls) ∧ (simpC ls).length ≤ 4000 := by
 unfold simpC
 cases h : simpAll [] ls with
 | none => exact ⟨⟨by simp, by simp⟩, by simp⟩
 | some all =>
  obtain ⟨h1, h2⟩ := simpAll_facts [] ls (by simp) (by simp) all h
  have h3 : (canonC (simpCells all)).length ≤ 4000 := by rw [canonC_length, simpCells_length]; exact h1
  exact ⟨canonC_fits (simpCells_fits h1 h2), h3⟩
theorem refProdC_fits (a b : List Cl) : Fits (refProdC a b) ∧ (refProdC a b).length ≤ 4000 := by
 unfold refProdC
 split
 ·exact ⟨⟨by simp, by simp⟩, by simp⟩
 ·rename_i hbad
  split
  ·have ha : (refCheckC a).2 = 0 := Decidable.of_not_not fun h => hbad (by simp [refProdBad, h])
   have hb : (refCheckC b).2 = 0 := Decidable.of_not_not fun h => hbad (by simp [refProdBad, h])
   have hsz : ((tabC a).length : Int) * (tabC b).length ≤ 4000 := by
    refine Decidable.of_not_not fun h => hbad ?_
    have : ((tabC a).length : Int) * (tabC b).length > 4000 := oM
    simp [refProdBad, this]
   obtain ⟨_, _, hat, haf⟩ := refRight_facts ha
   obtain ⟨_, _, hbt, hbf⟩ := refRight_facts hb
   rw [← hat] at haf
   rw [← hbt] at hbf
   have hprod : prodAll a b = (tabC a).flatMap fun x => (tabC b).map (prodCell (tabC a) (tabC b) x) := by unfold prodAll; rw [← hat, ← hbt]
   have hpl : (prodAll a b).length ≤ 4000 := by
    rw [hprod, flatMap_len]
    have h4 : (((tabC a).length * (tabC b).length : Nat) : Int) ≤ 4000 := by rw [Int.natCast_mul]; exact hsz
    omega
   have hfit : Fits (prodAll a b) := by
    refine ⟨oM, fun c hc => ?_⟩
    rw [hprod] at hc
    obtain ⟨x, hx, hc⟩ := List.mem_flatMap.1 hc
    obtain ⟨y, hy, rfl⟩ := List.mem_map.1 hc
    have h1 := (form_ok (haf x hx)).1
    have h2 := (form_ok (hbf y hy)).1
    simp [prodCell]
    omega
   exact ⟨canonC_fits hfit, by rw [canonC_length]; exact hpl⟩
  ·exact ⟨⟨by simp, by simp⟩, by simp⟩
set_option maxHeartbeats 1000000
theorem Tryz.buildD51 (x : Int) (w : World) : (Instr.build 51 #[(0, vi x)]).run Tryz.prog w = .ok (.agg #[vi x, vi 0, .slice none 0 0]) w := by
 have hz : (Value.agg #[vi 0, vi 0, Value.slice none 0 0]).cells = #[vi 0, vi 0, .slice none 0 0] := rfl
 have h1 : ∀ z : Int, (vi z).cells = #[vi z] := fun _ => rfl
 simp [Instr.build, Instr.fill, hz, h1]
theorem modW_range (a b : Int) (h0 : 0 < b) (h1 : b ≤ 1000) : 0 ≤ modW a b ∧ modW a b < b := by
 have h2 : a.tmod b < b := Int.tmod_lt_of_pos a h0
 have h3 : -b < a.tmod b := by
  have := Int.lt_tmod_of_pos a h0
  omega
 unfold modW
 rw [IntWalk.i64_in _ oM, Int.tmod_eq_emod_of_nonneg oM]
 exact ⟨Int.emod_nonneg _ oM, Int.emod_lt_of_pos _ h0⟩
theorem modW_rangeL (a b : Int) (h0 : 0 < b) (h1 : b ≤ 1099511627776) : 0 ≤ modW a b ∧ modW a b < b := by
 have h2 : a.tmod b < b := Int.tmod_lt_of_pos a h0
 have h3 : -b < a.tmod b := by
  have := Int.lt_tmod_of_pos a h0
  omega
 unfold modW
 rw [IntWalk.i64_in _ oM, Int.tmod_eq_emod_of_nonneg oM]
 exact ⟨Int.emod_nonneg _ oM, Int.emod_lt_of_pos _ h0⟩
theorem modW_nat (a : Int) (n : Nat) (h0 : 0 < n) (h1 : n ≤ 1099511627776) : modW a n = (((modW a n).toNat : Nat) : Int) ∧ (modW a n).toNat < n := by
 have := modW_rangeL a n oM oM
 omega
theorem ownS_split : ∀ {A : List Cl} {RA : List Rc} (x : Cl) (rx : Rc) (B : List Cl) (RB : List Rc), A.length = RA.length → ownS (A ++ x :: B) (RA ++ rx :: RB) = ownS A RA ++ ownC x rx :: ownS B RB
 | [], [], _, _, _, _, _ => rfl
 | a :: A, r :: RA, x, rx, B, RB, h => by simp only [List.cons_append, ownS]; rw [ownS_split x rx B RB (by simpa using h)]
 | [], _ :: _, _, _, _, _, h => by simp at h
 | _ :: _, [], _, _, _, _, h => by simp at h
theorem freezeBut {E : World} {s : Own} {w : World} {g : PH} {R : Ent} {A B : List Cl} {RA RB : List Rc} {x : Cl} {rx : Rc} (h1 : All2 CellO A RA) (h2 : All2 CellO B RB) (h : At E g (R :: (ownS (A ++ x :: B) (RA ++ rx :: RB) ++ s)) w) :
  ∃ g', Le g g' ∧ At E g' (R :: ownC x rx :: s) w ∧ All2 (CellR g') A RA ∧ All2 (CellR g') B RB := by
 rw [ownS_split x rx B RB h1.length] at h
 have hp : (R :: (ownS A RA ++ ownC x rx :: ownS B RB ++ s)).Perm (ownS A RA ++ (ownS B RB ++ (R :: ownC x rx :: s))) := by
  rw [List.append_assoc]
  refine List.perm_middle.symm.trans (List.Perm.append_left _ ?_)
  refine (List.Perm.cons R (List.perm_middle (l₁ := ownS B RB)).symm).trans ?_
  exact List.perm_middle.symm
 obtain ⟨g1, hl1, ha1, hs1⟩ := freezeO h1 (h.perm hp)
 obtain ⟨g2, hl2, ha2, hs2⟩ := freezeO h2 ha1
 exact ⟨g2, hl1.trans hl2, ha2, hs1.mono fun _ _ => CellR.mono hl2, hs2⟩
theorem SC.freezeBut {P : Program} {N : Nat} {E : World} {Q : Exit → Act → World → Prop} {f : Fr} {g : PH} {s : Own} {o : Code} {R S : Ent} {A B : List Cl} {RA RB : List Rc} {x : Cl} {rx : Rc} (h1 : All2 CellO A RA) (h2 : All2 CellO B RB)
  (h : ∀ g', Le g g' → All2 (CellR g') A RA → All2 (CellR g') B RB → SC P N E o Q f g' (R :: ownC x rx :: S :: s)) : SC P N E o Q f g (S :: R :: (ownS (A ++ x :: B) (RA ++ rx :: RB) ++ s)) := fun a w ha hw => by
 have hp : (S :: R :: (ownS (A ++ x :: B) (RA ++ rx :: RB) ++ s)).Perm (R :: (ownS (A ++ x :: B) (RA ++ rx :: RB) ++ (S :: s))) := (List.Perm.swap _ _ _).trans (List.Perm.cons R List.perm_middle.symm)
 obtain ⟨g', h3, h4, h5, h6⟩ := Go.Proofs.YtkdibcicncjpdaaGreat.freezeBut h1 h2 (hw.perm hp)
 exact h g' h3 h5 h6 a w ha h4
theorem All2.split {α β : Type} {R : α → β → Prop} : ∀ {l : List α} {rs : List β} {k : Nat}, All2 R l rs → k < l.length → ∃ A x B RA rx RB, l = A ++ x :: B ∧ rs = RA ++ rx :: RB ∧ A.length = k ∧ RA.length = k ∧ All2 R A RA ∧ R x rx ∧ All2 R B RB
 | x :: l, r :: rs, 0, h, _ => ⟨[], x, l, [], r, rs, rfl, rfl, rfl, rfl, trivial, h.1, h.2⟩
 | x :: l, r :: rs, k + 1, h, hk => by
  obtain ⟨A, y, B, RA, ry, RB, rfl, rfl, h1, h2, h3, h4, h5⟩ := All2.split h.2 (by simpa using hk)
  exact ⟨x :: A, y, B, r :: RA, ry, RB, rfl, rfl, by simp [h1], by simp [h2], ⟨h.1, h3⟩, h4, h5⟩
 | [], [], _, _, hk => by simp at hk
 | [], _ :: _, _, h, _ => h.elim
 | _ :: _, [], _, h, _ => h.elim
theorem setMid {α : Type} {A B : List α} {x y : α} {k : Nat} (h : A.length = k) : (A ++ x :: B).set k y = A ++ y :: B := by subst h; simp
theorem getMid {α : Type} {A B : List α} {x : α} {k : Nat} (h : A.length = k) : (A ++ x :: B)[k]? = some x := by subst h; simp
def dflC : Cl := ⟨0, 0, []⟩
def dflS : Side := ⟨0, 0⟩
def negS (z : Side) : Side := ⟨z.cell, IntKind.i64.wrap (0 - z.sign)⟩
def withS (x : Cl) (ss : List Side) : Cl := ⟨x.id, x.dim, ss⟩
def pickC (l : List Cl) (n : Int) : Cl := l.getD (modW n l.length).toNat dflC
def spoilM (m : Int) (l : List Cl) (k : Nat) (x : Cl) (n : Int) (j : Nat) : List Cl :=
 if m = 0 then l.set k ⟨modW n 9 - 1, x.dim, x.sides⟩
 else if m = 1 then l.set k ⟨x.id, modW n 12 - 1, x.sides⟩
 else if m = 2 then l.eraseIdx k
 else if m = 3 then l.set k (withS x (x.sides.set j ⟨(x.sides.getD j dflS).cell, modW n 4 - 2⟩))
 else if m = 4 then l.set k (withS x (x.sides.set j (negS (x.sides.getD j dflS))))
 else if m = 5 then l.set k (withS x (x.sides.set j ⟨(pickC l (IntKind.i64.wrap (n.tdiv 3))).id, (x.sides.getD j dflS).sign⟩))
 else if m = 6 then l.set k (withS x (x.sides.eraseIdx j))
 else if m = 7 then l.set k (withS x (x.sides ++ [⟨(pickC l n).id, 1 - 2 * modW n 2⟩]))
 else if m = 8 then l ++ [x]
 else if m = 9 then l.set k (withS x (x.sides ++ (pickC l n).sides))
 else if m = 10 then l.set k (withS x (x.sides.map negS))
 else if m = 11 then l ++ [⟨500 + modW n 3, modW n 4, x.sides⟩]
 else l
def sideJ (x : Cl) (n : Int) : Nat := if 0 < x.sides.length then (modW n x.sides.length).toNat else 0
def spoilC (l : List Cl) (q0 q1 q2 : Int) : List Cl :=
 if l.length = 0 then [⟨q1, 0, []⟩] else spoilM (modW q0 13) l (modW q1 l.length).toNat (pickC l q1) q2 (sideJ (pickC l q1) q2)
def Small (l : List Cl) : Prop := l.length ≤ 5000 ∧ ∀ c ∈ l, c.sides.length ≤ 1000000
theorem Small.fits {l : List Cl} (h : Small l) : Fits l := ⟨by have := h.1; omega, fun c hc => by have := h.2 c hc; omega⟩
theorem canonC_small {l : List Cl} (h : Small l) : Small (canonC l) := by
 refine ⟨by simp [canonC, sortBy_length]; exact h.1, fun c hc => ?_⟩
 simp only [canonC, List.mem_map] at hc
 obtain ⟨c0, h0, rfl⟩ := hc
 simp only [normC, sortBy_length]
 exact h.2 c0 ((sortBy_mem l c0).1 h0)
theorem simpC_small (ls : List (List Int)) : Small (simpC ls) := by
 unfold simpC
 cases h : simpAll [] ls with
 | none => exact ⟨by simp, by simp⟩
 | some all =>
  obtain ⟨h1, h2⟩ := simpAll_facts [] ls (by simp) (by simp) all h
  refine canonC_small ⟨by rw [simpCells_length]; omega, fun c hc => ?_⟩
  obtain ⟨p, hp, rfl⟩ := List.mem_map.1 hc
  have h3 : p.1 ∈ all := by
   have := List.mem_map_of_mem (f := Prod.fst) hp
   simpa using this
  have h4 := h2 _ h3
  have h5 := simpSides_length all p.1 p.1.length
  simp only [simpCell]
  omega
theorem pickC_sides {l : List Cl} (h : Small l) (n : Int) : (pickC l n).sides.length ≤ 1000000 := by
 unfold pickC
 rw [List.getD_eq_getElem?_getD]
 cases hc : l[(modW n l.length).toNat]? with
 | none => simp [dflC]
 | some c => exact h.2 c (List.mem_of_getElem? hc)
def Mids (l : List Cl) : Prop := l.length ≤ 5001 ∧ ∀ c ∈ l, c.sides.length ≤ 3000000
theorem Mids.fits {l : List Cl} (h : Mids l) : Fits l := ⟨by have := h.1; omega, fun c hc => by have := h.2 c hc; omega⟩
theorem set_fits {l : List Cl} (h : Small l) (k : Nat) {c : Cl} (hc : c.sides.length ≤ 3000000) : Mids (l.set k c) := by
 refine ⟨by rw [List.length_set]; have := h.1; omega, fun d hd => ?_⟩
 rcases List.mem_or_eq_of_mem_set hd with hd | rfl
 ·have := h.2 d hd; omega
 ·omega
theorem snoc_fits {l : List Cl} (h : Small l) {c : Cl} (hc : c.sides.length ≤ 3000000) : Mids (l ++ [c]) := by
 refine ⟨by rw [List.length_append, List.length_singleton]; have := h.1; omega, fun d hd => ?_⟩
 rcases List.mem_append.1 hd with hd | hd
 ·have := h.2 d hd; omega
 ·simp at hd; subst hd; omega
theorem fits_ite {p : Prop} [Decidable p] {a b : List Cl} (ha : Mids a) (hb : Mids b) : Mids (if p then a else b) := by split <;> assumption
theorem spoilC_mids {l : List Cl} (h : Small l) (q0 q1 q2 : Int) : Mids (spoilC l q0 q1 q2) := by
 unfold spoilC
 split
 ·exact ⟨by simp, by simp⟩
 ·have hx := pickC_sides h q1
  have hy := pickC_sides h q2
  generalize pickC l q1 = x at *
  generalize modW q0 13 = m
  unfold spoilM
  repeat' with_reducible refine fits_ite ?_ ?_
  ·exact set_fits h _ (c := ⟨_, _, x.sides⟩) (by show x.sides.length ≤ _; omega)
  ·exact set_fits h _ (c := ⟨_, _, x.sides⟩) (by show x.sides.length ≤ _; omega)
  ·exact ⟨by have := List.length_eraseIdx_le l (modW q1 l.length).toNat; have := h.1; omega, fun c hc => by have := h.2 c (List.mem_of_mem_eraseIdx hc); omega⟩
  ·exact set_fits h _ (by simp only [withS, List.length_set]; omega)
  ·exact set_fits h _ (by simp only [withS, List.length_set]; omega)
  ·exact set_fits h _ (by simp only [withS, List.length_set]; omega)
  ·exact set_fits h _ (by simp only [withS]; have := List.length_eraseIdx_le x.sides (sideJ x q2); omega)
  ·exact set_fits h _ (by simp only [withS, List.length_append, List.length_singleton]; omega)
  ·exact snoc_fits h (c := x) oM
  ·exact set_fits h _ (by simp only [withS, List.length_append]; omega)
  ·exact set_fits h _ (by simp only [withS, List.length_map]; omega)
  ·exact snoc_fits h (c := ⟨_, _, x.sides⟩) (by show x.sides.length ≤ _; omega)
  ·exact ⟨by have := h.1; omega, fun c hc => by have := h.2 c hc; omega⟩
theorem spoilC_fits {l : List Cl} (h : Small l) (q0 q1 q2 : Int) : Fits (spoilC l q0 q1 q2) := (spoilC_mids h q0 q1 q2).fits
end Go.Proofs.YtkdibcicncjpdaaGreat
