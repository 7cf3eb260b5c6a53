/- Aro Chk SyM Bin Pro1 -/
import Derived.Test.YtkdibcicncjpdaaGreatUn05
import Derived.Test.YtkdibcicncjpdaaGreatUn04
set_option linter.unusedSimpArgs false
set_option linter.unusedVariables false
namespace Go.Proofs.YtkdibcicncjpdaaGreat
open _root_.Go.Proofs.Tryz _root_.Go.Proofs.YtkdibcicncjpdaaGreat.Tryz
open Go Go.Sy Go.Pl Go.Proofs
set_option maxRecDepth 100000
def sidesOf (tl : List Cl) (x : Side) : List Side := ((findT tl x.cell).getD zeroC).sides
def stepZ (x : Side) (zl : List (Int × Int)) (r : Side) : List (Int × Int) := addZ zl r.cell (x.sign * r.sign)
def stepL (i : Int) (ml : List (Int × List Int)) (r : Side) : List (Int × List Int) := addL ml r.cell i
def sumsC (tl : List Cl) (l : List Side) : List (Int × Int) := l.foldl (fun zl x => (sidesOf tl x).foldl (stepZ x) zl) []
def metC (tl : List Cl) (l : List Side) : List (Int × List Int) := l.zipIdx.foldl (fun ml p => (sidesOf tl p.1).foldl (stepL p.2) ml) []
def joinStep (jl : List (Int × List Int)) (p : Int × List Int) : List (Int × List Int) := match p.2 with
 | [a, b] => addL (addL jl a b) b a
 | _ => jl
def joinC (ml : List (Int × List Int)) : List (Int × List Int) := ml.foldl joinStep []
def seenC (jl : List (Int × List Int)) : List Int := dfs (adjJ jl) (jl.length + 1) 0 []
def aroundC (tl : List Cl) (c : Cl) : Int :=
 if (sumsC tl c.sides).any (fun p => decide (p.2 ≠ 0)) then 24
 else if (metC tl c.sides).any (fun p => decide ((p.2.length : Int) ≠ 2)) then 25
 else if ((seenC (joinC (metC tl c.sides))).length : Int) ≠ c.sides.length then 25 else 0
def AOk (tl : List Cl) (c : Cl) : Prop := c.sides.length ≤ 64 ∧ (∀ x ∈ c.sides, x.sign = 1 ∨ x.sign = -1) ∧ ∀ x ∈ c.sides, (sidesOf tl x).length ≤ 64 ∧ ∀ r ∈ sidesOf tl x, r.sign = 1 ∨ r.sign = -1
theorem sumsC_succ {tl : List Cl} {l : List Side} {x : Side} : sumsC tl (l ++ [x]) = (sidesOf tl x).foldl (stepZ x) (sumsC tl l) := by
 simp [sumsC, List.foldl_append]
theorem metC_succ {tl : List Cl} {l : List Side} {x : Side} : metC tl (l ++ [x]) = (sidesOf tl x).foldl (stepL l.length) (metC tl l) := by
 simp [metC, List.zipIdx_append, List.foldl_append]
theorem sign_mul {a b : Int} (ha : a = 1 ∨ a = -1) (hb : b = 1 ∨ b = -1) : a * b = 1 ∨ a * b = -1 := by
 rcases ha with rfl | rfl <;> rcases hb with rfl | rfl <;> decide
theorem addL_keys (ml : List (Int × List Int)) (k x : Int) : (addL ml k x).map Prod.fst = if ml.any (fun p => decide (p.1 = k)) then ml.map Prod.fst else ml.map Prod.fst ++ [k] := by
 induction ml with
 | nil => rfl
 | cons p r ih =>
  obtain ⟨a, l⟩ := p
  simp only [addL]
  by_cases h : k = a
  ·subst h; simp
  ·have h' : ¬ a = k := fun e => h e.symm
   rw [if_neg h]
   simp only [List.map_cons, ih, List.any_cons, h', decide_false, Bool.false_or]
   split <;> simp
theorem addL_nodup {ml : List (Int × List Int)} (h : (ml.map Prod.fst).Nodup) (k x : Int) : ((addL ml k x).map Prod.fst).Nodup := by
 rw [addL_keys]
 split
 ·exact h
 ·rename_i hk
  rw [List.nodup_append]
  refine ⟨h, by simp, fun a ha b hb e => hk ?_⟩
  simp at hb
  subst hb
  obtain ⟨p, hp, hpe⟩ := List.mem_map.1 ha
  rw [List.any_eq_true]
  exact ⟨p, hp, by simp [hpe, e]⟩
theorem metC_nodup (tl : List Cl) (l : List Side) : ((metC tl l).map Prod.fst).Nodup := by
 unfold metC
 have h2 : ∀ (q : List (Side × Nat)) (ml : List (Int × List Int)), (ml.map Prod.fst).Nodup → ((q.foldl (fun ml p => (sidesOf tl p.1).foldl (stepL p.2) ml) ml).map Prod.fst).Nodup := by
  intro q
  induction q with
  | nil => intro ml h; exact h
  | cons p t ih =>
   intro ml h
   refine ih _ ?_
   have h1 : ∀ (q : List Side) (ml : List (Int × List Int)), (ml.map Prod.fst).Nodup → ((q.foldl (stepL p.2) ml).map Prod.fst).Nodup := by
    intro q
    induction q with
    | nil => intro ml h; exact h
    | cons r t ih => intro ml h; exact ih _ (addL_nodup h _ _)
   exact h1 _ _ h
 exact h2 _ _ (by simp)
theorem addL_length (ml : List (Int × List Int)) (k x : Int) : (addL ml k x).length ≤ ml.length + 1 := by
 induction ml with
 | nil => simp [addL]
 | cons p r ih =>
  obtain ⟨a, l⟩ := p
  simp only [addL]
  split <;> simp <;> omega
theorem metC_length {tl : List Cl} {l : List Side} (h : ∀ x ∈ l, (sidesOf tl x).length ≤ 64) : (metC tl l).length ≤ 64 * l.length := by
 have h2 : ∀ (q : List (Side × Nat)) (ml : List (Int × List Int)), (∀ p ∈ q, (sidesOf tl p.1).length ≤ 64) → (q.foldl (fun ml p => (sidesOf tl p.1).foldl (stepL p.2) ml) ml).length ≤ ml.length + 64 * q.length := by
  intro q
  induction q with
  | nil => intro ml _; simp
  | cons p t ih =>
   intro ml hq
   have h1 : ∀ (q : List Side) (ml : List (Int × List Int)), (q.foldl (stepL p.2) ml).length ≤ ml.length + q.length := by
    intro q
    induction q with
    | nil => intro ml; simp
    | cons r t ih =>
     intro ml
     have h3 := ih (stepL p.2 ml r)
     have h4 := addL_length ml r.cell p.2
     simp only [List.foldl_cons, List.length_cons]
     unfold stepL at h3 ⊢
     omega
   have h5 := ih ((sidesOf tl p.1).foldl (stepL p.2) ml) (fun p hp => hq p (by simp [hp]))
   have h6 := h1 (sidesOf tl p.1) ml
   have h7 := hq p (by simp)
   simp only [List.foldl_cons, List.length_cons]
   omega
 have := h2 l.zipIdx [] (fun p hp => h p.1 (by
  obtain ⟨a, i⟩ := p
  exact (List.mem_zipIdx hp).2.2 ▸ List.getElem_mem _))
 simpa [metC] using this
theorem perm_of_key {α : Type} (f : α → Int) {vt ms : List α} (hs : ∀ t ∈ vt, t ∈ ms) (hp : (vt.map f).Perm (ms.map f)) (hn : (ms.map f).Nodup) : vt.Perm ms := by
 have hinj : ∀ {l : List α}, (l.map f).Nodup → ∀ a ∈ l, ∀ b ∈ l, f a = f b → a = b := by
  intro l
  induction l with
  | nil => intro _ a ha; simp at ha
  | cons c t ih =>
   intro h a ha b hb e
   simp only [List.map_cons, List.nodup_cons] at h
   rcases List.mem_cons.1 ha with rfl | ha' <;> rcases List.mem_cons.1 hb with rfl | hb'
   ·rfl
   ·exact absurd (List.mem_map.2 ⟨b, hb', e.symm⟩) h.1
   ·exact absurd (List.mem_map.2 ⟨a, ha', e⟩) h.1
   ·exact ih h.2 a ha' b hb' e
 refine (List.perm_ext_iff_of_nodup (List.Pairwise.of_map f (fun a b hab e => hab (by rw [e])) (hp.symm.nodup hn)) (List.Pairwise.of_map f (fun a b hab e => hab (by rw [e])) hn)).2 fun c => ⟨hs c, fun hc => ?_⟩
 obtain ⟨c', h1, h2⟩ := List.mem_map.1 (hp.symm.subset (List.mem_map.2 ⟨c, hc, rfl⟩))
 rw [← hinj hn c' (hs c' h1) c hc h2]
 exact h1
theorem mem_addL (jl : List (Int × List Int)) (a b x y : Int) : y ∈ getL (addL jl a b) x ↔ y ∈ getL jl x ∨ (x = a ∧ y = b) := by
 rw [getL_addL]
 split
 ·rename_i h; simp [h]
 ·rename_i h; simp [h]
theorem mem_join (ml : List (Int × List Int)) (x y : Int) : y ∈ getL (joinC ml) x ↔ ∃ p ∈ ml, p.2 = [x, y] ∨ p.2 = [y, x] := by
 have key : ∀ (q : List (Int × List Int)) (jl : List (Int × List Int)), y ∈ getL (q.foldl joinStep jl) x ↔ y ∈ getL jl x ∨ ∃ p ∈ q, p.2 = [x, y] ∨ p.2 = [y, x] := by
  intro q
  induction q with
  | nil => intro jl; simp
  | cons p t ih =>
   intro jl
   simp only [List.foldl_cons, ih]
   have hp : y ∈ getL (joinStep jl p) x ↔ y ∈ getL jl x ∨ (p.2 = [x, y] ∨ p.2 = [y, x]) := by
    obtain ⟨k, l⟩ := p
    unfold joinStep
    dsimp only
    match l with
    | [] => simp
    | [_] => simp
    | [a, b] =>
     simp only [mem_addL, List.cons.injEq, and_true]
     constructor
     ·rintro ((h | ⟨h1, h2⟩) | ⟨h1, h2⟩)
      ·exact .inl h
      ·exact .inr (.inl ⟨h1.symm, h2.symm⟩)
      ·exact .inr (.inr ⟨h2.symm, h1.symm⟩)
     ·rintro (h | ⟨h1, h2⟩ | ⟨h1, h2⟩)
      ·exact .inl (.inl h)
      ·exact .inl (.inr ⟨h1.symm, h2.symm⟩)
      ·exact .inr ⟨h2.symm, h1.symm⟩
    | _ :: _ :: _ :: q => simp
   rw [hp]
   constructor
   ·rintro ((h | h) | ⟨q, h1, h2⟩)
    ·exact .inl h
    ·exact .inr ⟨p, by simp, h⟩
    ·exact .inr ⟨q, by simp [h1], h2⟩
   ·rintro (h | ⟨q, h1, h2⟩)
    ·exact .inl (.inl h)
    ·rcases List.mem_cons.1 h1 with rfl | h1
     ·exact .inl (.inr h2)
     ·exact .inr ⟨q, h1, h2⟩
 unfold joinC
 rw [key]
 simp [getL]
theorem seen_perm {a b : List (Int × List Int)} (h : a.Perm b) : (seenC (joinC a)).length = (seenC (joinC b)).length := by
 have hr : ∀ (a b : List (Int × List Int)), a.Perm b → ∀ x, Rch (adjJ (joinC a)) 0 x → Rch (adjJ (joinC b)) 0 x := by
  intro a b h x hx
  refine hx.mono (fun u l hl y hy => ⟨_, rfl, ?_⟩) (fun _ _ => by simp [adjJ])
  simp only [adjJ, Option.some.injEq] at hl
  subst hl
  rw [mem_join] at hy ⊢
  obtain ⟨p, hp, h2⟩ := hy
  exact ⟨p, h.subset hp, h2⟩
 have hc : ∀ jl : List (Int × List Int), cntK jl [] < jl.length + 1 := fun jl => Nat.lt_succ_of_le (List.length_filter_le _ _)
 have hmem : ∀ (q : List (Int × List Int)) (x : Int), x ∈ seenC (joinC q) ↔ Rch (adjJ (joinC q)) 0 x := fun q x => mem_dfs (cnt := cntK (joinC q)) (fun v v' h => cntK_mono h) (cntK_strict _) (hc _) (by simp [adjJ]) x
 refine List.Perm.length_eq ((List.perm_ext_iff_of_nodup (dfs_nodup _ _ _ _ (by simp)) (dfs_nodup _ _ _ _ (by simp))).2 fun x => ?_)
 exact (hmem a x).trans (Iff.trans ⟨hr a b h x, hr b a h.symm x⟩ (hmem b x).symm)
theorem around_spec (E : World) (g : PH) (s : Own) (v : Value) (tl : List Cl) (c : Cl) (r : Rc) (hv : Tab g v tl) (hc : CellR g c r) (hok : AOk tl c) :
  Ctr Tryz.prog E 52 #[v, rcv r] g s (fun r g' s' => r = vi (aroundC tl c) ∧ g = g' ∧ s = s') := by
 obtain ⟨b, mt, iv, rs, rfl, hb, hm, hI, hall⟩ := hv
 obtain ⟨ri, rd, rp, rn, rcap⟩ := r
 have hcs : SlA encSide g (.slice rp rn rcap) c.sides := hc.2.2
 have hrn : rn = c.sides.length := Sl.slen hcs
 have hrd : rd = c.dim := hc.2.1
 subst hrn hrd
 obtain ⟨hn64, hsg, hin⟩ := hok
 have hx0 := fun h => hcs.based h
 refine Ctr.of (args := [pp b 0, rcv ⟨ri, c.dim, rp, c.sides.length, rcap⟩]) func52 rfl ntmps52 (Nat.le_of_ble_eq_true rfl) ?_
 refine SC.seq (SC.region (SL.W (SO.box rfl) ?_))
 rintro _ _ _ ⟨b3, rfl, rfl, rfl⟩
 refine SL.A rfl (SL.nil (ST.thenN (SC.seq (SC.region (SL.W (SO.mkMap) ?_)))))
 rintro _ _ _ ⟨mz, rfl, rfl, rfl⟩
 refine SL.W (SO.mkMap) ?_
 rintro _ _ _ ⟨mm, rfl, rfl, rfl⟩
 refine SL.A rfl (SL.A rfl (SL.nil (ST.thenN ?_)))
 refine SC.cut (ι := List (Int × Int) × Ms) (fun _ => [(3, pp b3 0), (5, .map (some mz)), (6, .map (some mm))]) (fun _ => g) (fun q => mp mm (prsM q.2) :: mp mz (prsZ q.1) :: pt b3 (.cells #[vi ri, vi c.dim, .slice rp c.sides.length rcap] 51 (0, 0)) :: (rowsM q.2 ++ s))
  (fun q => q.1 = sumsC tl c.sides ∧ conM q.2 = metC tl c.sides ∧ ∀ t ∈ q.2, t.2.2.length ≤ 4096) ?_ ?_
 ·refine SC.seq (SC.region (SL.U (SU.fieldAddr underlying51 rfl sizeOf49 rfl) (SL.K (SQ.load isAgg49 rfl (CellAt.own 2 rfl rfl)) (SL.U (SU.lenN underlying49 rfl) (SL.M rfl (SL.nil (ST.thenN (SC.block ?_))))))))
  refine SC.loop (ι := Nat × List (Int × Int) × Ms) (fun q => [(0, pp b 0), (3, pp b3 0), (5, .map (some mz)), (6, .map (some mm)), (21, .slice rp c.sides.length rcap), (22, vi c.sides.length), (23, vi q.1)]) (fun _ => g)
   (fun q => mp mm (prsM q.2.2) :: mp mz (prsZ q.2.1) :: pt b3 (.cells #[vi ri, vi c.dim, .slice rp c.sides.length rcap] 51 (0, 0)) :: (rowsM q.2.2 ++ s))
   (fun q => q.1 ≤ c.sides.length ∧ q.2.1 = sumsC tl (c.sides.take q.1) ∧ conM q.2.2 = metC tl (c.sides.take q.1) ∧ (∀ p ∈ q.2.1, -((64 * q.1 : Nat) : Int) ≤ p.2 ∧ p.2 ≤ ((64 * q.1 : Nat) : Int)) ∧ ∀ t ∈ q.2.2, t.2.2.length ≤ 64 * q.1) (fun q => c.sides.length - q.1)
   (0, [], []) ⟨rfl, rfl, rfl, rfl, rfl, rfl, rfl, trivial⟩ rfl rfl ⟨Nat.zero_le _, by simp [sumsC], by simp [metC, conM], by simp, by simp⟩ ?_
  rintro ⟨k, zl0, ms0⟩ ⟨hk, hz0, hm0, hzb0, hmb0⟩
  dsimp only at hk hz0 hm0 hzb0 hmb0 ⊢
  refine SC.seq (SC.region (SL.U (SU.lss rfl rfl) (SL.nil (ST.thenN (SC.seq ?_)))))
  refine SC.ifP rfl (fun hlt => ?_) (fun hlt => ?_)
  ·have hkl : k < c.sides.length := oM
   have hb1 := hx0 oM
   have hjx : c.sides[((k : Nat) : Int).toNat]? = some c.sides[k] := List.getElem?_eq_getElem hkl
   have htk : c.sides.take (k + 1) = c.sides.take k ++ [c.sides[k]] := List.take_succ_eq_append_getElem hkl
   have hmy : c.sides[k] ∈ c.sides := List.getElem_mem hkl
   have htkl : (c.sides.take k).length = k := by simp; omega
   generalize c.sides[k] = y at *
   obtain ⟨x, hx1, hx2, hx3⟩ := all2_look hall zeroCR y.cell
   obtain ⟨xi, xd, xp, xn, xc⟩ := x
   have hxs : SlA encSide g (.slice xp xn xc) (sidesOf tl y) := hx3.2.2
   have hxn : xn = (sidesOf tl y).length := Sl.slen hxs
   subst hxn
   have hysg := hsg y hmy
   obtain ⟨hyl, hyr⟩ := hin y hmy
   generalize hsy : sidesOf tl y = sy at hxs hyl hyr
   refine SC.skip (ST.thenN (SC.seq (SC.block (SC.seq (SC.region (SL.M rfl (SL.U (SU.indexAddr underlying49 sizeOf55 rfl rfl hb1 oM sL) (SL.K (SQ.elemA isAgg55 sizeOf55 rfl hcs.rd hjx) (SL.W (SO.alloc zeroValue55) ?_)))))))))
   rintro _ _ _ ⟨b8, rfl, rfl, rfl⟩
   refine SL.A rfl (SL.on (SO.storeAllK 0 sizeOf55 rfl rfl rfl rfl rfl (by exact ⟨rfl, rfl, trivial⟩)) ?_)
   rintro _ _ _ ⟨rfl, rfl⟩
   refine SL.nil (ST.thenN (SC.seq ?_))
   refine SC.draw [] [(0, 2), (1, 2), (2, 2), (3, 1), (4, 2), (5, 1), (6, 1), (7, 2), (8, 2), (9, 2)] Tryz.mixed (by kernel_rfl) ?_
   refine SP.U (i := 0) rfl (SU.move rfl) (SP.U (i := 1) rfl (SU.nilCheck rfl) (SP.U (i := 2) rfl (SU.fieldAddr underlying88 rfl sizeOf86 rfl) (SP.K (i := 3) rfl (SQ.load isAgg86 rfl (CellAt.known hb rfl)) (SP.U (i := 4) rfl (SU.fieldAddr underlying55 rfl sizeOf3 rfl) (SP.K (i := 5) rfl (SQ.load isAgg3 rfl (CellAt.own 0 rfl rfl)) (SP.K (i := 6) rfl (SQ.eq (v' := rcv ⟨xi, xd, xp, sy.length, xc⟩) (SQ.lookup mty86 rfl rfl (MapAt.known hm)) (by rw [hx1, hsy])) ?_))))))
   refine SP.U (i := 7) rfl (SU.field underlying51 rfl isAgg49 rfl rfl) (SP.U (i := 8) rfl (SU.lenN underlying49 rfl) (SP.U (i := 9) rfl (SU.move rfl) (SP.nil (ST.thenN (SC.block ?_)))))
   refine SC.loop (ι := Nat × List (Int × Int) × Ms) (fun q => [(0, pp b 0), (3, pp b3 0), (5, .map (some mz)), (6, .map (some mm)), (7, vi k), (8, pp b8 0), (21, .slice rp c.sides.length rcap), (22, vi c.sides.length), (23, vi k), (35, .slice xp sy.length xc), (36, vi sy.length), (37, vi q.1)]) (fun _ => g)
    (fun q => pt b8 (.cells #[vi y.cell, vi y.sign] 55 (0, 0)) :: mp mm (prsM q.2.2) :: mp mz (prsZ q.2.1) :: pt b3 (.cells #[vi ri, vi c.dim, .slice rp c.sides.length rcap] 51 (0, 0)) :: (rowsM q.2.2 ++ s))
    (fun q => q.1 ≤ sy.length ∧ q.2.1 = (sy.take q.1).foldl (stepZ y) zl0 ∧ conM q.2.2 = (sy.take q.1).foldl (stepL k) (metC tl (c.sides.take k)) ∧ (∀ p ∈ q.2.1, -((64 * k + q.1 : Nat) : Int) ≤ p.2 ∧ p.2 ≤ ((64 * k + q.1 : Nat) : Int)) ∧ ∀ t ∈ q.2.2, t.2.2.length ≤ 64 * k + q.1) (fun q => sy.length - q.1)
    (0, zl0, ms0) ⟨rfl, rfl, rfl, rfl, rfl, rfl, rfl, rfl, rfl, rfl, rfl, rfl, trivial⟩ rfl rfl ⟨Nat.zero_le _, by simp, by simp [hm0], by simpa using hzb0, by simpa using hmb0⟩ ?_
   rintro ⟨j, zl, ms⟩ ⟨hj, hz, hmm, hzb, hmb⟩
   dsimp only at hj hz hmm hzb hmb ⊢
   refine SC.seq (SC.region (SL.U (SU.lss rfl rfl) (SL.nil (ST.thenN (SC.seq ?_)))))
   refine SC.ifP rfl (fun hlt2 => ?_) (fun hlt2 => ?_)
   ·have hjl : j < sy.length := oM
    have hb2 := hxs.based oM
    have hjx2 : sy[((j : Nat) : Int).toNat]? = some sy[j] := List.getElem?_eq_getElem hjl
    have htj : sy.take (j + 1) = sy.take j ++ [sy[j]] := List.take_succ_eq_append_getElem hjl
    have hrsg := hyr _ (List.getElem_mem hjl)
    generalize sy[j] = z at *
    obtain ⟨ms', j0, u, lu, hp1, hp2, hp3, hp4, hp6, hp5⟩ := prep ms z.cell
    have hmb' := hp6 _ hmb
    have hlu := hmb' _ (List.mem_of_getElem? hp1)
    dsimp only at hlu
    have hgb := getZ_bound oM hzb z.cell
    have hpr := sign_mul hysg hrsg
    refine SC.to (fun w hw => hp5 E g [pt b8 (.cells #[vi y.cell, vi y.sign] 55 (0, 0)), mp mm (prsM ms), mp mz (prsZ zl), pt b3 (.cells #[vi ri, vi c.dim, .slice rp c.sides.length rcap] 51 (0, 0))] s w hw) ?_
    refine SC.skip (ST.thenN (SC.seq (SC.block (SC.seq (SC.region (SL.U (SU.indexAddr underlying49 sizeOf55 rfl rfl hb2 oM sL) (SL.K (SQ.elemA isAgg55 sizeOf55 rfl hxs.rd hjx2) (SL.W (SO.alloc zeroValue55) ?_))))))))
    rintro _ _ _ ⟨b10, rfl, rfl, rfl⟩
    refine SL.on (SO.storeAllK 0 sizeOf55 rfl rfl rfl rfl rfl (by exact ⟨rfl, rfl, trivial⟩)) ?_
    rintro _ _ _ ⟨rfl, rfl⟩
    refine SL.nil (ST.thenN (SC.seq (SC.region (SL.M rfl (SL.U (SU.fieldAddr underlying55 rfl sizeOf3 rfl) (SL.K (SQ.load isAgg3 rfl (CellAt.own 0 rfl rfl)) (SL.K (SQ.eq (v' := vi (getZ zl z.cell)) (SQ.lookup mty117 rfl rfl (MapAt.own 3 rfl)) (getZ_map zl _)) (SL.U (SU.fieldAddr underlying55 rfl sizeOf3 rfl) (SL.K (SQ.load isAgg3 rfl (CellAt.own 1 rfl rfl)) (SL.U (SU.fieldAddr underlying55 rfl sizeOf3 rfl) (SL.K (SQ.load isAgg3 rfl (CellAt.own 0 rfl rfl)) (SL.U (SU.mul (m := y.sign) (n := z.sign) rfl rfl oM) (SL.U (SU.add (m := getZ zl z.cell) (n := y.sign * z.sign) rfl rfl oM) (SL.on (SO.mapUpdate 3 mty117 rfl rfl rfl rfl) ?_))))))))))))))
    rintro _ _ _ ⟨rfl, rfl⟩
    rw [addZ_map]
    refine SL.nil (ST.thenN ?_)
    refine SC.drawT 5 [10] [(0, 2), (1, 2), (2, 1), (3, 2), (4, 2), (5, 1), (6, 1), (7, 2), (8, 0), (9, 0), (10, 0)] Tryz.mixed (by kernel_rfl) ?_
    refine SP.U (i := 0) rfl (SU.move rfl) (SP.U (i := 1) rfl (SU.fieldAddr underlying55 rfl sizeOf3 rfl) (SP.K (i := 2) rfl (SQ.load isAgg3 rfl (CellAt.own 0 rfl rfl)) (SP.U (i := 3) rfl (SU.move rfl) (SP.U (i := 4) rfl (SU.fieldAddr underlying55 rfl sizeOf3 rfl) (SP.K (i := 5) rfl (SQ.load isAgg3 rfl (CellAt.own 0 rfl rfl)) (SP.K (i := 6) rfl (SQ.eq (SQ.lookup mty118 rfl rfl (MapAt.own 2 rfl)) hp2) (SP.U (i := 7) rfl (SU.move rfl) (SP.o (i := 8) rfl (SO.buildSlice sty45 rfl rfl rfl (szs_mk (by exact ⟨rfl, trivial⟩)) dC) dC (.inr (by rintro _ _ _ ⟨b59, rfl, rfl, rfl⟩; exact ⟨by exact Le.refl _, (by exact .cons _ (List.take_sublist _ _))⟩)) ?_))))))))
    rintro _ _ _ ⟨b59, rfl, rfl, rfl⟩
    refine SP.o (i := 9) rfl (SO.app1 (j0 + 5) ((lu ++ [(k : Int)]).flatMap encInt.enc) (lu ++ [(k : Int)]).length sty45 rfl rfl rfl (rows_get hp1 s) rfl ⟨rfl, trivial⟩ (by simp [encInt]; rfl) (by simp) lN lN) dC (.inr (by rintro u' _ _ ⟨rfl, rfl⟩; exact ⟨by exact Le.refl _, (by exact take_set_sub _ _ _ _)⟩)) ?_
    rintro u' _ _ ⟨rfl, rfl⟩
    refine SP.on (i := 10) rfl (SO.mapUpdate 2 mty118 rfl rfl rfl rfl) (.inl dC) ?_
    rintro _ _ _ ⟨rfl, rfl⟩
    refine SP.nil (ST.blockN (ST.thenN (SC.region (SL.U (SU.add rfl rfl oM) (SL.M rfl (SL.nil ?_))))))
    refine ST.drop (s' := pt b8 (.cells #[vi y.cell, vi y.sign] 55 (0, 0)) :: mp mm (prsM (ms'.set j0 (z.cell, u', lu ++ [(k : Int)]))) :: mp mz (prsZ (addZ zl z.cell (y.sign * z.sign))) :: pt b3 (.cells #[vi ri, vi c.dim, .slice rp c.sides.length rcap] 51 (0, 0)) :: (rowsM (ms'.set j0 (z.cell, u', lu ++ [(k : Int)])) ++ s)) (by
     rw [← hp3 u' k, ← rows_set (v' := u') (l' := lu ++ [(k : Int)]) hp1 s]
     exact .cons _ (.refl _)) ?_
    exact ST.again (j + 1, addZ zl z.cell (y.sign * z.sign), ms'.set j0 (z.cell, u', lu ++ [(k : Int)])) ⟨rfl, rfl, rfl, rfl, rfl, rfl, rfl, rfl, rfl, rfl, rfl, rfl, trivial⟩ rfl rfl ⟨lN, by rw [htj, List.foldl_append, ← hz]; rfl, by rw [htj, List.foldl_append, ← hmm, hp4]; rfl, by
      have := addZ_bound oM hzb z.cell (x := y.sign * z.sign) oM
      intro p hp
      have := this p hp
      dsimp only at *
      omega, fun t ht => by
      dsimp only at *
      rcases List.mem_or_eq_of_mem_set ht with h | h
      ·have := hmb' t h; omega
      ·subst h; simp; omega⟩ lN
   ·refine SC.exit (ST.thenX (ST.thenX (ST.blockX (ST.blockN (ST.thenN (SC.region (SL.U (SU.add rfl rfl oM) (SL.M rfl (SL.nil ?_)))))))))
    have hjj : sy.take j = sy := List.take_of_length_le oM
    rw [hjj] at hz hmm
    refine ST.drop (s' := mp mm (prsM ms) :: mp mz (prsZ zl) :: pt b3 (.cells #[vi ri, vi c.dim, .slice rp c.sides.length rcap] 51 (0, 0)) :: (rowsM ms ++ s)) (.cons _ (.refl _)) ?_
    exact ST.again (k + 1, zl, ms) ⟨rfl, rfl, rfl, rfl, rfl, rfl, rfl, trivial⟩ rfl rfl ⟨lN, by rw [htk, sumsC_succ, hsy, ← hz0]; exact hz, by rw [htk, metC_succ, hsy, htkl]; exact hmm, by
      intro p hp
      have := hzb p hp
      dsimp only at *
      omega, fun t ht => by have := hmb t ht; dsimp only at *; omega⟩ lN
  ·refine SC.exit (ST.thenX (ST.thenX (ST.blockX ?_)))
   have hkk : c.sides.take k = c.sides := List.take_of_length_le oM
   rw [hkk] at hz0 hm0
   exact ST.mid (zl0, ms0) ⟨rfl, rfl, rfl, trivial⟩ rfl rfl ⟨hz0, hm0, fun t ht => by have := hmb0 t ht; omega⟩
 ·rintro ⟨zl, ms⟩ ⟨hz, hmc, hmlen⟩
  dsimp only at hz hmc hmlen ⊢
  refine SC.perm (List.Perm.swap _ _ _) (SC.freezeMap fun g1 hl1 hmz => ?_)
  refine SC.freezeMap fun g2 hl2 hmm => ?_
  refine SC.perm List.perm_middle.symm (SC.freezeRows fun g3 hl3 hrows => ?_)
  obtain ⟨es1, clk1, hes1, hmi1⟩ := hmz.mono (hl2.trans hl3)
  obtain ⟨es2, clk2, hes2, hmi2⟩ := hmm.mono hl3
  have hle3 := hl1.trans (hl2.trans hl3)
  have hmsl : ms.length ≤ 4096 := by
   have h1 := metC_length (tl := tl) (l := c.sides) (fun x hx => (hin x hx).1)
   rw [← hmc] at h1
   have h2 : (conM ms).length = ms.length := by simp [conM]
   omega
  refine SC.seq (SC.seq (SC.region (SL.M rfl (SL.W (SO.range underlying117 rfl hes1) ?_))))
  rintro _ _ _ ⟨it, rfl, rfl, rfl⟩
  refine SL.nil (ST.thenN (SC.block ?_))
  refine SC.loop (ι := List MapEntry × List (Int × Value)) (fun _ => [(3, pp b3 0), (6, .map (some mm)), (64, pp it 0)]) (fun _ => g3)
   (fun q => iter it mz es1 clk1 q.1 :: pt b3 (.cells #[vi ri, vi c.dim, .slice rp c.sides.length rcap] 51 (0, 0)) :: s)
   (fun q => RVis (prsZ zl) es1 q.1 q.2 ∧ ∀ p ∈ q.2, p.2 = vi 0) (fun q => zl.length - q.2.length) ([], []) ⟨rfl, rfl, rfl, trivial⟩ rfl rfl ⟨RVis.nil _ _, by simp⟩ ?_
  rintro ⟨vis, vl⟩ ⟨hrv, hvz⟩
  dsimp only at hrv hvz ⊢
  refine SC.seq (SC.region (SL.W (SO.nextP 0 rfl rfl hes1 hmi1 hrv) ?_))
  rintro _ _ _ ⟨rfl, hcase⟩
  rcases hcase with ⟨rfl, rfl, hperm⟩ | ⟨e, pr, he, hq1, hk1, hv1, hrv2, rfl, rfl⟩
  ·have hz0 : (sumsC tl c.sides).any (fun p => decide (p.2 ≠ 0)) = false := by
    rw [List.any_eq_false]
    intro p hp
    rw [← hz] at hp
    have := hvz (p.1, vi p.2) (hperm.symm.subset (List.mem_map.2 ⟨p, hp, rfl⟩))
    simpa using this
   refine SL.U (SU.extract rfl rfl) (SL.nil (ST.thenN (SC.seq (SC.condF rfl (SC.exit (ST.thenX (ST.thenX (ST.blockX (ST.thenN (SC.seq (SC.drop (s' := pt b3 (.cells #[vi ri, vi c.dim, .slice rp c.sides.length rcap] 51 (0, 0)) :: s) (.cons _ (.refl _)) (SC.region (SL.W (SO.mkMap) ?_)))))))))))))
   rintro _ _ _ ⟨mj, rfl, rfl, rfl⟩
   refine SL.W (SO.alloc zeroValue118) ?_
   rintro _ _ _ ⟨b13, rfl, rfl, rfl⟩
   refine SL.on (SO.storeAllK 0 sizeOf118 rfl rfl rfl rfl rfl (by exact ⟨rfl, trivial⟩)) ?_
   rintro _ _ _ ⟨rfl, rfl⟩
   refine SL.nil (ST.thenN (SC.seq (SC.seq (SC.region (SL.M rfl (SL.W (SO.range underlying118 rfl hes2) ?_))))))
   rintro _ _ _ ⟨it2, rfl, rfl, rfl⟩
   refine SL.nil (ST.thenN (SC.block ?_))
   refine SC.loop (ι := List MapEntry × List (Int × Value) × Ms × Ms) (fun _ => [(3, pp b3 0), (13, pp b13 0), (73, pp it2 0)]) (fun _ => g3)
    (fun q => iter it2 mm es2 clk2 q.1 :: pt b13 (.cells #[.map (some mj)] 118 (0, 0)) :: mp mj (prsM q.2.2.2) :: pt b3 (.cells #[vi ri, vi c.dim, .slice rp c.sides.length rcap] 51 (0, 0)) :: (rowsM q.2.2.2 ++ s))
    (fun q => RVis (prsM ms) es2 q.1 q.2.1 ∧ q.2.1 = prsM q.2.2.1 ∧ (∀ t ∈ q.2.2.1, t ∈ ms ∧ t.2.2.length = 2) ∧ conM q.2.2.2 = joinC (conM q.2.2.1) ∧ ∀ t ∈ q.2.2.2, t.2.2.length ≤ 2 * q.2.2.1.length) (fun q => ms.length - q.2.1.length) ([], [], [], []) ⟨rfl, rfl, rfl, trivial⟩ rfl rfl ⟨RVis.nil _ _, rfl, by simp, rfl, by simp⟩ ?_
   rintro ⟨vis2, vl2, vt, js⟩ ⟨hrv3, hvl2, hvt, hjs, hjb⟩
   dsimp only at hrv3 hvl2 hvt hjs hjb ⊢
   have hvtl : vt.length ≤ ms.length := by have := hrv3.len hmi2; rw [hvl2] at this; simpa [prsM] using this
   refine SC.seq (SC.region (SL.W (SO.nextP 0 rfl rfl hes2 hmi2 hrv3) ?_))
   rintro _ _ _ ⟨rfl, hcase2⟩
   rcases hcase2 with ⟨rfl, rfl, hperm2⟩ | ⟨e2, pr2, he2, hq2, hk2, hv2, hrv4, rfl, rfl⟩
   ·have hpm : (conM vt).Perm (metC tl c.sides) := by
     rw [← hmc]
     have hn : (ms.map fun t => t.1).Nodup := by
      have := metC_nodup tl c.sides
      rw [← hmc] at this
      simpa [conM, List.map_map, Function.comp_def] using this
     have h1 := hperm2.map Prod.fst
     rw [hvl2] at h1
     simp only [prsM, List.map_map, Function.comp_def] at h1
     exact (perm_of_key (fun t => t.1) (fun t ht => (hvt t ht).1) h1 hn).map _
    have hreg : (metC tl c.sides).any (fun p => decide ((p.2.length : Int) ≠ 2)) = false := by
     rw [List.any_eq_false]
     intro p hp
     obtain ⟨t, ht, rfl⟩ := List.mem_map.1 (hpm.symm.subset hp)
     have := (hvt t ht).2
     simp [this]
    have hjlen : ∀ t ∈ js, t.2.2.length < 1099511627776 := fun t ht => by
     have h1 := hjb t ht
     omega
    refine SL.U (SU.extract rfl rfl) (SL.nil (ST.thenN (SC.seq (SC.condF rfl (SC.exit (ST.thenX (ST.thenX (ST.blockX (ST.thenN (SC.seq (SC.drop (.cons _ (.refl _)) (SC.freeze fun g4 hl4 hb13 => ?_))))))))))))
    refine SC.freezeMap fun g5 hl5 hmj => ?_
    refine SC.perm List.perm_middle.symm (SC.freezeRows fun g6 hl6 hjrows => ?_)
    refine SC.region (SL.W (SO.mkMap) ?_)
    rintro _ _ _ ⟨sm, rfl, rfl, rfl⟩
    refine SL.W (SO.alloc zeroValue96) ?_
    rintro _ _ _ ⟨b16, rfl, rfl, rfl⟩
    refine SL.on (SO.storeAllK 0 sizeOf96 rfl rfl rfl rfl rfl ⟨rfl, trivial⟩) ?_
    rintro _ _ _ ⟨rfl, rfl⟩
    refine SL.freeze fun g7 hl7 hb16 => ?_
    refine SL.nil (ST.thenN (SC.seq (SC.region (SL.W (SO.alloc zeroValue119) ?_))))
    rintro _ _ _ ⟨b17, rfl, rfl, rfl⟩
    refine SL.nil (ST.thenN (SC.seq (SC.region (SL.U (SU.mkFunc rfl) (SL.on (SO.storeAllK 0 sizeOf119 rfl rfl rfl rfl rfl ⟨rfl, trivial⟩) ?_)))))
    rintro _ _ _ ⟨rfl, rfl⟩
    refine SL.freeze fun g8 hl8 hb17 => ?_
    refine SL.nil (ST.thenN (SC.seq (SC.region (SL.K (SQ.load isAgg119 rfl (CellAt.known hb17 rfl)) (SL.W (SO.callV rfl rfl (CallV.mk (cap := [pp b16 0, pp b13 0, pp b17 0]) call92 (visit_spec E g8 b16 b13 b17 sm mj js (hmj.mono (hl6.trans (hl7.trans hl8))) (fun t ht => (hjrows t ht).mono (hl7.trans hl8)) hjlen (hl8 _ _ hb16) ((hl5.trans (hl6.trans (hl7.trans hl8))) _ _ hb13) hb17 ((conM js).length + 1) 0 [] _ 0 (Nat.lt_succ_of_le (List.length_filter_le _ _)) rfl))) ?_)))))
    rintro _ _ _ ⟨rfl, rfl⟩
    refine SL.nil (ST.thenN (SC.seq (SC.seq (SC.region (SL.K (SQ.load isAgg96 rfl (CellAt.known (hl8 _ _ hb16) rfl)) (SL.K (SQ.lenMap underlying96 rfl (MapAt.own 0 rfl)) (SL.U (SU.fieldAddr underlying51 rfl sizeOf49 rfl) (SL.K (SQ.load isAgg49 rfl (CellAt.own 1 rfl rfl)) (SL.U (SU.lenN underlying49 rfl) (SL.U (SU.neq rfl rfl) (SL.nil (ST.thenN ?_))))))))))))
    have hseen : (setP (dfs (adjJ (conM js)) ((conM js).length + 1) 0 [])).length = (seenC (joinC (metC tl c.sides))).length := by
     rw [← seen_perm hpm, ← hjs]
     simp [setP, seenC]
    rw [hseen]
    have hlast := hle3.trans (hl4.trans (hl5.trans (hl6.trans (hl7.trans hl8))))
    refine SC.ifP rfl (fun hne => ?_) (fun hne => ?_)
    ·refine SC.seq (SC.region (SL.A rfl (SL.nil (ST.thenN (SC.ret (ST.thenR ?_))))))
     refine ST.drop (s' := s) (.cons _ (.cons _ (.refl _))) (ST.less hlast ?_)
     exact ST.ret1 (.inl rfl) results52 rfl ⟨by unfold aroundC; rw [if_neg (by rw [hz0]; exact Bool.false_ne_true), if_neg (by rw [hreg]; exact Bool.false_ne_true), if_pos hne], rfl, rfl⟩
    ·refine SC.skip (ST.thenN (SC.seq (SC.region (SL.A rfl (SL.nil (ST.thenN (SC.ret ?_)))))))
     refine ST.drop (s' := s) (.cons _ (.cons _ (.refl _))) (ST.less hlast ?_)
     exact ST.ret1 (.inl rfl) results52 rfl ⟨by unfold aroundC; rw [if_neg (by rw [hz0]; exact Bool.false_ne_true), if_neg (by rw [hreg]; exact Bool.false_ne_true), if_neg hne], rfl, rfl⟩
   ·obtain ⟨⟨tk, tv, tl2⟩, ht, rfl⟩ := List.mem_map.1 hq2
    have hti : Ints g3 tv tl2 := hrows _ ht
    have htl : tl2.length ≤ 4096 := hmlen _ ht
    obtain ⟨tp, tc, rfl⟩ := SlA.form hti
    refine SL.U (SU.extract rfl rfl) (SL.nil (ST.thenN (SC.seq (SC.condT rfl (SC.skip (ST.thenN (SC.block (SC.seq (SC.region (SL.K (SQ.entryP 0 rfl rfl hes2 hmi2 he2 hk2 hv2) (SL.U (SU.extract rfl rfl) (SL.A rfl (SL.nil (ST.thenN (SC.seq (SC.seq (SC.region (SL.M rfl (SL.U (SU.lenN underlying45 rfl) (SL.U (SU.neq rfl rfl) (SL.nil (ST.thenN ?_))))))))))))))))))))))
    refine SC.ifP rfl (fun hne2 => ?_) (fun hne2 => ?_)
    ·refine SC.seq (SC.region (SL.A rfl (SL.nil (ST.thenN (SC.ret (ST.thenR (ST.blockR (ST.thenR (ST.blockR (ST.thenR ?_))))))))))
     refine ST.drop (s' := s) (.cons _ (.cons _ (.cons _ (.cons _ (List.sublist_append_right _ _))))) (ST.less hle3 ?_)
     have hany : (metC tl c.sides).any (fun p => decide ((p.2.length : Int) ≠ 2)) = true := by
      rw [← hmc, List.any_eq_true]
      exact ⟨(tk, tl2), List.mem_map.2 ⟨_, ht, rfl⟩, by simpa using hne2⟩
     exact ST.ret1 (.inl rfl) results52 rfl ⟨by unfold aroundC; rw [if_neg (by rw [hz0]; exact Bool.false_ne_true), if_pos hany], rfl, rfl⟩
    ·obtain ⟨a, bb, rfl⟩ : ∃ a bb, tl2 = [a, bb] := by
      match tl2, hne2 with
      | [], h => exact absurd (by simp) h
      | [_], h => exact absurd (by simp) h
      | [a, bb], _ => exact ⟨a, bb, rfl⟩
      | _ :: _ :: _ :: q, h => exact absurd (by simp only [List.length_cons]; omega) h
     have hbt := SlA.based hti (by simp)
     obtain ⟨js', j0, u0, lu, hp1, hp2, hp3, hp4, hp6, hp5⟩ := prep js a
     have hjb' := hp6 _ hjb
     have hlu := hjb' _ (List.mem_of_getElem? hp1)
     dsimp only at hlu
     refine SC.skip (ST.thenN (SC.seq ?_))
     refine SC.to (fun w hw => hp5 E g3 [iter it2 mm es2 clk2 (vis2 ++ [e2]), pt b13 (.cells #[.map (some mj)] 118 (0, 0)), mp mj (prsM js), pt b3 (.cells #[vi ri, vi c.dim, .slice rp c.sides.length rcap] 51 (0, 0))] s w hw) ?_
     refine SC.drawT 4 [14] [(0, 1), (1, 2), (2, 2), (3, 1), (4, 1), (5, 2), (6, 2), (7, 1), (8, 1), (9, 2), (10, 2), (11, 1), (12, 0), (13, 0), (14, 0)] Tryz.mixed (by kernel_rfl) ?_
     refine SP.K (i := 0) rfl (SQ.load isAgg118 rfl (CellAt.own 1 rfl rfl)) (SP.U (i := 1) rfl (SU.move rfl) (SP.U (i := 2) rfl (SU.indexAddr underlying45 sizeOf3 rfl rfl hbt dC (show (0 : Int) < ((2 : Nat) : Int) by decide)) ?_))
     refine SP.K (i := 3) rfl (SQ.elem1 isAgg3 rfl (SlA.rd hti) (j := 0) rfl rfl) (SP.K (i := 4) rfl (SQ.load isAgg118 rfl (CellAt.own 1 rfl rfl)) (SP.U (i := 5) rfl (SU.move rfl) (SP.U (i := 6) rfl (SU.indexAddr underlying45 sizeOf3 rfl rfl hbt dC (show (0 : Int) < ((2 : Nat) : Int) by decide)) ?_)))
     refine SP.K (i := 7) rfl (SQ.elem1 isAgg3 rfl (SlA.rd hti) (j := 0) rfl rfl) (SP.K (i := 8) rfl (SQ.eq (SQ.lookup mty118 rfl rfl (MapAt.own 2 rfl)) hp2) (SP.U (i := 9) rfl (SU.move rfl) (SP.U (i := 10) rfl (SU.indexAddr underlying45 sizeOf3 rfl rfl hbt dC (show (1 : Int) < ((2 : Nat) : Int) by decide)) ?_)))
     refine SP.K (i := 11) rfl (SQ.elem1 isAgg3 rfl (SlA.rd hti) (j := 1) rfl rfl) (SP.o (i := 12) rfl (SO.buildSlice sty45 rfl rfl rfl (szs_mk (by exact ⟨rfl, trivial⟩)) dC) dC (.inr (by rintro _ _ _ ⟨b93, rfl, rfl, rfl⟩; exact ⟨by exact Le.refl _, (by exact .cons _ (List.take_sublist _ _))⟩)) ?_)
     rintro _ _ _ ⟨b93, rfl, rfl, rfl⟩
     refine SP.o (i := 13) rfl (SO.app1 (j0 + 4) ((lu ++ [bb]).flatMap encInt.enc) (lu ++ [bb]).length sty45 rfl rfl rfl (rows_get hp1 s) rfl ⟨rfl, trivial⟩ (by simp [encInt]; rfl) (by simp) lN lN) dC (.inr (by rintro u1 _ _ ⟨rfl, rfl⟩; exact ⟨by exact Le.refl _, (by exact take_set_sub _ _ _ _)⟩)) ?_
     rintro u1 _ _ ⟨rfl, rfl⟩
     refine SP.on (i := 14) rfl (SO.mapUpdate 2 mty118 rfl rfl rfl rfl) (.inl dC) ?_
     rintro _ _ _ ⟨rfl, rfl⟩
     refine SP.nil (ST.thenN (SC.drop (s' := [iter it2 mm es2 clk2 (vis2 ++ [e2]), pt b13 (.cells #[.map (some mj)] 118 (0, 0)), mp mj (prsM (js'.set j0 (a, u1, lu ++ [bb]))), pt b3 (.cells #[vi ri, vi c.dim, .slice rp c.sides.length rcap] 51 (0, 0))] ++ (rowsM (js'.set j0 (a, u1, lu ++ [bb])) ++ s)) (by rw [← hp3 u1 bb, ← rows_set (v' := u1) (l' := lu ++ [bb]) hp1 s]; exact .refl _) ?_))
     have hjb1 : ∀ t ∈ (js'.set j0 (a, u1, lu ++ [bb])), t.2.2.length ≤ 2 * vt.length + 1 := fun t ht => (by rcases List.mem_or_eq_of_mem_set ht with h | h; (have := hjb' t h; omega); (subst h; simp; omega))
     obtain ⟨js2, j1, u2, lw, hq1, hq2', hq3, hq4, hq6, hq5⟩ := prep (js'.set j0 (a, u1, lu ++ [bb])) bb
     have hjb2 := hq6 _ hjb1
     have hlw := hjb2 _ (List.mem_of_getElem? hq1)
     dsimp only at hlw
     refine SC.to (fun w hw => hq5 E g3 [iter it2 mm es2 clk2 (vis2 ++ [e2]), pt b13 (.cells #[.map (some mj)] 118 (0, 0)), mp mj (prsM (js'.set j0 (a, u1, lu ++ [bb]))), pt b3 (.cells #[vi ri, vi c.dim, .slice rp c.sides.length rcap] 51 (0, 0))] s w hw) ?_
     refine SC.drawT 4 [14] [(0, 1), (1, 2), (2, 2), (3, 1), (4, 1), (5, 2), (6, 2), (7, 1), (8, 1), (9, 2), (10, 2), (11, 1), (12, 0), (13, 0), (14, 0)] Tryz.mixed (by kernel_rfl) ?_
     refine SP.K (i := 0) rfl (SQ.load isAgg118 rfl (CellAt.own 1 rfl rfl)) (SP.U (i := 1) rfl (SU.move rfl) (SP.U (i := 2) rfl (SU.indexAddr underlying45 sizeOf3 rfl rfl hbt dC (show (1 : Int) < ((2 : Nat) : Int) by decide)) ?_))
     refine SP.K (i := 3) rfl (SQ.elem1 isAgg3 rfl (SlA.rd hti) (j := 1) rfl rfl) (SP.K (i := 4) rfl (SQ.load isAgg118 rfl (CellAt.own 1 rfl rfl)) (SP.U (i := 5) rfl (SU.move rfl) (SP.U (i := 6) rfl (SU.indexAddr underlying45 sizeOf3 rfl rfl hbt dC (show (1 : Int) < ((2 : Nat) : Int) by decide)) ?_)))
     refine SP.K (i := 7) rfl (SQ.elem1 isAgg3 rfl (SlA.rd hti) (j := 1) rfl rfl) (SP.K (i := 8) rfl (SQ.eq (SQ.lookup mty118 rfl rfl (MapAt.own 2 rfl)) hq2') (SP.U (i := 9) rfl (SU.move rfl) (SP.U (i := 10) rfl (SU.indexAddr underlying45 sizeOf3 rfl rfl hbt dC (show (0 : Int) < ((2 : Nat) : Int) by decide)) ?_)))
     refine SP.K (i := 11) rfl (SQ.elem1 isAgg3 rfl (SlA.rd hti) (j := 0) rfl rfl) (SP.o (i := 12) rfl (SO.buildSlice sty45 rfl rfl rfl (szs_mk (by exact ⟨rfl, trivial⟩)) dC) dC (.inr (by rintro _ _ _ ⟨b107, rfl, rfl, rfl⟩; exact ⟨by exact Le.refl _, (by exact .cons _ (List.take_sublist _ _))⟩)) ?_)
     rintro _ _ _ ⟨b107, rfl, rfl, rfl⟩
     refine SP.o (i := 13) rfl (SO.app1 (j1 + 4) ((lw ++ [a]).flatMap encInt.enc) (lw ++ [a]).length sty45 rfl rfl rfl (rows_get hq1 s) rfl ⟨rfl, trivial⟩ (by simp [encInt]; rfl) (by simp) lN lN) dC (.inr (by rintro u3 _ _ ⟨rfl, rfl⟩; exact ⟨by exact Le.refl _, (by exact take_set_sub _ _ _ _)⟩)) ?_
     rintro u3 _ _ ⟨rfl, rfl⟩
     refine SP.on (i := 14) rfl (SO.mapUpdate 2 mty118 rfl rfl rfl rfl) (.inl dC) ?_
     rintro _ _ _ ⟨rfl, rfl⟩
     refine SP.nil (ST.blockN (ST.drop (s' := [iter it2 mm es2 clk2 (vis2 ++ [e2]), pt b13 (.cells #[.map (some mj)] 118 (0, 0)), mp mj (prsM (js2.set j1 (bb, u3, lw ++ [a]))), pt b3 (.cells #[vi ri, vi c.dim, .slice rp c.sides.length rcap] 51 (0, 0))] ++ (rowsM (js2.set j1 (bb, u3, lw ++ [a])) ++ s)) (by rw [← hq3 u3 a, ← rows_set (v' := u3) (l' := lw ++ [a]) hq1 s]; exact .refl _) ?_))
     exact ST.again (vis2 ++ [e2], vl2 ++ [(tk, .slice tp 2 tc)], vt ++ [(tk, .slice tp 2 tc, [a, bb])], js2.set j1 (bb, u3, lw ++ [a])) ⟨rfl, rfl, rfl, trivial⟩ rfl rfl ⟨hrv4, by rw [hvl2]; simp [prsM], fun t ht2 => by
       rcases List.mem_append.1 ht2 with h | h
       ·exact hvt t h
       ·simp at h; subst h; exact ⟨ht, rfl⟩, by rw [hq4, hp4, hjs]; simp [joinC, conM, joinStep], fun t ht2 => by
       simp only [List.length_append, List.length_singleton]
       rcases List.mem_or_eq_of_mem_set ht2 with h | h
       ·have := hjb2 t h; omega
       ·subst h; simp; omega⟩ (by
       have := hrv4.len hmi2
       simp only [prsM, List.length_map, List.length_append, List.length_singleton] at this ⊢
       omega)
  ·obtain ⟨zp, hzp, rfl⟩ := List.mem_map.1 hq1
   refine SL.U (SU.extract rfl rfl) (SL.nil (ST.thenN (SC.seq (SC.condT rfl (SC.skip (ST.thenN (SC.block (SC.seq (SC.region (SL.K (SQ.entryP 0 rfl rfl hes1 hmi1 he hk1 hv1) (SL.U (SU.extract rfl rfl) (SL.A rfl (SL.nil (ST.thenN (SC.seq (SC.region (SL.M rfl (SL.U (SU.neq rfl rfl) (SL.nil (ST.thenN ?_))))))))))))))))))))
   refine SC.ifP rfl (fun hne => ?_) (fun hne => ?_)
   ·refine SC.seq (SC.region (SL.A rfl (SL.nil (ST.thenN (SC.ret (ST.blockR (ST.thenR (ST.blockR (ST.thenR ?_)))))))))
    refine ST.drop (s' := s) (.cons _ (.cons _ (.refl _))) (ST.less hle3 ?_)
    have hany : (sumsC tl c.sides).any (fun p => decide (p.2 ≠ 0)) = true := by
     rw [← hz, List.any_eq_true]
     exact ⟨zp, hzp, by simpa using hne⟩
    exact ST.ret1 (.inl rfl) results52 rfl ⟨by unfold aroundC; rw [if_pos hany], rfl, rfl⟩
   ·refine SC.skip (ST.blockN ?_)
    exact ST.again (vis ++ [e], vl ++ [(zp.1, vi zp.2)]) ⟨rfl, rfl, rfl, trivial⟩ rfl rfl ⟨hrv2, fun p hp => by
     rcases List.mem_append.1 hp with h | h
     ·exact hvz p h
     ·simp at h; subst h
      have : zp.2 = 0 := by simpa using hne
      simp [this]⟩ (by
     have := hrv2.len hmi1
     simp only [prsZ, List.length_map, List.length_append, List.length_singleton] at this ⊢
     omega)
def chk1 (tl : List Cl) : List Cl → Int → Option (Int × Int)
 | [], _ => none
 | x :: r, last => if x.id ≤ last then some (x.id, 20) else if formC tl x ≠ 0 then some (x.id, formC tl x) else chk1 tl r x.id
def chk2 (tl : List Cl) : List Cl → Option (Int × Int)
 | [] => none
 | x :: r => if x.dim > 1 ∧ aroundC tl x ≠ 0 then some (x.id, aroundC tl x) else chk2 tl r
def checkC (l : List Cl) : Int × Int := if (l.length : Int) > 4000 then (0, 2) else (chk1 (tabC l) (canonC l) 0).getD ((chk2 (tabC l) (canonC l)).getD (0, 0))
theorem form_ok {tl : List Cl} {c : Cl} (h : formC tl c = 0) : c.sides.length ≤ 64 ∧ ∀ x ∈ c.sides, x.sign = 1 ∨ x.sign = -1 := by
 unfold formC at h
 split at h
 ·simp at h
 ·rename_i hdb
  split at h
  ·simp at h
  ·rename_i hcb
   split at h
   ·simp at h
   ·split at h
    ·simp at h
    ·rename_i hsg
     refine ⟨?_, fun x hx => ?_⟩
     ·simp [dimBad] at hdb
      simp [cntBad] at hcb
      rcases Int.lt_trichotomy c.dim 1 with h | h | h
      ·have : c.dim = 0 := oM
       have := hcb.1.1 this
       simp [this]
      ·have := hcb.1.2 h
       omega
      ·have := hcb.2 h
       omega
     ·have h1 : c.sides.any signBad = false := by simpa using hsg
      rw [List.any_eq_false] at h1
      have h2 := h1 x hx
      simp only [signBad, Bool.and_eq_true, decide_eq_true_eq, ne_eq, not_and, Decidable.not_not] at h2
      by_cases h3 : x.sign = 1
      ·exact .inl h3
      ·exact .inr (h2 h3)
theorem chk1_none {tl : List Cl} : ∀ {l : List Cl} {last : Int}, chk1 tl l last = none → ∀ x ∈ l, formC tl x = 0
 | [], _, _, x, hx => by simp at hx
 | y :: r, last, h, x, hx => by
  unfold chk1 at h
  split at h
  ·simp at h
  ·split at h
   ·simp at h
   ·rename_i h0
    rcases List.mem_cons.1 hx with rfl | hx
    ·exact Decidable.of_not_not h0
    ·exact chk1_none h x hx
theorem aok_of {l : List Cl} (h : ∀ x ∈ canonC l, formC (tabC l) x = 0) {c : Cl} (hc : c ∈ canonC l) : AOk (tabC l) c := by
 obtain ⟨h1, h2⟩ := form_ok (h c hc)
 refine ⟨h1, h2, fun x hx => ?_⟩
 unfold sidesOf
 cases hf : findT (tabC l) x.cell with
 | none => simp [zeroC]
 | some y => exact form_ok (h y (tabC_mem (findT_mem hf).1))
theorem check_spec (E : World) (g : PH) (s : Own) (v : Value) (l : List Cl) (hv : Cells g v l) (hf : Fits l) :
  Ctr Tryz.prog E 12 #[.agg #[v]] g s (fun r g' s' => r = .tuple #[vi (checkC l).1, vi (checkC l).2] ∧ g = g' ∧ s = s') := by
 have hfc := canonC_fits hf
 have hfl := hf.1
 obtain ⟨p, cp, hvf⟩ := hv.form
 subst hvf
 refine Ctr.of (args := [.agg #[.slice p l.length cp]]) func12 rfl ntmps12 (Nat.le_of_ble_eq_true rfl) ?_
 refine SC.seq (SC.region (SL.W (SO.box rfl) ?_))
 rintro _ _ _ ⟨b1, rfl, rfl, rfl⟩
 refine SL.A rfl (SL.A rfl (SL.nil (ST.thenN (SC.seq (SC.seq (SC.region (SL.U (SU.fieldAddr underlying27 rfl sizeOf25 rfl) (SL.K (SQ.load isAgg25 rfl (CellAt.own 0 rfl rfl)) (SL.U (SU.lenN underlying25 rfl) (SL.U (SU.gtr rfl rfl) (SL.nil (ST.thenN ?_))))))))))))
 refine SC.ifP rfl (fun hbig => ?_) (fun hbig => ?_)
 ·refine SC.seq (SC.region (SL.A rfl (SL.A rfl (SL.nil (ST.thenN (SC.ret (ST.thenR (ST.drop (s' := s) (.cons _ (.refl _)) ?_))))))))
  exact ST.ret2 (.inl rfl) results12 rfl rfl ⟨by unfold checkC; rw [if_pos hbig], rfl, rfl⟩
 ·refine SC.skip (ST.thenN (SC.seq (SC.region (SL.K (SQ.loadVarK 0 isAgg27 sizeOf27 rfl rfl rfl) (SL.W (SO.call call50 rfl (of_spec E g _ _ l hv hf)) ?_)))))
  rintro tv g1 _ ⟨rfl, hle1, ht⟩
  refine SL.A rfl (SL.nil (ST.thenN (SC.seq (SC.region (SL.K (SQ.loadVarK 0 isAgg27 sizeOf27 rfl rfl rfl) (SL.W (SO.call call30 rfl (canon_spec E g1 _ _ l (hv.mono hle1) hf)) ?_))))))
  rintro _ g2 _ ⟨rfl, hle2, u, rfl, rs, hrs, hall⟩
  obtain ⟨q, d, rfl⟩ := hrs.form
  refine SL.U (SU.field underlying27 rfl isAgg25 rfl rfl) (SL.A rfl (SL.A rfl (SL.nil (ST.thenN (SC.seq (SC.seq (SC.region (SL.M rfl (SL.U (SU.lenN underlying25 rfl) (SL.M rfl (SL.nil (ST.thenN (SC.block ?_)))))))))))))
  have hres : checkC l = (chk1 (tabC l) (canonC l) 0).getD ((chk2 (tabC l) (canonC l)).getD (0, 0)) := by unfold checkC; rw [if_neg hbig]
  have ht2 := ht.mono hle2
  have hlen := hall.length
  have hcl := hfc.1
  have hleg := hle1.trans hle2
  refine SC.loop (ι := Nat × Int) (fun i => [(4, tv), (5, vi i.2), (6, .slice q rs.length d), (22, .slice q rs.length d), (23, vi rs.length), (24, vi i.1)]) (fun _ => g2)
   (fun _ => pt b1 (.cells #[.slice p l.length cp] 27 (0, 0)) :: s) (fun i => i.1 ≤ rs.length ∧ chk1 (tabC l) (canonC l) 0 = chk1 (tabC l) ((canonC l).drop i.1) i.2) (fun i => rs.length - i.1) (0, 0)
   ⟨rfl, rfl, rfl, rfl, rfl, rfl, trivial⟩ rfl rfl ⟨Nat.zero_le _, by simp⟩ ?_
  rintro ⟨k, last⟩ ⟨hk, heq⟩
  dsimp only at hk heq ⊢
  refine SC.seq (SC.region (SL.U (SU.lss rfl rfl) (SL.nil (ST.thenN (SC.seq ?_)))))
  refine SC.ifP rfl (fun hlt => ?_) (fun hlt => ?_)
  ·have hkr : k < rs.length := oM
   have hkc : k < (canonC l).length := oM
   have hb1 := hrs.based oM
   have hcr := hall.get (List.getElem?_eq_getElem hkc) (List.getElem?_eq_getElem hkr)
   have hgx : rs[((k : Nat) : Int).toNat]? = some rs[k] := List.getElem?_eq_getElem hkr
   have hdrop : (canonC l).drop k = (canonC l)[k] :: (canonC l).drop (k + 1) := List.drop_eq_getElem_cons hkc
   have hxl := hfc.2 _ (List.getElem_mem hkc)
   generalize rs[k] = x at *
   generalize (canonC l)[k] = cx at *
   rw [hdrop] at heq
   obtain ⟨xi, xd, xv⟩ := x
   have hxi : xi = cx.id := hcr.1
   subst hxi
   refine SC.skip (ST.thenN (SC.seq (SC.block (SC.seq (SC.region (SL.U (SU.indexAddr underlying25 sizeOf51 rfl rfl hb1 oM sL) (SL.K (SQ.elemA isAgg51 sizeOf51 rfl hrs.rd hgx) (SL.W (SO.alloc zeroValue51) ?_))))))))
   rintro _ _ _ ⟨b8, rfl, rfl, rfl⟩
   refine SL.on (SO.storeAllK 0 sizeOf51 rfl rfl rfl rfl rfl (by exact ⟨rfl, rfl, rfl, trivial⟩)) ?_
   rintro _ _ _ ⟨rfl, rfl⟩
   refine SL.nil (ST.thenN (SC.seq (SC.seq (SC.region (SL.U (SU.fieldAddr underlying51 rfl sizeOf3 rfl) (SL.K (SQ.load isAgg3 rfl (CellAt.own 0 rfl rfl)) (SL.M rfl (SL.U (SU.leq rfl rfl) (SL.nil (ST.thenN ?_))))))))))
   refine SC.ifP rfl (fun hid => ?_) (fun hid => ?_)
   ·refine SC.seq (SC.region (SL.U (SU.fieldAddr underlying51 rfl sizeOf3 rfl) (SL.K (SQ.load isAgg3 rfl (CellAt.own 0 rfl rfl)) (SL.A rfl (SL.A rfl (SL.nil (ST.thenN (SC.ret (ST.thenR (ST.blockR (ST.thenR (ST.thenR (ST.blockR (ST.thenR ?_))))))))))))))
    refine ST.drop (s' := s) (.cons _ (.cons _ (.refl _))) (ST.less hleg ?_)
    have h1 : checkC l = (cx.id, 20) := by rw [hres, heq]; unfold chk1; rw [if_pos hid]; rfl
    exact ST.ret2 (.inl rfl) results12 rfl rfl ⟨by (rw [h1]; rfl), rfl, rfl⟩
   ·refine SC.skip (ST.thenN (SC.seq (SC.region (SL.U (SU.fieldAddr underlying51 rfl sizeOf3 rfl) (SL.K (SQ.load isAgg3 rfl (CellAt.own 0 rfl rfl)) (SL.A rfl (SL.nil (ST.thenN (SC.seq (SC.region (SL.M rfl (SL.K (SQ.loadVarK 0 isAgg51 sizeOf51 rfl rfl rfl) (SL.W (SO.call call51 rfl (form_spec E g2 _ tv (tabC l) cx _ ht2 hcr hxl)) ?_)))))))))))))
    rintro _ _ _ ⟨rfl, rfl, rfl⟩
    refine SL.A rfl (SL.nil (ST.thenN (SC.seq (SC.region (SL.M rfl (SL.U (SU.neq rfl rfl) (SL.nil (ST.thenN ?_))))))))
    refine SC.ifP rfl (fun he => ?_) (fun he => ?_)
    ·refine SC.seq (SC.region (SL.U (SU.fieldAddr underlying51 rfl sizeOf3 rfl) (SL.K (SQ.load isAgg3 rfl (CellAt.own 0 rfl rfl)) (SL.M rfl (SL.A rfl (SL.A rfl (SL.nil (ST.thenN (SC.ret (ST.blockR (ST.thenR (ST.thenR (ST.blockR (ST.thenR ?_))))))))))))))
     refine ST.drop (s' := s) (.cons _ (.cons _ (.refl _))) (ST.less hleg ?_)
     have h1 : checkC l = (cx.id, formC (tabC l) cx) := by rw [hres, heq]; unfold chk1; rw [if_neg hid, if_pos he]; rfl
     exact ST.ret2 (.inl rfl) results12 rfl rfl ⟨by (rw [h1]; rfl), rfl, rfl⟩
    ·refine SC.skip (ST.blockN (ST.thenN (SC.region (SL.U (SU.add rfl rfl oM) (SL.M rfl (SL.nil (ST.drop (s' := pt b1 (.cells #[.slice p l.length cp] 27 (0, 0)) :: s) (.cons _ (.refl _)) ?_)))))))
     exact ST.again (k + 1, cx.id) ⟨rfl, rfl, rfl, rfl, rfl, rfl, trivial⟩ rfl rfl ⟨lN, by rw [heq]; rw [chk1, if_neg hid, if_neg he]⟩ lN
  ·have hkk : (canonC l).drop k = [] := List.drop_of_length_le oM
   rw [hkk] at heq
   have hall0 := chk1_none heq
   refine SC.exit (ST.thenX (ST.thenX (ST.blockX (ST.thenN (SC.seq (SC.seq (SC.region (SL.M rfl (SL.U (SU.lenN underlying25 rfl) (SL.M rfl (SL.nil (ST.thenN (SC.block ?_)))))))))))))
   refine SC.loop (ι := Nat) (fun i => [(4, tv), (45, .slice q rs.length d), (46, vi rs.length), (47, vi i)]) (fun _ => g2)
    (fun _ => pt b1 (.cells #[.slice p l.length cp] 27 (0, 0)) :: s) (fun i => i ≤ rs.length ∧ chk2 (tabC l) (canonC l) = chk2 (tabC l) ((canonC l).drop i)) (fun i => rs.length - i) 0
    ⟨rfl, rfl, rfl, rfl, trivial⟩ rfl rfl ⟨Nat.zero_le _, by simp⟩ ?_
   rintro k ⟨hk, heq2⟩
   try dsimp only
   refine SC.seq (SC.region (SL.U (SU.lss rfl rfl) (SL.nil (ST.thenN (SC.seq ?_)))))
   refine SC.ifP rfl (fun hlt2 => ?_) (fun hlt2 => ?_)
   ·have hkr : k < rs.length := oM
    have hkc : k < (canonC l).length := oM
    have hb1 := hrs.based oM
    have hcr := hall.get (List.getElem?_eq_getElem hkc) (List.getElem?_eq_getElem hkr)
    have hgx : rs[((k : Nat) : Int).toNat]? = some rs[k] := List.getElem?_eq_getElem hkr
    have hdrop : (canonC l).drop k = (canonC l)[k] :: (canonC l).drop (k + 1) := List.drop_eq_getElem_cons hkc
    have hcm := List.getElem_mem hkc
    have haok := aok_of hall0 hcm
    generalize rs[k] = x at *
    generalize (canonC l)[k] = cx at *
    rw [hdrop] at heq2
    obtain ⟨xi, xd, xv⟩ := x
    have hxi : xi = cx.id := hcr.1
    have hxd : xd = cx.dim := hcr.2.1
    subst hxi hxd
    refine SC.skip (ST.thenN (SC.seq (SC.block (SC.seq (SC.region (SL.U (SU.indexAddr underlying25 sizeOf51 rfl rfl hb1 oM sL) (SL.K (SQ.elemA isAgg51 sizeOf51 rfl hrs.rd hgx) (SL.W (SO.alloc zeroValue51) ?_))))))))
    rintro _ _ _ ⟨b11, rfl, rfl, rfl⟩
    refine SL.on (SO.storeAllK 0 sizeOf51 rfl rfl rfl rfl rfl (by exact ⟨rfl, rfl, rfl, trivial⟩)) ?_
    rintro _ _ _ ⟨rfl, rfl⟩
    refine SL.nil (ST.thenN (SC.seq (SC.region (SL.U (SU.fieldAddr underlying51 rfl sizeOf3 rfl) (SL.K (SQ.load isAgg3 rfl (CellAt.own 0 rfl rfl)) (SL.U (SU.gtr rfl rfl) (SL.nil (ST.thenN ?_))))))))
    refine SC.ifP rfl (fun hd1 => ?_) (fun hd1 => ?_)
    ·refine SC.seq (SC.region (SL.M rfl (SL.K (SQ.loadVarK 0 isAgg51 sizeOf51 rfl rfl rfl) (SL.W (SO.call call52 rfl (around_spec E g2 _ tv (tabC l) cx _ ht2 hcr haok)) ?_))))
     rintro _ _ _ ⟨rfl, rfl, rfl⟩
     refine SL.A rfl (SL.nil (ST.thenN (SC.seq (SC.region (SL.M rfl (SL.U (SU.neq rfl rfl) (SL.nil (ST.thenN ?_))))))))
     refine SC.ifP rfl (fun he => ?_) (fun he => ?_)
     ·refine SC.seq (SC.region (SL.U (SU.fieldAddr underlying51 rfl sizeOf3 rfl) (SL.K (SQ.load isAgg3 rfl (CellAt.own 0 rfl rfl)) (SL.M rfl (SL.A rfl (SL.A rfl (SL.nil (ST.thenN (SC.ret (ST.blockR (ST.thenR (ST.thenR (ST.blockR (ST.thenR ?_))))))))))))))
      refine ST.drop (s' := s) (.cons _ (.cons _ (.refl _))) (ST.less hleg ?_)
      have h1 : checkC l = (cx.id, aroundC (tabC l) cx) := by rw [hres, heq, heq2]; unfold chk2; rw [if_pos ⟨hd1, he⟩]; rfl
      exact ST.ret2 (.inl rfl) results12 rfl rfl ⟨by (rw [h1]; rfl), rfl, rfl⟩
     ·refine SC.skip (ST.blockN (ST.thenN (SC.region (SL.U (SU.add rfl rfl oM) (SL.M rfl (SL.nil (ST.drop (s' := pt b1 (.cells #[.slice p l.length cp] 27 (0, 0)) :: s) (.cons _ (.refl _)) ?_)))))))
      exact ST.again (k + 1) ⟨rfl, rfl, rfl, rfl, trivial⟩ rfl rfl ⟨oM, by rw [heq2]; rw [chk2, if_neg (fun h => he h.2)]⟩ oM
    ·refine SC.skip (ST.blockN (ST.thenN (SC.region (SL.U (SU.add rfl rfl oM) (SL.M rfl (SL.nil (ST.drop (s' := pt b1 (.cells #[.slice p l.length cp] 27 (0, 0)) :: s) (.cons _ (.refl _)) ?_)))))))
     exact ST.again (k + 1) ⟨rfl, rfl, rfl, rfl, trivial⟩ rfl rfl ⟨oM, by rw [heq2]; rw [chk2, if_neg (fun h => hd1 h.1)]⟩ oM
   ·have hkk2 : (canonC l).drop k = [] := List.drop_of_length_le oM
    rw [hkk2] at heq2
    refine SC.exit (ST.thenX (ST.thenX (ST.blockX (ST.thenN (SC.seq (SC.region (SL.A rfl (SL.A rfl (SL.nil (ST.thenN (SC.ret ?_)))))))))))
    refine ST.drop (s' := s) (.cons _ (.refl _)) (ST.less hleg ?_)
    have h1 : checkC l = (0, 0) := by rw [hres, heq, heq2]; rfl
    exact ST.ret2 (.inl rfl) results12 rfl rfl ⟨by (rw [h1]; done), rfl, rfl⟩
theorem right_spec (E : World) (g : PH) (s : Own) (v : Value) (l : List Cl) (hv : Cells g v l) (hf : Fits l) :
  Ctr Tryz.prog E 57 #[.agg #[v]] g s (fun r g' s' => r = vb (decide ((checkC l).2 = 0)) ∧ g = g' ∧ s = s') := by
 refine Ctr.of (args := [.agg #[v]]) func57 rfl ntmps57 (Nat.le_of_ble_eq_true rfl) ?_
 refine SC.seq (SC.region (SL.W (SO.box rfl) ?_))
 rintro _ _ _ ⟨b1, rfl, rfl, rfl⟩
 refine SL.A rfl (SL.nil (ST.thenN (SC.seq (SC.region (SL.K (SQ.loadVarK 0 isAgg27 sizeOf27 rfl rfl rfl) (SL.W (SO.call call12 rfl (check_spec E g _ v l hv hf)) ?_))))))
 rintro _ _ _ ⟨rfl, rfl, rfl⟩
 refine SL.M rfl (SL.U (SU.extract rfl rfl) (SL.U (SU.extract rfl rfl) (SL.A rfl (SL.A rfl (SL.nil (ST.thenN (SC.seq (SC.region (SL.M rfl (SL.U (SU.eql rfl rfl) (SL.A rfl (SL.nil (ST.thenN (SC.ret (ST.drop (s' := s) (.cons _ (.refl _)) ?_)))))))))))))))
 exact ST.ret1 (.inl rfl) results57 rfl ⟨rfl, rfl, rfl⟩
end Go.Proofs.YtkdibcicncjpdaaGreat
namespace Go.Sy
open Go
section
variable (P : Program) (N : Nat) (E : World) (ops : Array Oper) (Q : Exit → Act → World → Prop) (g0 : PH) (s0 : Own) (tail : List Nat)
def SX (L : Array Bool) (n : Nat) (f : Fr) (g : PH) (s : Own) : Prop :=
 ∀ a w, Region.noSelect ops = true → Closed ops L → Ok N f a → At E g s w → (began tail L = false → At E g0 s0 w) → wpAnyT P ops Q (At E g0 s0) tail n L a w
def SB (L : Array Bool) (n i : Nat) (f : Fr) (g : PH) (s : Own) : Prop :=
 ∀ a w, Region.noSelect ops = true → Closed ops L → i ∈ Region.ready .any ops L → Ok N f a → At E g s w → (began tail L = false → At E g0 s0 w) →
  wpOp P ops Q i (fun a' w' => (began tail (L.setIfInBounds i true) = false → At E g0 s0 w') ∧ wpAnyT P ops Q (At E g0 s0) tail n (L.setIfInBounds i true) a' w') a w
end
def readOk (ops : Array Oper) (tail : List Nat) (L : Array Bool) (i : Nat) : Bool := (Region.ready .any ops L).contains i && Region.free .any ops L i && tailWaits ops tail i && !tail.contains i && !began tail L
def pureOk (ops : Array Oper) (tail : List Nat) (L : Array Bool) (i : Nat) : Bool := (Region.ready .any ops L).contains i && Region.free .any ops L i && !tail.contains i
section
variable {P : Program} {N : Nat} {E : World} {ops : Array Oper} {Q : Exit → Act → World → Prop} {g0 : PH} {s0 : Own} {tail : List Nat} {f : Fr} {g : PH} {s s' : Own} {L : Array Bool} {n : Nat}
theorem SC.drawX {id : Nat} (tail : List Nat) (hm : P.follows .mixedOrders = true) (hok : Region.noSelect ops = true) (h : SX P N E ops Q g s tail (Array.replicate ops.size false) ops.size f g s) : SC P N E (.region id ops true) Q f g s := by
 intro a w ha hw
 refine wp_region_any hm (wpAny_of_T _ _ _ _ (S := At E g s) (tail := tail) ?_)
 exact h a { w with drawn := w.drawn + 1 } hok (closed_none _) ha (hw.drew _ (Nat.le_succ _)) (fun _ => hw.drew _ (Nat.le_succ _))
theorem SX.nil (hr : Region.ready .any ops L = []) (h : ST N E Q .normal f g s) : SX P N E ops Q g0 s0 tail L 0 f g s := fun a w _ _ ha hw _ => ⟨hr, h a w ha hw⟩
theorem SX.q [hQ : Quiet Q] {i d : Nat} {op : Op} {ty : TypeId} {pos : String} {af : Array Edge} {v : Value} (hi : ops[i]? = some ⟨some d, op, ty, pos, af, none⟩) (hok : readOk ops tail L i = true)
  (hq : SQ P N E ⟨some d, op, ty, pos, af, none⟩ f g0 s0 v) (hd : d < N)
  (h : SX P N E ops Q g0 s0 tail (L.setIfInBounds i true) n ((d, v) :: f) g s) : SX P N E ops Q g0 s0 tail L (n + 1) f g s := by
 intro a w hs hcl ha hw hb
 simp only [readOk, Bool.and_eq_true, Bool.not_eq_true'] at hok
 obtain ⟨⟨⟨⟨h1, h2⟩, h3⟩, h4⟩, h5⟩ := hok
 refine wpAnyT_first hi (Region.noSelect_spec hs) (fun c a w hh => hQ.out c _ _ w (putSome_defers a d v) hh) (by simpa using h4) (tailWaits_spec h3) _ L a w hcl (Region.free_spec hi h2) (by simpa using h1)
  (.inl ⟨Gd.none rfl a ha, fun w' hw' => hq a w' ha hw'⟩) h5 (hb h5) ?_
 exact h _ w hs (closed_set hcl (by simpa using h1)) (ha.put hd v) hw (fun _ => hb h5)
theorem SX.u [hQ : Quiet Q] {i d : Nat} {op : Op} {ty : TypeId} {pos : String} {af : Array Edge} {v : Value} (hi : ops[i]? = some ⟨some d, op, ty, pos, af, none⟩) (hok : pureOk ops tail L i = true)
  (hq : SU P N ⟨some d, op, ty, pos, af, none⟩ f v) (hd : d < N)
  (h : SX P N E ops Q g0 s0 tail (L.setIfInBounds i true) n ((d, v) :: f) g s) : SX P N E ops Q g0 s0 tail L (n + 1) f g s := by
 intro a w hs hcl ha hw hb
 simp only [pureOk, Bool.and_eq_true, Bool.not_eq_true'] at hok
 obtain ⟨⟨h1, h2⟩, h4⟩ := hok
 have hit : i ∉ tail := by simpa using h4
 refine wpAnyT_pure hi (Region.noSelect_spec hs) (fun c a w hh => hQ.out c _ _ w (putSome_defers a d v) hh) hit _ L a w (Region.free_spec hi h2) (by simpa using h1)
  (.inl ⟨Gd.none rfl a ha, fun w' => hq a w' ha⟩) hb ?_
 exact h _ w hs (closed_set hcl (by simpa using h1)) (ha.put hd v) hw (fun hb' => hb (by rwa [began_set hit] at hb'))
theorem SX.br1 (i : Nat) (hr : Region.ready .any ops L = [i]) (h : SB P N E ops Q g0 s0 tail L n i f g s) : SX P N E ops Q g0 s0 tail L (n + 1) f g s := by
 intro a w hs hcl ha hw hb
 refine ⟨fun h0 => (by rw [hr] at h0; cases h0), fun k hk => ?_⟩
 have hk' := hk
 rw [hr] at hk'
 simp only [List.mem_singleton] at hk'
 subst hk'
 exact h a w hs hcl hk ha hw hb
theorem SX.br2 (i j : Nat) (hr : Region.ready .any ops L = [i, j]) (h : SB P N E ops Q g0 s0 tail L n i f g s) (h2 : SB P N E ops Q g0 s0 tail L n j f g s) : SX P N E ops Q g0 s0 tail L (n + 1) f g s := by
 intro a w hs hcl ha hw hb
 refine ⟨fun h0 => (by rw [hr] at h0; cases h0), fun k hk => ?_⟩
 have hk' := hk
 rw [hr] at hk'
 simp only [List.mem_cons, List.mem_singleton, List.not_mem_nil, or_false] at hk'
 rcases hk' with rfl | rfl
 ·exact h a w hs hcl hk ha hw hb
 ·exact h2 a w hs hcl hk ha hw hb
theorem SX.br3 (i j m : Nat) (hr : Region.ready .any ops L = [i, j, m]) (h : SB P N E ops Q g0 s0 tail L n i f g s) (h2 : SB P N E ops Q g0 s0 tail L n j f g s) (h3 : SB P N E ops Q g0 s0 tail L n m f g s) : SX P N E ops Q g0 s0 tail L (n + 1) f g s := by
 intro a w hs hcl ha hw hb
 refine ⟨fun h0 => (by rw [hr] at h0; cases h0), fun k hk => ?_⟩
 have hk' := hk
 rw [hr] at hk'
 simp only [List.mem_cons, List.mem_singleton, List.not_mem_nil, or_false] at hk'
 rcases hk' with rfl | rfl | rfl
 ·exact h a w hs hcl hk ha hw hb
 ·exact h2 a w hs hcl hk ha hw hb
 ·exact h3 a w hs hcl hk ha hw hb
theorem SB.step {i : Nat} {o : Oper} {K : Value → PH → Own → Prop} (hi : ops[i]? = some o) (hg : Gd N ops f o true) (ho : SO P N E o f g s K)
  (hk : i ∈ tail ∨ ∀ v g' s', K v g' s' → Le g0 g' ∧ s0.Sublist s')
  (h : ∀ v g' s' a, K v g' s' → Ok N f a → ∃ f', Ok N f' (a.put o.dst v) ∧ SX P N E ops Q g0 s0 tail (L.setIfInBounds i true) n f' g' s') : SB P N E ops Q g0 s0 tail L n i f g s := by
 intro a w hs hcl hr ha hw hb
 unfold wpOp
 simp only [hi]
 rw [if_pos (hg a ha)]
 refine .inl (ho a w ha hw Q _ fun v g' s' w' hK hw' => ?_)
 have hb' : began tail (L.setIfInBounds i true) = false → At E g0 s0 w' := by
  intro h0
  rcases hk with hk | hk
  ·exfalso
   have hlt : i < L.size := by
    rcases Nat.lt_or_ge i L.size with h' | h'
    ·exact h'
    ·have := (mem_ready.1 hr).1
     simp [Array.getElem?_eq_none h'] at this
   unfold began at h0
   rw [List.any_eq_false] at h0
   have := h0 i hk
   simp [hlt] at this
  ·obtain ⟨h1, h2⟩ := hk v g' s' hK
   exact (hw'.less h1).sublist h2
 obtain ⟨f', hf', hn⟩ := h v g' s' a hK ha
 exact ⟨hb', hn _ w' hs (closed_set hcl hr) hf' hw' hb'⟩
theorem SB.o {i d : Nat} {op : Op} {ty : TypeId} {pos : String} {af : Array Edge} {K : Value → PH → Own → Prop} (hi : ops[i]? = some ⟨some d, op, ty, pos, af, none⟩)
  (ho : SO P N E ⟨some d, op, ty, pos, af, none⟩ f g s K) (hd : d < N) (hk : i ∈ tail ∨ ∀ v g' s', K v g' s' → Le g0 g' ∧ s0.Sublist s')
  (h : ∀ v g' s', K v g' s' → SX P N E ops Q g0 s0 tail (L.setIfInBounds i true) n ((d, v) :: f) g' s') : SB P N E ops Q g0 s0 tail L n i f g s :=
 SB.step hi (Gd.none rfl) ho hk fun v g' s' _ hK ha => ⟨_, ha.put hd v, h v g' s' hK⟩
theorem SB.on {i : Nat} {op : Op} {ty : TypeId} {pos : String} {af : Array Edge} {K : Value → PH → Own → Prop} (hi : ops[i]? = some ⟨none, op, ty, pos, af, none⟩)
  (ho : SO P N E ⟨none, op, ty, pos, af, none⟩ f g s K) (hk : i ∈ tail ∨ ∀ v g' s', K v g' s' → Le g0 g' ∧ s0.Sublist s')
  (h : ∀ v g' s', K v g' s' → SX P N E ops Q g0 s0 tail (L.setIfInBounds i true) n f g' s') : SB P N E ops Q g0 s0 tail L n i f g s :=
 SB.step hi (Gd.none rfl) ho hk fun v g' s' _ hK ha => ⟨f, ha, h v g' s' hK⟩
end
end Go.Sy
namespace Go.Proofs.YtkdibcicncjpdaaGreat
open _root_.Go.Proofs.Tryz _root_.Go.Proofs.YtkdibcicncjpdaaGreat.Tryz
open Go Go.Sy Go.Pl Go.Proofs
set_option maxRecDepth 100000
theorem isNaN2_spec (E : World) (g : PH) (s : Own) (a : Int) : Ctr Tryz.prog E 95 #[vi a] g s (fun r g' s' => r = vb false ∧ g = g' ∧ s = s') := by
 refine Ctr.of (args := [vi a]) func95 rfl ntmps95 (Nat.le_of_ble_eq_true rfl) ?_
 refine SC.seq (SC.region (SL.A rfl (SL.nil (ST.thenN (SC.seq (SC.region (SL.M rfl (SL.M rfl (SL.U (SU.neq rfl rfl) (SL.A rfl (SL.nil (ST.thenN (SC.ret ?_)))))))))))))
 exact ST.ret1 (.inl rfl) results95 rfl ⟨by simp, rfl, rfl⟩
theorem less_spec (E : World) (g : PH) (s : Own) (a b : Int) : Ctr Tryz.prog E 94 #[vi a, vi b] g s (fun r g' s' => r = vb (decide (a < b)) ∧ g = g' ∧ s = s') := by
 refine Ctr.of (args := [vi a, vi b]) func94 rfl ntmps94 (Nat.le_of_ble_eq_true rfl) ?_
 refine SC.seq (SC.region (SL.A rfl (SL.nil (ST.thenN (SC.seq (SC.region (SL.M rfl (SL.W (SO.call call130 rfl (isNaN_spec E g s a)) ?_))))))))
 rintro _ _ _ ⟨rfl, rfl, rfl⟩
 refine SL.M rfl ?_
 first | refine SL.gu (Gd.onT rfl rfl rfl dC) (SU.move rfl) dC ?_ | refine SL.off (Gd.onF rfl rfl rfl dC) dC ?_ | refine SL.off (Gd.off rfl rfl rfl dC) dC ?_
 first | (refine SL.go (Gd.onT rfl rfl rfl dC) (SO.call call130 rfl (isNaN_spec E g s b)) dC ?_; rintro _ _ _ ⟨rfl, rfl, rfl⟩) | refine SL.off (Gd.onF rfl rfl rfl dC) dC ?_ | refine SL.off (Gd.off rfl rfl rfl dC) dC ?_
 first | refine SL.gu (Gd.onT rfl rfl rfl dC) ((by first | exact SU.notP rfl | exact SU.not rfl)) dC ?_ | refine SL.off (Gd.onF rfl rfl rfl dC) dC ?_ | refine SL.off (Gd.off rfl rfl rfl dC) dC ?_
 refine SL.U (SU.pickF rfl rfl) (SL.M rfl ?_)
 first | refine SL.gu (Gd.onT rfl rfl rfl dC) (SU.move rfl) dC ?_ | refine SL.off (Gd.onF rfl rfl rfl dC) dC ?_ | refine SL.off (Gd.off rfl rfl rfl dC) dC ?_
 first | refine SL.gu (Gd.onT rfl rfl rfl dC) (SU.move rfl) dC ?_ | refine SL.off (Gd.onF rfl rfl rfl dC) dC ?_ | refine SL.off (Gd.off rfl rfl rfl dC) dC ?_
 first | refine SL.gu (Gd.onT rfl rfl rfl dC) (SU.lss rfl rfl) dC ?_ | refine SL.off (Gd.onF rfl rfl rfl dC) dC ?_ | refine SL.off (Gd.off rfl rfl rfl dC) dC ?_
 refine SL.U (SU.pickF rfl rfl) (SL.A rfl (SL.nil (ST.thenN (SC.ret ?_))))
 exact ST.ret1 (.inl rfl) results94 rfl ⟨rfl, rfl, rfl⟩
def lbI (l : List Int) (x : Int) : Nat := (l.filter fun y => decide (y < x)).length
theorem lb_eq {l : List Int} {x : Int} {i : Nat} (hi : i ≤ l.length) (h1 : ∀ k (h : k < l.length), k < i → l[k] < x) (h2 : ∀ k (h : k < l.length), i ≤ k → x ≤ l[k]) : lbI l x = i := by
 unfold lbI
 have e : l = l.take i ++ l.drop i := (List.take_append_drop i l).symm
 rw [e, List.filter_append]
 have f1 : (l.take i).filter (fun y => decide (y < x)) = l.take i := by
  rw [List.filter_eq_self]
  intro y hy
  obtain ⟨k, hk, rfl⟩ := List.getElem_of_mem hy
  simp at hk
  simpa using h1 k oM oM
 have f2 : (l.drop i).filter (fun y => decide (y < x)) = [] := by
  rw [List.filter_eq_nil_iff]
  intro y hy
  obtain ⟨k, hk, rfl⟩ := List.getElem_of_mem hy
  simp at hk
  have := h2 (i + k) oM oM
  simp only [List.getElem_drop]
  simp
  omega
 rw [f1, f2]
 simp
 omega
theorem found_eq {l : List Int} {x : Int} {i : Nat} (hs : l.Pairwise (· ≤ ·)) (h1 : ∀ k (h : k < l.length), k < i → l[k] < x) (h2 : ∀ k (h : k < l.length), i ≤ k → x ≤ l[k]) (hi : i < l.length) : decide (l[i] = x) = l.contains x := by
 rw [Bool.eq_iff_iff]
 simp
 constructor
 ·intro e; rw [← e]; exact List.getElem_mem hi
 ·intro hm
  obtain ⟨k, hk, e⟩ := List.getElem_of_mem hm
  have hki : i ≤ k := by
   rcases Nat.lt_or_ge k i with h | h
   ·have := h1 k hk h; omega
   ·exact h
  have h3 := h2 i hi (Nat.le_refl _)
  rcases Nat.eq_or_lt_of_le hki with rfl | h
  ·exact e
  ·have := List.pairwise_iff_getElem.1 hs i k hi hk h
   omega
theorem notFound {l : List Int} {x : Int} {i : Nat} (h1 : ∀ k (h : k < l.length), k < i → l[k] < x) (hi : ¬ i < l.length) : l.contains x = false := by
 rw [Bool.eq_false_iff]
 intro hm
 simp at hm
 obtain ⟨k, hk, e⟩ := List.getElem_of_mem hm
 have := h1 k hk oM
 omega
theorem binSearch_spec (E : World) (g : PH) (s : Own) (v : Value) (l : List Int) (x : Int) (hv : Ints g v l) (hl : l.length < 1099511627776) (hs : l.Pairwise (· ≤ ·)) :
  Ctr Tryz.prog E 59 #[v, vi x] g s (fun r g' s' => r = .tuple #[vi (lbI l x), vb (l.contains x)] ∧ g = g' ∧ s = s') := by
 obtain ⟨p, c, rfl⟩ := SlA.form hv
 refine Ctr.of (args := [.slice p l.length c, vi x]) func59 rfl ntmps59 (Nat.le_of_ble_eq_true rfl) ?_
 refine SC.seq (SC.region (SL.A rfl (SL.A rfl (SL.nil (ST.thenN (SC.seq (SC.region (SL.M rfl (SL.U (SU.lenN underlying45 rfl) (SL.A rfl (SL.nil (ST.thenN (SC.seq (SC.region (SL.M rfl (SL.A rfl (SL.A rfl (SL.nil (ST.thenN (SC.seq (SC.block ?_)))))))))))))))))))))
 refine SC.loop (ι := Nat × Nat) (fun q => [(0, .slice p l.length c), (1, vi x), (6, vi l.length), (7, vi q.1), (8, vi q.2)]) (fun _ => g) (fun _ => s)
  (fun q => q.1 ≤ q.2 ∧ q.2 ≤ l.length ∧ (∀ k (h : k < l.length), k < q.1 → l[k] < x) ∧ ∀ k (h : k < l.length), q.2 ≤ k → x ≤ l[k]) (fun q => q.2 - q.1) (0, l.length)
  ⟨rfl, rfl, rfl, rfl, rfl, trivial⟩ rfl rfl ⟨Nat.zero_le _, Nat.le_refl _, fun k _ h => absurd h oM, fun k h1 h2 => absurd h1 (by dsimp only at h2; omega)⟩ ?_
 rintro ⟨i, j⟩ ⟨hij, hj, hlo, hhi⟩
 dsimp only at hij hj hlo hhi ⊢
 refine SC.seq (SC.seq (SC.region (SL.M rfl (SL.M rfl (SL.U (SU.lss rfl rfl) (SL.nil (ST.thenN ?_)))))))
 refine SC.ifP rfl (fun hlt => ?_) (fun hlt => ?_)
 ·have hb1 := SlA.based hv oM
  have hmid : ((i : Int) + (j : Int)) / 2 = (((i + j) / 2 : Nat) : Int) := oM
  have hml : (i + j) / 2 < l.length := oM
  have hmx : l[((((i + j) / 2 : Nat) : Int)).toNat]? = some l[(i + j) / 2] := List.getElem?_eq_getElem hml
  refine SC.skip (ST.thenN (SC.block (SC.seq (SC.region (SL.M rfl (SL.M rfl (SL.U (SU.add rfl rfl oM) (SL.U (SU.convert underlying3 underlying113 rfl) (SL.U (SU.shr rfl rfl dC) (SL.U (SU.eq (SU.convert underlying113 underlying3 rfl) (congrArg vi ((half_int _ oM oM).trans hmid))) (SL.A rfl (SL.nil (ST.thenN (SC.seq (SC.region (SL.M rfl (SL.M rfl (SL.U (SU.indexAddr underlying45 sizeOf3 rfl rfl hb1 oM sL) (SL.K (SQ.elem1 isAgg3 rfl (SlA.rd hv) hmx rfl) (SL.M rfl (SL.W (SO.call call94 rfl (less_spec E g _ l[(i + j) / 2] x)) ?_)))))))))))))))))))))
  rintro _ _ _ ⟨rfl, rfl, rfl⟩
  refine SL.nil (ST.thenN ?_)
  refine SC.ifP rfl (fun hc => ?_) (fun hc => ?_)
  ·refine SC.region (SL.M rfl (SL.U (SU.add rfl rfl oM) (SL.A rfl (SL.nil (ST.blockN ?_)))))
   refine ST.again ((i + j) / 2 + 1, j) ⟨rfl, rfl, rfl, rfl, rfl, trivial⟩ rfl rfl ⟨lN, hj, fun k hk h => ?_, hhi⟩ lN
   dsimp only at h
   rcases Nat.eq_or_lt_of_le (show k ≤ (i + j) / 2 by omega) with rfl | h'
   ·exact hc
   ·have := List.pairwise_iff_getElem.1 hs k ((i + j) / 2) hk hml h'
    omega
  ·refine SC.region (SL.M rfl (SL.A rfl (SL.nil (ST.blockN ?_))))
   refine ST.again (i, (i + j) / 2) ⟨rfl, rfl, rfl, rfl, rfl, trivial⟩ rfl rfl ⟨lN, lN, hlo, fun k hk h => ?_⟩ lN
   dsimp only at h
   rcases Nat.eq_or_lt_of_le (show (i + j) / 2 ≤ k by omega) with h' | h'
   ·subst h'; omega
   ·have := List.pairwise_iff_getElem.1 hs ((i + j) / 2) k hml hk h'
    omega
 ·have hie : i = j := oM
  subst hie
  have hlb := lb_eq hj hlo hhi
  have hx0 := fun h => SlA.based hv h
  have hget : (i : Int) < (l.length : Int) → l[((i : Nat) : Int).toNat]? = some (l.getD i 0) := fun h => by
   have h2 : i < l.length := oM
   rw [show ((i : Nat) : Int).toNat = i by omega, List.getElem?_eq_getElem h2, List.getD_eq_getElem?_getD, List.getElem?_eq_getElem h2]; rfl
  have hfnd : (i : Int) < (l.length : Int) → decide (l.getD i 0 = x) = l.contains x := fun h => by
   have h2 : i < l.length := oM
   rw [← found_eq hs hlo hhi h2, List.getD_eq_getElem?_getD, List.getElem?_eq_getElem h2]; rfl
  have hnot : ¬ (i : Int) < (l.length : Int) → l.contains x = false := fun h => notFound hlo oM
  generalize l.getD i 0 = y at hget hfnd
  refine SC.exit (ST.thenX (ST.thenX (ST.blockX (ST.thenN (SC.seq (SC.region (SL.M rfl (SL.M rfl (SL.M rfl (SL.U (SU.lss rfl rfl) (SL.M rfl ?_)))))))))))
  refine SL.split ?_ ?_
  ·intro h35
   refine SL.Y rfl rfl rfl (SU.move rfl) (SL.Y rfl rfl rfl (SU.move rfl) (SL.Y rfl rfl rfl (SU.indexAddr underlying45 sizeOf3 rfl rfl (hx0 oM) oM sL) (SL.gq (Gd.onT rfl rfl rfl dC) (SQ.elem1 isAgg3 rfl (SlA.rd hv) (hget h35) rfl) dC (SL.Y rfl rfl rfl (SU.move rfl) (SL.Y rfl rfl rfl (SU.eql rfl rfl) (SL.Y rfl rfl rfl (SU.move rfl) ?_))))))
   refine SL.split ?_ ?_
   ·intro h42
    refine SL.Z rfl rfl rfl (SL.Z rfl rfl rfl (SL.Z rfl rfl rfl (SL.Z rfl rfl rfl (SL.Z rfl rfl rfl (SL.Z rfl rfl rfl (SL.off (Gd.off rfl rfl rfl dC) dC (SL.off (Gd.off rfl rfl rfl dC) dC (SL.Z rfl rfl rfl (SL.Y rfl rfl rfl (SU.pickT rfl rfl) (SL.U (SU.pickT rfl rfl) (SL.A rfl (SL.A rfl (SL.nil (ST.thenN (SC.ret ?_)))))))))))))))
    first | exact ST.ret2 (.inl rfl) results59 rfl rfl ⟨by rw [hlb, hnot h35], rfl, rfl⟩ | exact ST.ret2 (.inl rfl) results59 rfl rfl ⟨by rw [hlb, ← hfnd h35, decide_eq_true h42], rfl, rfl⟩ | exact ST.ret2 (.inl rfl) results59 rfl rfl ⟨by rw [hlb, ← hfnd h35, decide_eq_false h42], rfl, rfl⟩
   ·intro h42
    refine SL.Y rfl rfl rfl (SU.move rfl) (SL.Y rfl rfl rfl (SU.move rfl) (SL.Y rfl rfl rfl (SU.indexAddr underlying45 sizeOf3 rfl rfl (hx0 oM) oM sL) (SL.gq (Gd.onT rfl rfl rfl dC) (SQ.elem1 isAgg3 rfl (SlA.rd hv) (hget h35) rfl) dC (SL.go (Gd.onT rfl rfl rfl dC) (SO.call call95 rfl (isNaN2_spec E g s _)) dC ?_))))
    rintro _ _ _ ⟨rfl, rfl, rfl⟩
    refine SL.Y rfl rfl rfl (SU.move rfl) (SL.Z rfl rfl rfl (SL.Z rfl rfl rfl (SL.Y rfl rfl rfl (SU.pickF rfl rfl) (SL.Y rfl rfl rfl (SU.pickF rfl rfl) (SL.U (SU.pickT rfl rfl) (SL.A rfl (SL.A rfl (SL.nil (ST.thenN (SC.ret ?_))))))))))
    first | exact ST.ret2 (.inl rfl) results59 rfl rfl ⟨by rw [hlb, hnot h35], rfl, rfl⟩ | exact ST.ret2 (.inl rfl) results59 rfl rfl ⟨by rw [hlb, ← hfnd h35, decide_eq_true h42], rfl, rfl⟩ | exact ST.ret2 (.inl rfl) results59 rfl rfl ⟨by rw [hlb, ← hfnd h35, decide_eq_false h42], rfl, rfl⟩
  ·intro h35
   refine SL.Z rfl rfl rfl (SL.Z rfl rfl rfl (SL.Z rfl rfl rfl (SL.Z rfl rfl rfl (SL.Z rfl rfl rfl (SL.Z rfl rfl rfl (SL.Z rfl rfl rfl (SL.off (Gd.off rfl rfl rfl dC) dC (SL.off (Gd.off rfl rfl rfl dC) dC (SL.off (Gd.off rfl rfl rfl dC) dC (SL.off (Gd.off rfl rfl rfl dC) dC (SL.off (Gd.off rfl rfl rfl dC) dC (SL.off (Gd.off rfl rfl rfl dC) dC (SL.off (Gd.off rfl rfl rfl dC) dC (SL.off (Gd.off rfl rfl rfl dC) dC (SL.off (Gd.off rfl rfl rfl dC) dC (SL.Z rfl rfl rfl (SL.U (SU.pickF rfl rfl) (SL.A rfl (SL.A rfl (SL.nil (ST.thenN (SC.ret ?_))))))))))))))))))))))
   first | exact ST.ret2 (.inl rfl) results59 rfl rfl ⟨by rw [hlb, hnot h35], rfl, rfl⟩ | exact ST.ret2 (.inl rfl) results59 rfl rfl ⟨by rw [hlb, ← hfnd h35, decide_eq_true h42], rfl, rfl⟩ | exact ST.ret2 (.inl rfl) results59 rfl rfl ⟨by rw [hlb, ← hfnd h35, decide_eq_false h42], rfl, rfl⟩
def signC (n : Int) : Int := 1 - 2 * (n % 2)
theorem and_one (n : Int) : IntKind.i64.wrap ((BitVec.ofInt IntKind.i64.bits n &&& BitVec.ofInt IntKind.i64.bits 1).toNat : Int) = n % 2 := by
 have h1 : (BitVec.ofInt 64 n &&& BitVec.ofInt 64 1).toNat = (n % 2).toNat := by
  rw [BitVec.toNat_and, show (BitVec.ofInt 64 1).toNat = 1 from rfl, Nat.and_one_is_mod, BitVec.toNat_ofInt]
  omega
 show IntKind.i64.wrap ((BitVec.ofInt 64 n &&& BitVec.ofInt 64 1).toNat : Int) = n % 2
 rw [h1, IntWalk.i64_in _ oM]
 omega
theorem sign_spec (E : World) (g : PH) (s : Own) (n : Int) : Ctr Tryz.prog E 49 #[vi n] g s (fun r g' s' => r = vi (signC n) ∧ g = g' ∧ s = s') := by
 refine Ctr.of (args := [vi n]) func49 rfl ntmps49 (Nat.le_of_ble_eq_true rfl) ?_
 refine SC.seq (SC.region (SL.A rfl (SL.nil (ST.thenN (SC.seq (SC.region (SL.M rfl (SL.U (SU.eq (SU.and rfl rfl) (congrArg vi (and_one n))) (SL.U (SU.mul rfl rfl oM) (SL.U (SU.sub rfl rfl oM) (SL.A rfl (SL.nil (ST.thenN (SC.ret ?_))))))))))))))
 exact ST.ret1 (.inl rfl) results49 rfl ⟨rfl, rfl, rfl⟩
theorem foldl_sub (l : List Cl) : ∀ acc : List Cl, ∃ r, l.foldl addC acc = acc ++ r ∧ r.Sublist l := by
 induction l with
 | nil => intro acc; exact ⟨[], by simp, .refl _⟩
 | cons c t ih =>
  intro acc
  simp only [List.foldl_cons]
  obtain ⟨r, h1, h2⟩ := ih (addC acc c)
  unfold addC at h1
  unfold addC
  split at h1
  ·rename_i hc
   rw [if_pos hc]
   exact ⟨r, h1, h2.cons _⟩
  ·rename_i hc
   rw [if_neg hc]
   exact ⟨c :: r, by rw [h1]; simp, h2.cons_cons _⟩
theorem tabC_sub (l : List Cl) : (tabC l).Sublist (canonC l) := by
 obtain ⟨r, h1, h2⟩ := foldl_sub (canonC l) []
 unfold tabC
 rw [h1]
 simpa using h2
theorem canonC_ids (l : List Cl) : (canonC l).map Cl.id = (sortBy Cl.id l).map Cl.id := by
 unfold canonC
 rw [List.map_map]
 rfl
theorem canonC_sorted (l : List Cl) : ((canonC l).map Cl.id).Pairwise (· ≤ ·) := by
 rw [canonC_ids, List.pairwise_map]
 exact sortBy_srt l
theorem tabC_sorted (l : List Cl) : ((tabC l).map Cl.id).Pairwise (· ≤ ·) := (canonC_sorted l).sublist ((tabC_sub l).map _)
def prodId (tl ul : List Cl) (x y : Int) : Int := lbI (tl.map Cl.id) x * ul.length + lbI (ul.map Cl.id) y + 1
theorem lbI_le (l : List Int) (x : Int) : lbI l x ≤ l.length := List.length_filter_le _ _
theorem mul_le_4000 {a b : Nat} (ha : a ≤ 4000) (hb : b ≤ 4000) : (a : Int) * (b : Int) ≤ 16000000 ∧ 0 ≤ (a : Int) * (b : Int) := by
 have : a * b ≤ 4000 * 4000 := Nat.mul_le_mul ha hb
 have e : (a : Int) * (b : Int) = ((a * b : Nat) : Int) := by simp
 omega
theorem prodId_spec (E : World) (g : PH) (s : Own) (bt bu : Nat) (tv uv : Value) (tl ul : List Cl) (x y : Int) (ht : Tab g tv tl) (hu : Tab g uv ul) (h1 : g bt = some (.cells #[tv] 75 (0, 0))) (h2 : g bu = some (.cells #[uv] 75 (0, 0)))
  (hs1 : (tl.map Cl.id).Pairwise (· ≤ ·)) (hs2 : (ul.map Cl.id).Pairwise (· ≤ ·)) (hl1 : tl.length ≤ 4000) (hl2 : ul.length ≤ 4000) :
  CallV Tryz.prog E (.func (.func 58) #[] #[pp bt 0, pp bu 0]) [vi x, vi y] g s (fun r g' s' => r = vi (prodId tl ul x y) ∧ g = g' ∧ s = s') := by
 refine CallV.mk (cap := [pp bt 0, pp bu 0]) call58 ?_
 obtain ⟨b, m, iv, rs, rfl, hb, hm, hI, hall⟩ := ht
 obtain ⟨b', m', iv', rs', rfl, hb', hm', hI', hall'⟩ := hu
 have e2 : (ul.map Cl.id).length = ul.length := by simp
 obtain ⟨q, d, hq⟩ := SlA.form hI'
 rw [e2] at hq
 subst hq
 have hlb1 := lbI_le (tl.map Cl.id) x
 have hlb2 := lbI_le (ul.map Cl.id) y
 simp only [List.length_map] at hlb1 hlb2
 have hmul := mul_le_4000 (show lbI (tl.map Cl.id) x ≤ 4000 by omega) hl2
 refine Ctr.of (args := [vi x, vi y, pp bt 0, pp bu 0]) func58 rfl ntmps58 (Nat.le_of_ble_eq_true rfl) ?_
 refine SC.seq (SC.region (SL.A rfl (SL.nil (ST.thenN (SC.seq (SC.region (SL.K (SQ.load isAgg75 rfl (CellAt.known h1 rfl)) (SL.U (SU.nilCheck rfl) (SL.U (SU.fieldAddr underlying88 rfl sizeOf45 rfl) (SL.K (SQ.load isAgg45 rfl (CellAt.known hb rfl)) (SL.M rfl (SL.W (SO.call call59 rfl (binSearch_spec E g _ iv (tl.map Cl.id) x hI (by simp; omega) hs1)) ?_))))))))))))
 rintro _ _ _ ⟨rfl, rfl, rfl⟩
 refine SL.M rfl (SL.U (SU.extract rfl rfl) (SL.U (SU.extract rfl rfl) (SL.A rfl (SL.A rfl (SL.nil (ST.thenN (SC.seq (SC.region (SL.K (SQ.load isAgg75 rfl (CellAt.known h2 rfl)) (SL.U (SU.nilCheck rfl) (SL.U (SU.fieldAddr underlying88 rfl sizeOf45 rfl) (SL.K (SQ.load isAgg45 rfl (CellAt.known hb' rfl)) (SL.M rfl (SL.W (SO.call call59 rfl (binSearch_spec E g _ _ (ul.map Cl.id) y hI' (by simp; omega) hs2)) ?_))))))))))))))
 rintro _ _ _ ⟨rfl, rfl, rfl⟩
 refine SL.M rfl (SL.U (SU.extract rfl rfl) (SL.U (SU.extract rfl rfl) (SL.A rfl (SL.A rfl (SL.nil (ST.thenN (SC.seq (SC.region (SL.M rfl (SL.K (SQ.load isAgg75 rfl (CellAt.known h2 rfl)) (SL.U (SU.nilCheck rfl) (SL.U (SU.fieldAddr underlying88 rfl sizeOf45 rfl) (SL.K (SQ.load isAgg45 rfl (CellAt.known hb' rfl)) (SL.U (SU.lenN underlying45 rfl) (SL.U (SU.mul rfl rfl oM) (SL.M rfl (SL.U (SU.add rfl rfl oM) (SL.U (SU.add rfl rfl oM) (SL.A rfl (SL.nil (ST.thenN (SC.ret ?_))))))))))))))))))))))
 exact ST.ret1 (.inl rfl) results58 rfl ⟨rfl, rfl, rfl⟩
end Go.Proofs.YtkdibcicncjpdaaGreat
