/- Sim Cpo San1 San -/
import Derived.Test.YtkdibcicncjpdaaGreatEq09
import Derived.Test.YtkdibcicncjpdaaGreatEq06
import Derived.Test.YtkdibcicncjpdaaGreatEq08
import Derived.Test.YtkdibcicncjpdaaGreatEq02
set_option linter.unusedSimpArgs false
set_option linter.unusedVariables false
namespace Go.Proofs.YtkdibcicncjpdaaGreat
open _root_.Go.Proofs.Tryz _root_.Go.Proofs.YtkdibcicncjpdaaGreat.Tryz
open Go Go.Sy Go.Pl Go.Proofs
set_option maxRecDepth 100000
theorem lv_of {g : PH} : ∀ {ls : List (List Int)} {rs : List Sv}, All2 (ListR g) ls rs → (∀ x ∈ ls, x.length < 1099511627776) → ∃ L : List (LV g), L.map LV.l = ls ∧ L.map LV.sv = rs
  | [], [], _, _ => ⟨[], rfl, rfl⟩
  | x :: ls, r :: rs, h, hl => by
    obtain ⟨L, h1, h2⟩ := lv_of h.2 (fun y hy => hl y (by simp [hy]))
    exact ⟨⟨r, x, h.1, hl x (by simp)⟩ :: L, by simp [h1], by simp [h2]⟩
  | [], _ :: _, h, _ => h.elim
  | _ :: _, [], h, _ => h.elim
theorem lv_all {g : PH} : ∀ (L : List (LV g)), All2 (ListR g) (L.map LV.l) (L.map LV.sv)
  | [] => trivial
  | x :: L => ⟨x.h, lv_all L⟩
theorem lv_flat {g : PH} : ∀ (L : List (LV g)), L.flatMap (encLV g).enc = (L.map LV.sv).flatMap encSv.enc
  | [] => rfl
  | x :: L => by simp only [List.flatMap_cons, List.map_cons, lv_flat L]; rfl
theorem lv_row {g : PH} (T : TypeId) (v : Value) (L : List (LV g)) : rowA (encLV g) T v L = rowA encSv T v (L.map LV.sv) := by
  simp only [rowA, lv_flat, List.length_map]
def eqL (a b : List Int) : Bool := decide (a = b)
theorem uniqGo_map {α β : Type} (f : α → β) (eq : α → α → Bool) (eq' : β → β → Bool) (h : ∀ a b, eq a b = eq' (f a) (f b)) : ∀ (x : α) (l : List α), (uniqGo eq x l).map f = uniqGo eq' (f x) (l.map f)
  | _, [] => rfl
  | x, y :: r => by
    simp only [uniqGo, List.map_cons, h]
    split
    · exact uniqGo_map f eq eq' h y r
    · rw [List.map_cons, uniqGo_map f eq eq' h y r]
theorem uniq_map {α β : Type} (f : α → β) (eq : α → α → Bool) (eq' : β → β → Bool) (h : ∀ a b, eq a b = eq' (f a) (f b)) (l : List α) : (uniq eq l).map f = uniq eq' (l.map f) := by
  cases l with
  | nil => rfl
  | cons x r => simp only [uniq, List.map_cons, uniqGo_map f eq eq' h]
theorem uniqGo_sub {α : Type} (eq : α → α → Bool) : ∀ (x : α) (l : List α), (uniqGo eq x l).Sublist l
  | _, [] => .slnil
  | x, y :: r => by
    simp only [uniqGo]
    split
    · exact (uniqGo_sub eq y r).cons y
    · exact (uniqGo_sub eq y r).cons_cons y
theorem uniq_sub {α : Type} (eq : α → α → Bool) (l : List α) : (uniq eq l).Sublist l := by
  cases l with
  | nil => exact .slnil
  | cons x r => exact (uniqGo_sub eq x r).cons_cons x
def setC (s : List Int) : List Int := uniq (fun a b : Int => decide (a = b)) (sortI s)
def badSet : List Int → Bool
  | [] => true
  | a :: r => decide (a < 0) || decide (((a :: r).length : Int) > 9)
def addSets (all : List (List Int)) (t : List Int) : List (List Int) := uniq eqL (sortL (all ++ subsetsC t))
def simpAll : List (List Int) → List (List Int) → Option (List (List Int))
  | all, [] => some all
  | all, s :: r => if badSet (setC s) then simpAll all r else if ((addSets all (setC s)).length : Int) > 4000 then none else simpAll (addSets all (setC s)) r
def sideAt (all : List (List Int)) (s : List Int) (k : Nat) : List Side := if 0 < (s.eraseIdx k).length then [⟨lbL all (s.eraseIdx k) + 1, signC k⟩] else []
def simpSides (all : List (List Int)) (s : List Int) (j : Nat) : List Side := (List.range j).flatMap (sideAt all s)
def simpCell (all : List (List Int)) (p : List Int × Nat) : Cl := ⟨p.2 + 1, (p.1.length : Int) - 1, simpSides all p.1 p.1.length⟩
def simpCells (all : List (List Int)) : List Cl := all.zipIdx.map (simpCell all)
def simpC (l : List (List Int)) : List Cl := match simpAll [] l with
  | none => []
  | some all => canonC (simpCells all)
theorem subsetsC_length (t : List Int) (h : t.length ≤ 9) : (subsetsC t).length ≤ 511 := by
  have := pow_le t.length h
  simp [subsetsC]
  omega
theorem subsetsC_short {t : List Int} (h : t.length ≤ 9) : ∀ x ∈ subsetsC t, x.length ≤ 9 := fun x hx => by
  obtain ⟨i, _, rfl⟩ := List.mem_map.1 hx
  exact Nat.le_trans (pickB_length _ _) h
theorem subsetsC_pos {t : List Int} (h : t ≠ []) : 0 < (subsetsC t).length := by
  have h1 : 0 < t.length := List.length_pos_iff.2 h
  have h2 : 2 ^ 1 ≤ 2 ^ t.length := Nat.pow_le_pow_right (by decide) h1
  simp [subsetsC]
  omega
theorem addSets_mem {all : List (List Int)} {t x : List Int} (h : x ∈ addSets all t) : x ∈ all ∨ x ∈ subsetsC t := by
  have h1 := (uniq_sub eqL _).subset h
  have h2 := (sortL_perm _).subset h1
  exact List.mem_append.1 h2
theorem addSets_srt (all : List (List Int)) (t : List Int) : SrtL (addSets all t) := (sortL_srt _).sublist (uniq_sub eqL _)
theorem srt_mono {all : List (List Int)} (h : SrtL all) (t : List Int) : ∀ i j (hi : i < all.length) (hj : j < all.length), i < j → compareC all[j] t < 0 → compareC all[i] t < 0 := fun i j hi hj hij hlt => by
  have h1 := List.pairwise_iff_getElem.1 h i j hi hj hij
  rcases compareC_cases all[i] all[j] with h2 | h2 | h2
  · exact compareC_trans _ _ _ h2 hlt
  · rw [h2]; exact hlt
  · exact absurd h2 h1
theorem simpSides_succ (all : List (List Int)) (s : List Int) (j : Nat) : simpSides all s (j + 1) = simpSides all s j ++ sideAt all s j := by
  simp [simpSides, List.range_succ]
theorem simpSides_length (all : List (List Int)) (s : List Int) (j : Nat) : (simpSides all s j).length ≤ j := by
  induction j with
  | zero => simp [simpSides]
  | succ j ih =>
    rw [simpSides_succ, List.length_append]
    have : (sideAt all s j).length ≤ 1 := by unfold sideAt; split <;> simp
    omega
theorem simpCells_length (all : List (List Int)) : (simpCells all).length = all.length := by simp [simpCells]
theorem simpCells_get {all : List (List Int)} {k : Nat} (h : k < all.length) : (simpCells all)[k]? = some (simpCell all (all[k], k)) := by
  simp [simpCells, h]
theorem simpCells_fits {all : List (List Int)} (h : all.length ≤ 4000) (hs : ∀ x ∈ all, x.length ≤ 9) : Fits (simpCells all) := by
  refine ⟨by rw [simpCells_length]; omega, fun c hc => ?_⟩
  obtain ⟨p, hp, rfl⟩ := List.mem_map.1 hc
  have h1 : p.1 ∈ all := by
    have := List.mem_map_of_mem (f := Prod.fst) hp
    simpa using this
  have h2 := hs _ h1
  have h3 := simpSides_length all p.1 p.1.length
  show (simpSides all p.1 p.1.length).length < _
  omega
theorem lbL_le (ls : List (List Int)) (t : List Int) : lbL ls t ≤ ls.length := List.length_filter_le _ _
def svOf (v : Value) : Sv := match v with
  | .slice p n c => ⟨p, n, c⟩
  | _ => ⟨none, 0, 0⟩
theorem simplicial_spec (E : World) (g : PH) (s : Own) (v : Value) (ls : List (List Int)) (hv : Lists g v ls) (hn : ls.length < 1099511627776) (hl : ∀ x ∈ ls, x.length < 1099511627776) :
    Ctr Tryz.prog E 11 #[v] g s (fun r g' s' => s = s' ∧ Le g g' ∧ ∃ u, r = .agg #[u] ∧ Cells g' u (simpC ls)) := by
  obtain ⟨rs0, hrs0, hall0⟩ := hv
  have hlen0 := hall0.length
  obtain ⟨p, c, rfl⟩ := SlA.form hrs0
  refine Ctr.of (args := [.slice p rs0.length c]) func11 rfl ntmps11 (Nat.le_of_ble_eq_true rfl) ?_
  refine SC.seq (SC.region (SL.W (SO.alloc zeroValue27) ?_))
  rintro _ _ _ ⟨b2, rfl, rfl, rfl⟩
  refine SL.nil (ST.thenN (SC.seq (SC.region (SL.A rfl (SL.nil (ST.thenN (SC.seq (SC.seq (SC.region (SL.M rfl (SL.U (SU.lenN underlying22 rfl) (SL.M rfl (SL.nil (ST.thenN (SC.block (SC.nilRow 45 1 ?_))))))))))))))))
  refine SC.loop (ι := PH × Value × List Sv × List (List Int) × Nat) (fun i => [(0, .slice p rs0.length c), (2, pp b2 0), (3, i.2.1), (14, .slice p rs0.length c), (15, vi rs0.length), (16, vi i.2.2.2.2)]) (fun i => i.1)
    (fun i => rowA encSv 45 i.2.1 i.2.2.1 :: pt b2 (.cells #[.slice none 0 0] 27 (0, 0)) :: s)
    (fun i => Le g i.1 ∧ i.2.2.2.2 ≤ rs0.length ∧ All2 (ListR i.1) i.2.2.2.1 i.2.2.1 ∧ (i.2.2.2.1.length ≤ 4000 ∧ ∀ x ∈ i.2.2.2.1, x.length ≤ 9) ∧ SrtL i.2.2.2.1 ∧ simpAll [] ls = simpAll i.2.2.2.1 (ls.drop i.2.2.2.2)) (fun i => rs0.length - i.2.2.2.2)
    (g, .slice none 0 0, [], [], 0) ⟨rfl, rfl, rfl, rfl, rfl, rfl, trivial⟩ rfl rfl ⟨Le.refl g, Nat.zero_le _, trivial, ⟨Nat.zero_le _, by simp⟩, List.Pairwise.nil, rfl⟩ ?_
  rintro ⟨g1, av, rs, all, k⟩ ⟨hle, hk, hall, ⟨hal, has⟩, hsrt, hsa⟩
  dsimp only at hle hk hall hal has hsrt hsa ⊢
  have hrl := hall.length
  refine SC.seq (SC.region (SL.U (SU.lss rfl rfl) (SL.nil (ST.thenN (SC.seq ?_)))))
  refine SC.ifP rfl (fun hlt => ?_) (fun hlt => ?_)
  · have hkl : k < ls.length := by omega
    have hkr : k < rs0.length := by omega
    have hR := (hall0.get (List.getElem?_eq_getElem hkl) (List.getElem?_eq_getElem hkr)).mono hle
    have hxl := hl _ (List.getElem_mem hkl)
    have hb1 := hrs0.based (by omega)
    have hdrop : ls.drop k = ls[k] :: ls.drop (k + 1) := List.drop_eq_getElem_cons hkl
    rw [hdrop] at hsa
    generalize hx : ls[k] = x at *
    generalize hr : rs0[k] = r at *
    have hgr : rs0[((k : Nat) : Int).toNat]? = some r := by rw [← hr]; exact List.getElem?_eq_getElem hkr
    have hsl := sortI_length x
    have hul := uniq_length (fun a b : Int => decide (a = b)) (sortI x)
    refine SC.skip (ST.thenN (SC.seq (SC.block (SC.seq (SC.region (SL.U (SU.indexAddr underlying22 sizeOf45 rfl rfl hb1 (by omega) (by simp only [slen]; omega)) (SL.K (SQ.elem1 isAgg45 rfl (hrs0.mono hle).rd hgr rfl) (SL.A rfl (SL.nil (ST.thenN (SC.seq (SC.region (SL.M rfl (SL.W (SO.call call39 rfl (cloneI E g1 _ _ x hR hxl)) ?_))))))))))))))
    rintro v21 _ _ ⟨rfl, rfl⟩
    refine SL.A rfl (SL.nil (ST.thenN (SC.seq (SC.region (SL.M rfl (SL.W (SO.call call40 rfl (sortInts_spec E g1 _ v21 x 0 rfl hxl)) ?_))))))
    rintro _ _ _ ⟨rfl, rfl⟩
    refine SL.nil (ST.thenN (SC.seq (SC.region (SL.M rfl (SL.W (SO.call call41 rfl (compactI E g1 _ v21 (sortI x) (by omega))) ?_)))))
    rintro v25 _ _ ⟨rfl, rfl⟩
    refine SL.A rfl (SL.nil (ST.thenN (SC.seq (SC.freezeRow fun g2 hle2 hs2 => ?_))))
    have hset : Ints g2 v25 (setC x) := hs2
    have hsetl : (setC x).length < 1099511627776 := by unfold setC; omega
    obtain ⟨q2, d2, rfl⟩ := SlA.form hset
    have hcase : setC x = [] ∨ ∃ a t, setC x = a :: t := by cases setC x with
      | nil => exact .inl rfl
      | cons a t => exact .inr ⟨a, t, rfl⟩
    have hall2 := hall.mono fun _ _ => ListR.mono hle2
    clear hs2
    generalize hT : setC x = T at *
    rcases hcase with hT0 | ⟨a, t, hTa⟩
    · subst hT0
      have hbad : badSet (setC x) = true := by rw [hT]; rfl
      refine SC.seq (SC.region (SL.M rfl (SL.U (SU.lenN underlying45 rfl) (SL.U (SU.eq (v' := vb true) (SU.eql rfl rfl) (congrArg vb (decide_eq_true (by simp)))) ?_))))
      refine SL.M rfl (SL.Z rfl rfl rfl (SL.Z rfl rfl rfl (SL.Z rfl rfl rfl (SL.Z rfl rfl rfl (SL.U (SU.pickT rfl rfl) (SL.M rfl (SL.Z rfl rfl rfl (SL.Z rfl rfl rfl (SL.Z rfl rfl rfl (SL.U (SU.pickT rfl rfl) (SL.nil (ST.thenN (SC.condT rfl (SC.exit (ST.thenX (ST.blockX (ST.thenN (SC.region (SL.U (SU.add rfl rfl (by omega)) (SL.M rfl (SL.nil ?_)))))))))))))))))))))
      refine ST.again (g2, av, rs, all, k + 1) ⟨rfl, rfl, rfl, rfl, rfl, rfl, trivial⟩ rfl rfl ⟨hle.trans hle2, by (first | with_reducible rfl | ((try dsimp only); (try simp only [List.length_append, List.length_cons, List.length_nil, List.length_singleton, List.length_take, List.length_drop]) <;> omega)), hall2, ⟨hal, has⟩, hsrt, ?_⟩ (by (first | with_reducible rfl | ((try dsimp only); (try simp only [List.length_append, List.length_cons, List.length_nil, List.length_singleton, List.length_take, List.length_drop]) <;> omega)))
      rw [hsa, simpAll, if_pos hbad]
    · have hTl : T.length = t.length + 1 := by rw [hTa]; rfl
      have hbT := SlA.based hset (by omega)
      have hga : T[((0 : Nat) : Int).toNat]? = some a := by rw [hTa]; rfl
      have hbe : badSet (setC x) = (decide (a < 0) || decide ((T.length : Int) > 9)) := by rw [hT, hTa]; rfl
      have hbe1 : a < 0 → (decide (a < 0) || decide ((T.length : Int) > 9)) = true := fun h => by simp [h]
      have hbe2 : ¬ a < 0 → (decide (a < 0) || decide ((T.length : Int) > 9)) = decide ((T.length : Int) > 9) := fun h => by simp [h]
      refine SC.sub (f' := [(0, .slice p rs0.length c), (2, pp b2 0), (3, av), (5, .slice q2 T.length d2), (14, .slice p rs0.length c), (15, vi rs0.length), (16, vi k)]) ⟨rfl, rfl, rfl, rfl, rfl, rfl, rfl, trivial⟩ ?_
      refine SC.cutB 39 ((decide (a < 0) || decide ((T.length : Int) > 9))) ?_ ?_
      · skip
        refine SC.region (SL.M rfl (SL.U (SU.lenN underlying45 rfl) (SL.U (SU.eq (v' := vb false) (SU.eql rfl rfl) (congrArg vb (decide_eq_false (by omega)))) (SL.M rfl (SL.Y rfl rfl rfl (SU.move rfl) (SL.Y rfl rfl rfl (SU.indexAddr underlying45 sizeOf3 rfl rfl hbT (by decide) (by simp only [slen]; omega)) (SL.gq (Gd.onT rfl rfl rfl (by decide)) (SQ.elem1 isAgg3 rfl (SlA.rd hset) hga rfl) (by decide) (SL.Y rfl rfl rfl (SU.lss rfl rfl) (SL.U (SU.pickF rfl rfl) (SL.M rfl ?_))))))))))
        refine SL.split ?_ ?_
        · intro h35
          refine SL.Z rfl rfl rfl (SL.Z rfl rfl rfl (SL.Z rfl rfl rfl (SL.U (SU.pickT rfl rfl) (SL.nil ?_))))
          exact ST.mid1 (by (rw [hbe1 h35]; rfl)) (by repeat' (first | exact trivial | refine ⟨.inl rfl, ?_⟩ | refine ⟨.inr rfl, ?_⟩))
        · intro h35
          refine SL.Y rfl rfl rfl (SU.move rfl) (SL.Y rfl rfl rfl (SU.lenN underlying45 rfl) (SL.Y rfl rfl rfl (SU.gtr rfl rfl) (SL.U (SU.pickF rfl rfl) (SL.nil ?_))))
          exact ST.mid1 (by (rw [hbe2 h35]; rfl)) (by repeat' (first | exact trivial | refine ⟨.inl rfl, ?_⟩ | refine ⟨.inr rfl, ?_⟩))
      refine SC.ifB rfl (fun hbad => ?_) (fun hbad => ?_)
      · skip
        refine SC.exit (ST.thenX (ST.blockX (ST.thenN (SC.region (SL.U (SU.add rfl rfl (by omega)) (SL.M rfl (SL.nil ?_)))))))
        refine ST.again (g2, av, rs, all, k + 1) ⟨rfl, rfl, rfl, rfl, rfl, rfl, trivial⟩ rfl rfl ⟨hle.trans hle2, by (first | with_reducible rfl | ((try dsimp only); (try simp only [List.length_append, List.length_cons, List.length_nil, List.length_singleton, List.length_take, List.length_drop]) <;> omega)), hall2, ⟨hal, has⟩, hsrt, ?_⟩ (by (first | with_reducible rfl | ((try dsimp only); (try simp only [List.length_append, List.length_cons, List.length_nil, List.length_singleton, List.length_take, List.length_drop]) <;> omega)))
        rw [hsa, simpAll, if_pos (hbe.trans hbad)]
      · have hb9 : T.length ≤ 9 := by simp at hbad; omega
        have hsub1 := subsetsC_length T hb9
        have hsub2 := subsetsC_short hb9
        have hsub3 := subsetsC_pos (t := T) (by rw [hTa]; simp)
        have hnb : ¬ badSet (setC x) = true := by rw [hbe, hbad]; simp
        refine SC.skip (ST.thenN (SC.seq (SC.region (SL.M rfl (SL.M rfl (SL.W (SO.call call42 rfl (subsets_spec E g2 _ _ T hset hb9)) ?_))))))
        rintro v42 g3 _ ⟨rfl, hle3, hsub⟩
        obtain ⟨rs2, hrs2, hall3⟩ := hsub
        have hrl2 := hall3.length
        refine SL.W (SO.appA (e := encSv) 0 sty22 rfl rfl rfl hrs2 (by omega) (by omega)) ?_
        rintro v43 _ _ ⟨rfl, rfl⟩
        have hall4 := (hall2.mono fun _ _ => ListR.mono hle3).append hall3
        obtain ⟨L, hL1, hL2⟩ := lv_of hall4 (fun y hy => (List.mem_append.1 hy).elim (fun h => Nat.lt_of_le_of_lt (has y h) (by decide)) (fun h => Nat.lt_of_le_of_lt (hsub2 y h) (by decide)))
        have hLl : L.length = all.length + (subsetsC T).length := (by have := congrArg List.length hL1; simpa using this)
        rw [← hL2, ← lv_row]
        refine SL.A rfl (SL.nil (ST.thenN (SC.seq (SC.region (SL.M rfl (SL.W (SO.call call43 rfl (sortFuncAny E g3 _ _ L (by omega) (by omega))) ?_))))))
        rintro _ _ _ ⟨rfl, L2, hp2, hs2, rfl⟩
        have hL2l := hp2.length_eq
        have hcall : ∀ (x y : LV g3) s', CallV Tryz.prog E (.func (.func 46) #[] #[]) [x.val, y.val] g3 s' (fun r g' s'' => r = vb (decide (x.l = y.l)) ∧ g3 = g' ∧ s' = s'') := fun x y s' => CallV.mk (args := [x.val, y.val]) (cap := []) call46 (equalInts E g3 s' _ _ x.l y.l x.h y.h x.len)
        refine SL.nil (ST.thenN (SC.seq (SC.region (SL.M rfl (SL.W (SO.call call45 rfl (compactL (encLV g3) LV.val (fun _ => rfl) (fun _ => rfl) E g3 _ _ 46 (fun x y => decide (x.l = y.l)) L2 (by omega) hcall)) ?_)))))
        rintro v47 _ _ ⟨rfl, rfl⟩
        refine SL.facts fun ⟨w0, hw0⟩ => ?_
        obtain ⟨q, d, rfl⟩ := rowA_form (i := 0) hw0 rfl
        clear hw0 w0
        rw [lv_row]
        have hnew : (uniq (fun x y : LV g3 => decide (x.l = y.l)) L2).map LV.l = addSets all T := (by rw [uniq_map LV.l (fun x y : LV g3 => decide (x.l = y.l)) eqL (fun _ _ => rfl), hs2, hL1]; rfl)
        have hnl : (uniq (fun x y : LV g3 => decide (x.l = y.l)) L2).length = (addSets all T).length := (by rw [← hnew, List.length_map])
        have hall5 := lv_all (uniq (fun x y : LV g3 => decide (x.l = y.l)) L2)
        rw [hnew] at hall5
        generalize (uniq (fun x y : LV g3 => decide (x.l = y.l)) L2).length = n47 at *
        generalize (uniq (fun x y : LV g3 => decide (x.l = y.l)) L2).map LV.sv = rs5 at *
        refine SL.A rfl (SL.nil (ST.thenN (SC.seq (SC.region (SL.M rfl (SL.U (SU.lenN underlying22 rfl) (SL.U (SU.gtr rfl rfl) (SL.nil (ST.thenN ?_)))))))))
        refine SC.ifP rfl (fun hmany => ?_) (fun hmany => ?_)
        · have hnone : simpAll [] ls = none := by rw [hsa, simpAll, if_neg hnb, hT, if_pos (by omega)]
          refine SC.seq (SC.region (SL.U (SU.build rfl (buildE27)) (SL.on (SO.storeAllK 1 sizeOf27 rfl rfl rfl rfl rfl (by exact ⟨rfl, trivial⟩)) ?_)))
          rintro _ _ _ ⟨rfl, rfl⟩
          refine SL.nil (ST.thenN (SC.ret (ST.blockR (ST.thenR (ST.thenR (ST.blockR (ST.thenR ?_)))))))
          exact ST.retCD 1 s (.inl rfl) results11 rfl isAgg27 sizeOf27 rfl rfl (.cons _ (.cons _ (.refl _))) ⟨rfl, hle.trans (hle2.trans hle3), _, rfl, by simp only [simpC, hnone]; exact ⟨[], Sl.nil _ _, trivial⟩⟩
        · skip
          refine SC.skip (ST.blockN (ST.thenN (SC.region (SL.U (SU.add rfl rfl (by omega)) (SL.M rfl (SL.nil ?_))))))
          refine ST.again (g3, .slice q n47 d, rs5, addSets all T, k + 1) ⟨rfl, rfl, rfl, rfl, rfl, rfl, trivial⟩ rfl rfl ⟨hle.trans (hle2.trans hle3), by (first | with_reducible rfl | ((try dsimp only); (try simp only [List.length_append, List.length_cons, List.length_nil, List.length_singleton, List.length_take, List.length_drop]) <;> omega)), hall5, ⟨by (first | with_reducible rfl | ((try dsimp only); (try simp only [List.length_append, List.length_cons, List.length_nil, List.length_singleton, List.length_take, List.length_drop]) <;> omega)), fun y hy => ?_⟩, addSets_srt all T, ?_⟩ (by (first | with_reducible rfl | ((try dsimp only); (try simp only [List.length_append, List.length_cons, List.length_nil, List.length_singleton, List.length_take, List.length_drop]) <;> omega)))
          · rcases addSets_mem hy with h | h
            · exact has y h
            · exact hsub2 y h
          · rw [hsa, simpAll, if_neg hnb, hT, if_neg (by omega)]
  · have hk0 : k = rs0.length := by omega
    have hsome : simpAll [] ls = some all := by rw [hsa, hk0, ← hlen0, List.drop_length]; rfl
    have hfit := simpCells_fits hal has
    refine SC.exit (ST.thenX (ST.thenX (ST.blockX (ST.thenN (SC.seq (SC.freezeRow fun g2 hle2 hs2 => ?_))))))
    have hav : SlA encSv g2 av rs := hs2
    obtain ⟨q, d, rfl⟩ := SlA.form hav
    have hall2 := hall.mono fun _ _ => ListR.mono hle2
    refine SC.region (SL.W (SO.alloc zeroValue27) ?_)
    rintro _ _ _ ⟨b6, rfl, rfl, rfl⟩
    refine SL.nil (ST.thenN (SC.seq (SC.seq (SC.region (SL.M rfl (SL.U (SU.lenN underlying22 rfl) (SL.M rfl (SL.nil (ST.thenN (SC.block (SC.nilRow 51 3 ?_)))))))))))
    refine SC.loop (ι := PH × Value × List Rc × Nat) (fun i => [(2, pp b2 0), (3, .slice q rs.length d), (6, pp b6 0), (53, .slice q rs.length d), (54, vi rs.length), (55, vi i.2.2.2)]) (fun i => i.1)
      (fun i => rowA encCell 51 i.2.1 i.2.2.1 :: pt b6 (.cells #[i.2.1] 27 (0, 0)) :: pt b2 (.cells #[.slice none 0 0] 27 (0, 0)) :: s)
      (fun i => Le g2 i.1 ∧ i.2.2.2 ≤ rs.length ∧ All2 (CellR i.1) ((simpCells all).take i.2.2.2) i.2.2.1) (fun i => rs.length - i.2.2.2)
      (g2, .slice none 0 0, [], 0) ⟨rfl, rfl, rfl, rfl, rfl, rfl, trivial⟩ rfl rfl ⟨Le.refl g2, Nat.zero_le _, trivial⟩ ?_
    rintro ⟨g3, ov, rcs, n⟩ ⟨hle3, hn3, hrcs⟩
    dsimp only at hle3 hn3 hrcs ⊢
    have hrcl := hrcs.length
    rw [List.length_take, simpCells_length] at hrcl
    refine SC.seq (SC.region (SL.U (SU.lss rfl rfl) (SL.nil (ST.thenN (SC.seq ?_)))))
    refine SC.ifP rfl (fun hlt2 => ?_) (fun hlt2 => ?_)
    · have hnl : n < all.length := by omega
      have hnr : n < rs.length := by omega
      have hb1 := hav.based (by omega)
      have hR := (hall2.get (List.getElem?_eq_getElem hnl) (List.getElem?_eq_getElem hnr)).mono hle3
      have hRl := hR.len
      have hx9 := has _ (List.getElem_mem hnl)
      have hget := simpCells_get hnl
      generalize hx : all[n] = x at *
      generalize hr : rs[n] = r at *
      obtain ⟨rp, rn, rc⟩ := r
      dsimp only at hRl
      subst hRl
      have hxs : Ints g3 (.slice rp x.length rc) x := hR
      have hgr : rs[((n : Nat) : Int).toNat]? = some ⟨rp, x.length, rc⟩ := by rw [← hr]; exact List.getElem?_eq_getElem hnr
      refine SC.skip (ST.thenN (SC.seq (SC.block (SC.seq (SC.region (SL.M rfl (SL.U (SU.indexAddr underlying22 sizeOf45 rfl rfl hb1 (by omega) (by simp only [slen]; omega)) (SL.K (SQ.elem1 (u := .slice rp x.length rc) isAgg45 rfl (hav.mono hle3).rd hgr rfl) (SL.A rfl (SL.A rfl (SL.nil (ST.thenN (SC.seq (SC.region (SL.M rfl (SL.U (SU.add rfl rfl (by omega)) (SL.M rfl (SL.U (SU.lenN underlying45 rfl) (SL.U (SU.sub rfl rfl (by omega)) (SL.U (SU.build rfl (buildC51 _ _)) (SL.W (SO.alloc zeroValue51) ?_)))))))))))))))))))))
      rintro _ _ _ ⟨b9, rfl, rfl, rfl⟩
      refine SL.on (SO.storeAllK 0 sizeOf51 rfl rfl rfl rfl rfl (by exact ⟨rfl, rfl, rfl, trivial⟩)) ?_
      rintro _ _ _ ⟨rfl, rfl⟩
      refine SL.nil (ST.thenN (SC.seq (SC.seq (SC.nilRow 55 2 (SC.region (SL.M rfl (SL.U (SU.lenN underlying45 rfl) (SL.M rfl (SL.nil (ST.thenN (SC.block ?_)))))))))))
      refine SC.loop (ι := PH × Value × Nat) (fun i => [(2, pp b2 0), (3, .slice q rs.length d), (6, pp b6 0), (53, .slice q rs.length d), (54, vi rs.length), (55, vi n), (8, .slice rp x.length rc), (9, pp b9 0), (66, .slice rp x.length rc), (67, vi x.length), (68, vi i.2.2)]) (fun i => i.1)
        (fun i => rowA encSide 55 i.2.1 (simpSides all x i.2.2) :: pt b9 (.cells #[vi ((n : Int) + 1), vi ((x.length : Int) - 1), i.2.1] 51 (0, 0)) :: rowA encCell 51 ov rcs :: pt b6 (.cells #[ov] 27 (0, 0)) :: pt b2 (.cells #[.slice none 0 0] 27 (0, 0)) :: s)
        (fun i => Le g3 i.1 ∧ i.2.2 ≤ x.length) (fun i => x.length - i.2.2)
        (g3, .slice none 0 0, 0) ⟨rfl, rfl, rfl, rfl, rfl, rfl, rfl, rfl, rfl, rfl, rfl, trivial⟩ rfl rfl ⟨Le.refl g3, Nat.zero_le _⟩ ?_
      rintro ⟨g4, sv, j⟩ ⟨hle4, hj⟩
      dsimp only at hle4 hj ⊢
      have hssl := simpSides_length all x j
      have hsucc := simpSides_succ all x j
      refine SC.seq (SC.region (SL.U (SU.lss rfl rfl) (SL.nil (ST.thenN (SC.seq ?_)))))
      refine SC.ifP rfl (fun hlt3 => ?_) (fun hlt3 => ?_)
      · have hjl : j < x.length := by omega
        have hxs4 : Ints g4 (.slice rp x.length rc) x := hxs.mono hle4
        have hcap := (SlA.cap hxs4).2
        have hc1 := SlA.cut hxs4 (l := 0) (m := j) (by omega) (by omega)
        have hc2 := SlA.cut hxs4 (l := j + 1) (m := x.length) (by omega) (by omega)
        have he1 : (x.drop 0).take (j - 0) = x.take j := by simp
        have he2 : (x.drop (j + 1)).take (x.length - (j + 1)) = x.drop (j + 1) := List.take_of_length_le (by rw [List.length_drop]; omega)
        rw [he1] at hc1
        rw [he2] at hc2
        have her : [x.take j, x.drop (j + 1)].flatten = x.eraseIdx j := by rw [List.eraseIdx_eq_take_drop_succ]; simp
        have hel : (x.eraseIdx j).length = x.length - 1 := by rw [List.length_eraseIdx]; simp [hjl]
        have hsum : sumLen [x.take j, x.drop (j + 1)] < 1099511627776 := by simp [sumLen]; omega
        refine SC.skip (ST.thenN (SC.seq (SC.block (SC.seq (SC.region (SL.M rfl (SL.A rfl (SL.nil (ST.thenN (SC.seq ?_))))))))))
        refine SC.draw [] [(0, 2), (1, 2), (2, 2), (3, 2), (4, 2), (5, 2), (6, 2), (7, 0), (8, 0), (9, 2)] Tryz.mixed (by kernel_rfl) ?_
        refine SP.U (i := 0) rfl (SU.move rfl) (SP.U (i := 1) rfl (SU.move rfl) (SP.U (i := 2) rfl (SU.sliceH underlying45 sizeOf3 rfl rfl (by omega) (by omega)) (SP.U (i := 3) rfl (SU.move rfl) (SP.U (i := 4) rfl (SU.move rfl) (SP.U (i := 5) rfl (SU.add rfl rfl (by omega)) (SP.U (i := 6) rfl (SU.eq (v' := sliced rp (j + 1) x.length rc 1) (SU.sliceL underlying45 sizeOf3 rfl rfl (by omega) (by omega)) (by rw [show ((j : Int) + 1).toNat = j + 1 by omega])) ?_))))))
        refine SP.o (i := 7) rfl (SO.buildSlice sty22 rfl rfl rfl (szs_mk ⟨rfl, rfl, trivial⟩) (by decide)) (by decide) (.inr (by rintro _ _ _ ⟨b78, rfl, rfl, rfl⟩; exact ⟨by exact Le.refl _, (by exact .cons _ (.refl _))⟩)) ?_
        rintro _ _ _ ⟨b78, rfl, rfl, rfl⟩
        refine SP.freeze fun g5 hle5 hb78 => ?_
        have hlit : Lists g5 (.slice (some ⟨b78, 0, none⟩) 2 2) [x.take j, x.drop (j + 1)] := ⟨[svOf (sliced rp 0 j rc 1), svOf (sliced rp (j + 1) x.length rc 1)], SlA.lit hb78 rfl rfl, ⟨hc1.mono hle5, hc2.mono hle5, trivial⟩⟩
        refine SP.o (i := 8) rfl (SO.call call47 rfl (concat_spec E g5 _ _ _ hlit (by simp) hsum)) (by decide) (.inr (by rintro v79 _ _ ⟨rfl, rfl⟩; exact ⟨by assumption, (by exact .cons _ (.refl _))⟩)) ?_
        rintro v79 _ _ ⟨rfl, rfl⟩
        refine SP.U (i := 9) rfl (SU.assign rfl) (SP.nil (ST.thenN (SC.seq (SC.freezeRow fun g6 hle6 hs6 => ?_))))
        have hrest : Ints g6 v79 (x.eraseIdx j) := (by rw [← her]; exact hs6)
        obtain ⟨q6, d6, rfl⟩ := SlA.form hrest
        clear hs6
        refine SC.region (SL.M rfl (SL.U (SU.lenN underlying45 rfl) (SL.U (SU.gtr rfl rfl) (SL.nil (ST.thenN ?_)))))
        refine SC.ifP rfl (fun hpos => ?_) (fun hpos => ?_)
        · have hside : sideAt all x j = [⟨lbL all (x.eraseIdx j) + 1, signC j⟩] := by unfold sideAt; rw [if_pos (by omega)]
          have hlb := lbL_le all (x.eraseIdx j)
          rw [hside] at hsucc
          have hlist : Lists g6 (.slice q rs.length d) all := ⟨rs, hav.mono (hle3.trans (hle4.trans (hle5.trans hle6))), hall2.mono fun _ _ => ListR.mono (hle3.trans (hle4.trans (hle5.trans hle6)))⟩
          refine SC.seq (SC.region (SL.M rfl (SL.M rfl (SL.W (SO.call call48 rfl (binSearchL E g6 _ _ _ all (x.eraseIdx j) hlist hrest (by omega) (fun y hy => by have := has y hy; omega) (srt_mono hsrt _))) ?_))))
          rintro _ _ _ ⟨⟨fb, rfl⟩, rfl, rfl⟩
          refine SL.M rfl (SL.U (SU.extract rfl rfl) (SL.U (SU.extract rfl rfl) (SL.A rfl (SL.A rfl (SL.nil (ST.thenN ?_))))))
          refine SC.draw [8, 9, 10] [(0, 2), (1, 1), (2, 2), (3, 2), (4, 2), (5, 0), (6, 2), (7, 0), (8, 0), (9, 0), (10, 0)] Tryz.mixed (by kernel_rfl) ?_
          refine SP.U (i := 0) rfl (SU.fieldAddr underlying51 rfl sizeOf49 rfl) (SP.K (i := 1) rfl (SQ.load isAgg49 rfl (CellAt.own 1 rfl rfl)) (SP.U (i := 2) rfl (SU.move rfl) (SP.U (i := 3) rfl (SU.add rfl rfl (by omega)) (SP.U (i := 4) rfl (SU.move rfl) (SP.o (i := 5) rfl (SO.call call49 rfl (sign_spec E g6 _ j)) (by decide) (.inr (by rintro _ _ _ ⟨rfl, rfl, rfl⟩; exact ⟨by exact Le.refl _, (by exact .refl _)⟩)) ?_)))))
          rintro _ _ _ ⟨rfl, rfl, rfl⟩
          refine SP.U (i := 6) rfl (SU.build rfl (buildS55 _ _)) (SP.o (i := 7) rfl (SO.buildSlice sty49 rfl rfl rfl (szs_mk (by exact ⟨rfl, trivial⟩)) (by decide)) (by decide) (.inr (by rintro _ _ _ ⟨b96, rfl, rfl, rfl⟩; exact ⟨by exact Le.refl _, (by exact .cons _ (.refl _))⟩)) ?_)
          rintro _ _ _ ⟨b96, rfl, rfl, rfl⟩
          refine SP.o (i := 8) rfl (SO.app1A (e := encSide) 0 ⟨lbL all (x.eraseIdx j) + 1, signC j⟩ sty49 rfl rfl rfl rfl rfl (by omega) (by omega)) (by decide) (.inl (by decide)) ?_
          rintro v97 _ _ ⟨rfl, rfl⟩
          rw [← hsucc]
          refine SP.facts fun ⟨w0, hw0⟩ => ?_
          obtain ⟨q97, d97, rfl⟩ := rowA_form (i := 0) hw0 rfl
          clear hw0 w0
          refine SP.ou (i := 9) rfl (SU.fieldAddr underlying51 rfl sizeOf49 rfl) (by decide) (.inl (by decide)) (SP.on (i := 10) rfl (SO.store1 1 sizeOf49 rfl rfl rfl rfl (Nat.le_of_ble_eq_true rfl) (by rfl)) (.inl (by decide)) ?_)
          rintro _ _ _ ⟨rfl, rfl⟩
          refine SP.nil (ST.blockN (ST.thenN (SC.region (SL.U (SU.add rfl rfl (by omega)) (SL.M rfl (SL.nil ?_))))))
          exact ST.again (g6, _, j + 1) ⟨rfl, rfl, rfl, rfl, rfl, rfl, rfl, rfl, rfl, rfl, rfl, trivial⟩ rfl rfl ⟨hle4.trans (hle5.trans hle6), by (first | with_reducible rfl | ((try dsimp only); (try simp only [List.length_append, List.length_cons, List.length_nil, List.length_singleton, List.length_take, List.length_drop]) <;> omega))⟩ (by (first | with_reducible rfl | ((try dsimp only); (try simp only [List.length_append, List.length_cons, List.length_nil, List.length_singleton, List.length_take, List.length_drop]) <;> omega)))
        · have hside : sideAt all x j = [] := by unfold sideAt; rw [if_neg (by omega)]
          rw [hside, List.append_nil] at hsucc
          refine SC.skip (ST.blockN (ST.thenN (SC.region (SL.U (SU.add rfl rfl (by omega)) (SL.M rfl (SL.nil ?_))))))
          refine ST.to (fun w hw => ?_) (g' := g6) (s' := rowA encSide 55 sv (simpSides all x (j + 1)) :: pt b9 (.cells #[vi ((n : Int) + 1), vi ((x.length : Int) - 1), sv] 51 (0, 0)) :: rowA encCell 51 ov rcs :: pt b6 (.cells #[ov] 27 (0, 0)) :: pt b2 (.cells #[.slice none 0 0] 27 (0, 0)) :: s) ?_
          · rw [hsucc]; exact hw
          exact ST.again (g6, sv, j + 1) ⟨rfl, rfl, rfl, rfl, rfl, rfl, rfl, rfl, rfl, rfl, rfl, trivial⟩ rfl rfl ⟨hle4.trans (hle5.trans hle6), by (first | with_reducible rfl | ((try dsimp only); (try simp only [List.length_append, List.length_cons, List.length_nil, List.length_singleton, List.length_take, List.length_drop]) <;> omega))⟩ (by (first | with_reducible rfl | ((try dsimp only); (try simp only [List.length_append, List.length_cons, List.length_nil, List.length_singleton, List.length_take, List.length_drop]) <;> omega)))
      · have hjj : j = x.length := by omega
        subst hjj
        refine SC.exit (ST.thenX (ST.thenX (ST.blockX (ST.thenN (SC.region (SL.freezeRow fun g5 hle5 hs5 => ?_))))))
        have hsd : SlA encSide g5 sv (simpSides all x x.length) := hs5
        obtain ⟨q5, d5, rfl⟩ := SlA.form hsd
        obtain ⟨nc, hnc⟩ : ∃ nc : Rc, nc = ⟨(n : Int) + 1, (x.length : Int) - 1, ⟨q5, (simpSides all x x.length).length, d5⟩⟩ := ⟨_, rfl⟩
        refine SL.U (SU.fieldAddr underlying27 rfl sizeOf25 rfl) (SL.K (SQ.load isAgg25 rfl (CellAt.own 2 rfl rfl)) (SL.K (SQ.loadVarK 0 isAgg51 sizeOf51 rfl rfl rfl) (SL.W (SO.buildSlice sty25 rfl rfl rfl (szs_mk (by exact ⟨rfl, trivial⟩)) (by decide)) ?_)))
        rintro _ _ _ ⟨b103, rfl, rfl, rfl⟩
        refine SL.W (SO.app1A (e := encCell) 1 nc sty25 rfl rfl rfl rfl (by rw [hnc]; rfl) (by omega) (by omega)) ?_
        rintro v104 _ _ ⟨rfl, rfl⟩
        refine SL.facts fun ⟨w0, hw0⟩ => ?_
        obtain ⟨q104, d104, rfl⟩ := rowA_form (i := 1) hw0 rfl
        clear hw0 w0
        refine SL.U (SU.fieldAddr underlying27 rfl sizeOf25 rfl) (SL.on (SO.storeAllK 2 sizeOf25 rfl rfl rfl rfl rfl (by exact ⟨rfl, trivial⟩)) ?_)
        rintro _ _ _ ⟨rfl, rfl⟩
        refine SL.nil (ST.blockN (ST.thenN (SC.region (SL.U (SU.add rfl rfl (by omega)) (SL.M rfl (SL.nil (ST.drop (s' := rowA encCell 51 (.slice q104 (rcs ++ [nc]).length d104) (rcs ++ [nc]) :: pt b6 (.cells #[.slice q104 (rcs ++ [nc]).length d104] 27 (0, 0)) :: pt b2 (.cells #[.slice none 0 0] 27 (0, 0)) :: s) (.cons _ (.refl _)) ?_)))))))
        refine ST.again (g5, _, rcs ++ [nc], n + 1) ⟨rfl, rfl, rfl, rfl, rfl, rfl, trivial⟩ rfl rfl ⟨hle3.trans (hle4.trans hle5), by (first | with_reducible rfl | ((try dsimp only); (try simp only [List.length_append, List.length_cons, List.length_nil, List.length_singleton, List.length_take, List.length_drop]) <;> omega)), ?_⟩ (by (first | with_reducible rfl | ((try dsimp only); (try simp only [List.length_append, List.length_cons, List.length_nil, List.length_singleton, List.length_take, List.length_drop]) <;> omega)))
        dsimp only
        rw [take_succ_of hget]
        exact (hrcs.mono fun _ _ => CellR.mono (hle4.trans hle5)).append ⟨(by rw [hnc]; exact ⟨rfl, rfl, hsd⟩), trivial⟩
    · have hnn : n = rs.length := by omega
      have htk : (simpCells all).take n = simpCells all := List.take_of_length_le (by rw [simpCells_length]; omega)
      rw [htk] at hrcs
      refine SC.exit (ST.thenX (ST.thenX (ST.blockX (ST.thenN (SC.seq (SC.freezeRow fun g4 hle4 hs4 => ?_))))))
      have hov : Cells g4 ov (simpCells all) := ⟨rcs, hs4, hrcs.mono fun _ _ => CellR.mono hle4⟩
      refine SC.region (SL.K (SQ.loadVarK 0 isAgg27 sizeOf27 rfl rfl rfl) (SL.W (SO.call call30 rfl (canon_spec E g4 _ ov (simpCells all) hov hfit)) ?_))
      rintro _ g5 _ ⟨rfl, hle5, u, rfl, hu⟩
      obtain ⟨q9, d9, rfl⟩ := hu.form
      refine SL.on (SO.storeAllK 1 sizeOf27 rfl rfl rfl rfl rfl (by exact ⟨rfl, trivial⟩)) ?_
      rintro _ _ _ ⟨rfl, rfl⟩
      refine SL.nil (ST.thenN (SC.ret ?_))
      exact ST.retCD 1 s (.inl rfl) results11 rfl isAgg27 sizeOf27 rfl rfl (.cons _ (.cons _ (.refl _))) ⟨rfl, hle.trans (hle2.trans (hle3.trans (hle4.trans hle5))), _, rfl, by simp only [simpC, hsome]; exact hu⟩
end Go.Proofs.YtkdibcicncjpdaaGreat
namespace Go.Proofs.YtkdibcicncjpdaaGreat
open _root_.Go.Proofs.Tryz _root_.Go.Proofs.YtkdibcicncjpdaaGreat.Tryz
open Go Go.Sy Go.Pl Go.Proofs
set_option maxRecDepth 100000
def CellO (c : Cl) (r : Rc) : Prop := r.id = c.id ∧ r.dim = c.dim ∧ r.sv.n = c.sides.length
def ownC (c : Cl) (r : Rc) : Ent := rowA encSide 55 (.slice r.sv.p r.sv.n r.sv.c) c.sides
def ownS : List Cl → List Rc → Own
  | c :: l, r :: rs => ownC c r :: ownS l rs
  | _, _ => []
theorem ownS_append : ∀ {l : List Cl} {rs : List Rc} (c : Cl) (r : Rc), l.length = rs.length → ownS (l ++ [c]) (rs ++ [r]) = ownS l rs ++ [ownC c r]
  | [], [], _, _, _ => rfl
  | x :: l, y :: rs, c, r, h => by
    simp only [List.cons_append, ownS]
    rw [ownS_append c r (by simpa using h)]
  | [], _ :: _, _, _, h => by simp at h
  | _ :: _, [], _, _, h => by simp at h
theorem ownS_get : ∀ {l : List Cl} {rs : List Rc} {k : Nat} {c : Cl} {r : Rc}, l[k]? = some c → rs[k]? = some r → (ownS l rs)[k]? = some (ownC c r)
  | x :: l, y :: rs, 0, c, r, h1, h2 => by simp at h1 h2; subst h1; subst h2; rfl
  | x :: l, y :: rs, k + 1, c, r, h1, h2 => by simp at h1 h2; simpa [ownS] using ownS_get h1 h2
  | [], _, _, _, _, h1, _ => by simp at h1
  | _ :: _, [], _, _, _, _, h2 => by simp at h2
theorem ownS_length : ∀ {l : List Cl} {rs : List Rc}, l.length = rs.length → (ownS l rs).length = l.length
  | [], [], _ => rfl
  | x :: l, y :: rs, h => by simp [ownS, ownS_length (l := l) (rs := rs) (by simpa using h)]
  | [], _ :: _, h => by simp at h
  | _ :: _, [], h => by simp at h
theorem ownS_set : ∀ {l : List Cl} {rs : List Rc} {k : Nat} (c : Cl) (r : Rc), l.length = rs.length → (ownS l rs).set k (ownC c r) = ownS (l.set k c) (rs.set k r)
  | [], [], _, _, _, _ => rfl
  | x :: l, y :: rs, 0, c, r, _ => rfl
  | x :: l, y :: rs, k + 1, c, r, h => by simp only [ownS, List.set_cons_succ]; rw [ownS_set c r (by simpa using h)]
  | [], _ :: _, _, _, _, h => by simp at h
  | _ :: _, [], _, _, _, h => by simp at h
theorem freezeO {E : World} {s : Own} {w : World} : ∀ {l : List Cl} {rs : List Rc} {g : PH}, All2 CellO l rs → At E g (ownS l rs ++ s) w → ∃ g', Le g g' ∧ At E g' s w ∧ All2 (CellR g') l rs
  | [], [], g, _, h => ⟨g, Le.refl g, h, trivial⟩
  | c :: l, r :: rs, g, h1, h => by
    obtain ⟨g1, hl1, ha1, hs1⟩ := At.freezeRow h
    obtain ⟨g2, hl2, ha2, hs2⟩ := freezeO h1.2 ha1
    exact ⟨g2, hl1.trans hl2, ha2, ⟨h1.1.1, h1.1.2.1, SlA.mono hs1 hl2⟩, hs2⟩
  | [], _ :: _, _, h1, _ => h1.elim
  | _ :: _, [], _, h1, _ => h1.elim
theorem freezeCells {E : World} {s : Own} {w : World} {l : List Cl} {rs : List Rc} {g : PH} {u : Value} (h1 : All2 CellO l rs) (h : At E g (rowA encCell 51 u rs :: (ownS l rs ++ s)) w) : ∃ g', Le g g' ∧ At E g' s w ∧ Cells g' u l := by
  obtain ⟨g1, hl1, ha1, hs1⟩ := At.freezeRow h
  obtain ⟨g2, hl2, ha2, hs2⟩ := freezeO h1 ha1
  exact ⟨g2, hl1.trans hl2, ha2, rs, SlA.mono hs1 hl2, hs2⟩
theorem SC.freezeCells {P : Program} {N : Nat} {E : World} {Q : Exit → Act → World → Prop} {f : Fr} {g : PH} {s : Own} {o : Code} {l : List Cl} {rs : List Rc} {u : Value} (h1 : All2 CellO l rs) (h : ∀ g', Le g g' → Cells g' u l → SC P N E o Q f g' s) : SC P N E o Q f g (rowA encCell 51 u rs :: (ownS l rs ++ s)) := fun a w ha hw => by
  obtain ⟨g', h2, h3, h4⟩ := Go.Proofs.YtkdibcicncjpdaaGreat.freezeCells h1 hw
  exact h g' h2 h4 a w ha h3
theorem copy_own (E : World) (g : PH) (s : Own) (v : Value) (l : List Cl) (hv : Cells g v l) (hf : Fits l) :
    Ctr Tryz.prog E 33 #[.agg #[v]] g s (fun r g' s' => g = g' ∧ ∃ u rs, r = .agg #[u] ∧ All2 CellO l rs ∧ s' = rowA encCell 51 u rs :: (ownS l rs ++ s)) := by
  obtain ⟨rs, hrs, hall⟩ := hv
  have hlen := hall.length
  have hfl := hf.1
  obtain ⟨p, c, rfl⟩ := hrs.form
  refine Ctr.of (args := [.agg #[.slice p rs.length c]]) func33 rfl ntmps33 (Nat.le_of_ble_eq_true rfl) ?_
  refine SC.seq (SC.region (SL.W (SO.box rfl) ?_))
  rintro _ _ _ ⟨b1, rfl, rfl, rfl⟩
  refine SL.W (SO.alloc zeroValue27) ?_
  rintro _ _ _ ⟨b2, rfl, rfl, rfl⟩
  refine SL.nil (ST.thenN (SC.seq (SC.region (SL.W (SO.alloc zeroValue27) ?_))))
  rintro _ _ _ ⟨b3, rfl, rfl, rfl⟩
  refine SL.nil (ST.thenN (SC.seq (SC.seq (SC.region (SL.A rfl (SL.nil (ST.thenN (SC.block (SC.nilRow 51 3 ?_)))))))))
  refine SC.loop (ι := Nat × Value × List Rc) (fun i => [(1, pp b1 0), (2, pp b2 0), (3, pp b3 0), (4, vi i.1)]) (fun _ => g)
    (fun i => rowA encCell 51 i.2.1 i.2.2 :: pt b3 (.cells #[i.2.1] 27 (0, 0)) :: pt b2 (.cells #[.slice none 0 0] 27 (0, 0)) :: pt b1 (.cells #[.slice p rs.length c] 27 (0, 0)) :: (ownS (l.take i.1) i.2.2 ++ s))
    (fun i => i.1 ≤ rs.length ∧ All2 CellO (l.take i.1) i.2.2) (fun i => rs.length - i.1) (0, .slice none 0 0, [])
    ⟨rfl, rfl, rfl, rfl, trivial⟩ rfl rfl ⟨Nat.zero_le _, by simp [All2]⟩ ?_
  rintro ⟨k, ov, acc⟩ ⟨hk, hacc⟩
  dsimp only at hk hacc ⊢
  have hal := hacc.length
  refine SC.seq (SC.seq (SC.region (SL.M rfl (SL.U (SU.fieldAddr underlying27 rfl sizeOf25 rfl) (SL.K (SQ.load isAgg25 rfl (CellAt.own 3 rfl rfl)) (SL.U (SU.lenN underlying25 rfl) (SL.U (SU.lss rfl rfl) (SL.nil (ST.thenN ?_)))))))))
  refine SC.ifP rfl (fun hlt => ?_) (fun hlt => ?_)
  · have hkr : k < rs.length := by omega
    have hkl : k < l.length := by omega
    have hb1 := hrs.based (by omega)
    have hcr := hall.get (List.getElem?_eq_getElem hkl) (List.getElem?_eq_getElem hkr)
    have hgx : rs[((k : Nat) : Int).toNat]? = some rs[k] := List.getElem?_eq_getElem hkr
    have htk : l.take (k + 1) = l.take k ++ [l[k]] := List.take_succ_eq_append_getElem hkl
    have hxl := hf.2 _ (List.getElem_mem hkl)
    have hal2 : (l.take k).length ≤ k := by simp; omega
    generalize rs[k] = x at *
    generalize l[k] = cx at *
    obtain ⟨xi, xd, xp, xn, xc⟩ := x
    have hxsl : SlA encSide g (.slice xp xn xc) cx.sides := hcr.2.2
    have hxn : xn = cx.sides.length := Sl.slen hxsl
    subst hxn
    refine SC.skip (ST.thenN (SC.seq (SC.block (SC.seq (SC.region (SL.U (SU.fieldAddr underlying27 rfl sizeOf25 rfl) (SL.K (SQ.load isAgg25 rfl (CellAt.own 3 rfl rfl)) (SL.M rfl (SL.U (SU.indexAddr underlying25 sizeOf51 rfl rfl hb1 (by omega) (show (k : Int) < ((rs.length : Nat) : Int) by omega)) ?_)))))))))
    refine SL.K (SQ.elemA isAgg51 sizeOf51 rfl hrs.rd hgx) (SL.W (SO.alloc zeroValue51) ?_)
    rintro _ _ _ ⟨b5, rfl, rfl, rfl⟩
    refine SL.on (SO.storeAllK 0 sizeOf51 rfl rfl rfl rfl rfl (by exact ⟨rfl, rfl, rfl, trivial⟩)) ?_
    rintro _ _ _ ⟨rfl, rfl⟩
    refine SL.nil (ST.thenN (SC.seq (SC.region (SL.W (SO.buildSlice sty49 rfl rfl rfl (szs_mk trivial) (by decide)) ?_))))
    rintro _ _ _ ⟨b18, rfl, rfl, rfl⟩
    refine SL.emptyRow 55 2 (some ⟨b18, 0, none⟩) (SL.U (SU.fieldAddr underlying51 rfl sizeOf49 rfl) (SL.K (SQ.load isAgg49 rfl (CellAt.own 2 rfl rfl)) (SL.W (SO.appendE (m := cx.sides.length) 0 cx.sides.length (cx.sides.flatMap encSide.enc) sty49 rfl rfl rfl rfl rfl (Sl.rd hxsl) (encSide.length cx.sides) (encSide.ones cx.sides) (by omega) (by simp) (by omega) (by omega)) ?_)))
    rintro r21 _ _ ⟨rfl, rfl⟩
    refine SL.facts fun ⟨w0, hw0⟩ => ?_
    obtain ⟨q2, d2, rfl⟩ := rowA_form (e := encSide) (l := cx.sides) (i := 0) hw0 rfl
    clear hw0 w0
    obtain ⟨nc, hnc⟩ : ∃ nc : Rc, nc = ⟨xi, xd, q2, cx.sides.length, d2⟩ := ⟨_, rfl⟩
    refine SL.U (SU.fieldAddr underlying51 rfl sizeOf49 rfl) (SL.on (SO.store1 2 sizeOf49 rfl rfl rfl rfl (Nat.le_of_ble_eq_true rfl) (by rfl)) ?_)
    rintro _ _ _ ⟨rfl, rfl⟩
    refine SL.nil (ST.thenN (SC.region (SL.U (SU.fieldAddr underlying27 rfl sizeOf25 rfl) (SL.K (SQ.load isAgg25 rfl (CellAt.own 4 rfl rfl)) (SL.K (SQ.loadVarK 2 isAgg51 sizeOf51 rfl rfl rfl) (SL.W (SO.buildSlice sty25 rfl rfl rfl (szs_mk (by exact ⟨rfl, trivial⟩)) (by decide)) ?_))))))
    rintro _ _ _ ⟨b26, rfl, rfl, rfl⟩
    refine SL.W (SO.app1A (e := encCell) 3 nc sty25 rfl rfl rfl rfl (by rw [hnc]; rfl) (by (first | with_reducible rfl | ((try dsimp only); (try simp only [List.length_append, List.length_cons, List.length_nil, List.length_singleton, List.length_take, List.length_drop]) <;> omega))) (by (first | with_reducible rfl | ((try dsimp only); (try simp only [List.length_append, List.length_cons, List.length_nil, List.length_singleton, List.length_take, List.length_drop]) <;> omega)))) ?_
    rintro ov' _ _ ⟨rfl, rfl⟩
    refine SL.facts fun ⟨w0, hw0⟩ => ?_
    obtain ⟨q', d', rfl⟩ := rowA_form (e := encCell) (l := acc ++ [nc]) (i := 3) hw0 rfl
    clear hw0 w0
    refine SL.U (SU.fieldAddr underlying27 rfl sizeOf25 rfl) (SL.on (SO.storeAllK 4 sizeOf25 rfl rfl rfl rfl rfl (by exact ⟨rfl, trivial⟩)) ?_)
    rintro _ _ _ ⟨rfl, rfl⟩
    refine SL.nil (ST.blockN (ST.thenN (SC.region (SL.M rfl (SL.U (SU.add rfl rfl (by omega)) (SL.A rfl (SL.nil ?_)))))))
    refine ST.to (fun w hw => ?_) (g' := g) (s' := rowA encCell 51 (.slice q' (acc ++ [nc]).length d') (acc ++ [nc]) :: pt b3 (.cells #[.slice q' (acc ++ [nc]).length d'] 27 (0, 0)) :: pt b2 (.cells #[.slice none 0 0] 27 (0, 0)) :: pt b1 (.cells #[.slice p rs.length c] 27 (0, 0)) :: (ownS (l.take (k + 1)) (acc ++ [nc]) ++ s)) ?_
    · rw [htk, ownS_append cx nc hal]
      have h1 := (hw.sublist (s' := ownC cx nc :: (rowA encCell 51 (.slice q' (acc ++ [nc]).length d') (acc ++ [nc]) :: pt b3 (.cells #[.slice q' (acc ++ [nc]).length d'] 27 (0, 0)) :: pt b2 (.cells #[.slice none 0 0] 27 (0, 0)) :: pt b1 (.cells #[.slice p rs.length c] 27 (0, 0)) :: ownS (l.take k) acc) ++ s) (by rw [hnc]; exact .cons_cons _ (.cons _ (.cons _ (.refl _)))))
      have h2 := h1.perm List.perm_middle.symm
      simpa using h2
    exact ST.again (k + 1, _, acc ++ [nc]) ⟨rfl, rfl, rfl, rfl, trivial⟩ rfl rfl ⟨by (first | with_reducible rfl | ((try dsimp only); (try simp only [List.length_append, List.length_cons, List.length_nil, List.length_singleton, List.length_take, List.length_drop]) <;> omega)), by
      dsimp only
      rw [htk]
      exact hacc.append ⟨(by rw [hnc]; exact ⟨hcr.1, hcr.2.1, rfl⟩), trivial⟩⟩ (by (first | with_reducible rfl | ((try dsimp only); (try simp only [List.length_append, List.length_cons, List.length_nil, List.length_singleton, List.length_take, List.length_drop]) <;> omega)))
  · have hkk : l.take k = l := List.take_of_length_le (by omega)
    rw [hkk] at hacc ⊢
    refine SC.exit (ST.thenX (ST.thenX (ST.blockX (ST.thenN (SC.seq ?_)))))
    refine SC.facts fun ⟨w0, hw0⟩ => ?_
    obtain ⟨q2, d2, rfl⟩ := rowA_form (i := 0) hw0 rfl
    clear hw0 w0
    refine SC.region (SL.K (SQ.loadVarK 1 isAgg27 sizeOf27 rfl rfl rfl) (SL.on (SO.storeAllK 2 sizeOf27 rfl rfl rfl rfl rfl (by exact ⟨rfl, trivial⟩)) ?_))
    rintro _ _ _ ⟨rfl, rfl⟩
    refine SL.nil (ST.thenN (SC.ret ?_))
    exact ST.retCD 2 _ (.inl rfl) results33 rfl isAgg27 sizeOf27 rfl rfl (.cons_cons _ (.cons _ (.cons _ (.cons _ (.refl _))))) ⟨rfl, _, acc, rfl, hacc, rfl⟩
end Go.Proofs.YtkdibcicncjpdaaGreat
namespace Go.Proofs.YtkdibcicncjpdaaGreat
open _root_.Go.Proofs.Tryz _root_.Go.Proofs.YtkdibcicncjpdaaGreat.Tryz
open Go Go.Sy Go.Pl Go.Proofs
set_option maxRecDepth 100000
theorem sideEql (x y : Side) (w : World) : (binOp .eql 55 (.agg (encSide.enc x).toArray) (.agg (encSide.enc y).toArray)).run Tryz.prog w = .ok (.bool (decide (x = y))) w := by
  have hu : Tryz.prog.underlying 55 = some (.struct (Tryz.prog.fieldsOf 55)) := by kernel_rfl
  rw [run_eql_struct, run_equalIn_agg w 9999 55 _ _ hu stoodInHeld55]
  have hfs : ∃ f1 f2, (Tryz.prog.fieldsOf 55).toList = [f1, f2] ∧ f1.name ≠ "_" ∧ f2.name ≠ "_" ∧ f1.type = 3 ∧ f2.type = 3 ∧ f1.offset = 0 ∧ f2.offset = 1 := ⟨_, _, rfl, by decide, by decide, rfl, rfl, rfl, rfl⟩
  obtain ⟨f1, f2, e, n1, n2, t1, t2, o1, o2⟩ := hfs
  obtain ⟨a, b⟩ := x
  obtain ⟨c, d⟩ := y
  rw [e]
  have h1 := run_equalIn_int (P := Tryz.prog) w 9998 3 .i64 .i64 a c underlying3
  have h2 := run_equalIn_int (P := Tryz.prog) w 9998 3 .i64 .i64 b d underlying3
  simp only [Op.eqFields, n1, n2, t1, t2, o1, o2, encSide, part, ne_eq, not_false_eq_true, if_true, Sem.run_bind, isAgg3, Result.andThen_ok]
  simp [h1, h2]
  by_cases hac : a = c <;> by_cases hbd : b = d <;> simp [hac, hbd]
theorem SU.eqlSide {N : Nat} {f : Fr} {dst : Option Tmp} {ty : TypeId} {pos : String} {af : Array Edge} {gd : Option (Nat × Bool)} {x y : Operand} (a b : Side) {U : TypeId} (hx : ev f x = some (.agg (encSide.enc a).toArray)) (hy : ev f y = some (.agg (encSide.enc b).toArray)) :
    SU Tryz.prog N ⟨dst, .binOp .eql 55 x y U, ty, pos, af, gd⟩ f (.bool (decide (a = b))) := fun ac w ha => by
  have hg := run_eqGuard_agg (P := Tryz.prog) w .eql 55 x y (encSide.enc a).toArray (encSide.enc b).toArray eqGuardType55
  simp only [execOp, ha.ev hx, ha.ev hy, Sem.run_bind, hg, Result.andThen_ok, sideEql]
  rfl
def triL : List Cl := [⟨1, 0, []⟩, ⟨2, 0, []⟩, ⟨3, 0, []⟩, ⟨4, 1, [⟨1, -1⟩, ⟨2, 1⟩]⟩, ⟨5, 1, [⟨1, -1⟩, ⟨3, 1⟩]⟩, ⟨6, 1, [⟨2, -1⟩, ⟨3, 1⟩]⟩, ⟨7, 2, [⟨4, 1⟩, ⟨5, -1⟩, ⟨6, 1⟩]⟩]
def lessL : List Cl := [⟨1, 0, []⟩, ⟨2, 0, []⟩, ⟨3, 0, []⟩, ⟨4, 1, [⟨1, -1⟩, ⟨2, 1⟩]⟩, ⟨6, 1, [⟨2, -1⟩, ⟨3, 1⟩]⟩, ⟨7, 2, [⟨4, 1⟩, ⟨5, -1⟩, ⟨6, 1⟩]⟩]
def turnL : List Cl := [⟨1, 0, []⟩, ⟨2, 0, []⟩, ⟨3, 0, []⟩, ⟨4, 1, [⟨1, -1⟩, ⟨2, 1⟩]⟩, ⟨5, 1, [⟨1, -1⟩, ⟨3, 1⟩]⟩, ⟨6, 1, [⟨2, -1⟩, ⟨3, 1⟩]⟩, ⟨7, 2, [⟨4, 1⟩, ⟨5, 1⟩, ⟨6, 1⟩]⟩]
def edgeL : List Cl := [⟨1, 0, []⟩, ⟨2, 0, []⟩, ⟨3, 1, [⟨1, -1⟩, ⟨2, 1⟩]⟩]
theorem sortI_id {l : List Int} (h : l.Pairwise (· ≤ ·)) : sortI l = l := by
  unfold sortI
  exact List.mergeSort_of_pairwise (h.imp fun h => by simpa using h)
theorem setC_012 : setC [0, 1, 2] = [0, 1, 2] := by
  unfold setC
  rw [sortI_id (by decide)]
  rfl
theorem setC_01 : setC [0, 1] = [0, 1] := by
  unfold setC
  rw [sortI_id (by decide)]
  rfl
theorem simp_tri : simpC [[0, 1, 2]] = triL := by
  simp only [simpC, simpAll, setC_012]
  rfl
theorem simp_edge : simpC [[0, 1]] = edgeL := by
  simp only [simpC, simpAll, setC_01]
  rfl
theorem tri_find7 : findC triL 7 = some ⟨7, 2, [⟨4, 1⟩, ⟨5, -1⟩, ⟨6, 1⟩]⟩ := by kernel_rfl
theorem tri_find4 : findC triL 4 = some ⟨4, 1, [⟨1, -1⟩, ⟨2, 1⟩]⟩ := by kernel_rfl
theorem tri_check : checkC triL = (0, 0) := by kernel_rfl
theorem less_check : checkC lessL = (7, 22) := by kernel_rfl
theorem turn_check : checkC turnL = (7, 24) := by kernel_rfl
theorem tri_tops : topsC triL = [7] := by kernel_rfl
theorem tri_above : aboveC triL 2 = [4, 6] := by kernel_rfl
theorem tri_closF : closF (tabC triL) [4] = [4, 1, 2] := by kernel_rfl
theorem sortI_412 : sortI [4, 1, 2] = [1, 2, 4] := by
  have h1 : (sortI [4, 1, 2]).Perm [1, 2, 4] := (sortI_perm _).trans (by decide)
  have h2 : sortI [1, 2, 4] = [1, 2, 4] := sortI_id (by decide)
  rw [← h2]
  exact mergeSort_of_perm_i (by decide)
theorem tri_closure : closureC triL [4] = [1, 2, 4] := by
  unfold closureC
  rw [tri_closF, sortI_412]
theorem tri_euler : eulC triL = 1 := by kernel_rfl
def squareL : List Cl := prodC edgeL edgeL
theorem square_len : squareL.length = 9 := by kernel_rfl
theorem square_find : findC squareL 9 = some ⟨9, 2, [⟨3, -1⟩, ⟨6, 1⟩, ⟨7, 1⟩, ⟨8, -1⟩]⟩ := by kernel_rfl
theorem fits_dec {l : List Cl} (h : (l.all fun c => decide (c.sides.length < 100)) = true) (h2 : l.length < 100) : Fits l := by
  rw [List.all_eq_true] at h
  exact ⟨by omega, fun c hc => by have := h c hc; simp at this; omega⟩
theorem tri_fits : Fits triL := fits_dec (by decide) (by decide)
theorem less_fits : Fits lessL := fits_dec (by decide) (by decide)
theorem turn_fits : Fits turnL := fits_dec (by decide) (by decide)
theorem edge_fits : Fits edgeL := fits_dec (by decide) (by decide)
theorem square_fits : Fits squareL := fits_dec (by kernel_rfl) (by rw [square_len]; decide)
theorem triangle_spec (E : World) (g : PH) (s : Own) : Ctr Tryz.prog E 34 #[] g s (fun r g' s' => s = s' ∧ Le g g' ∧ ∃ u, r = .agg #[u] ∧ Cells g' u triL) := by
  refine Ctr.of (args := []) func34 rfl ntmps34 (Nat.le_of_ble_eq_true rfl) ?_
  refine SC.seq (SC.region (SL.W (SO.alloc zeroValue27) ?_))
  rintro _ _ _ ⟨b0, rfl, rfl, rfl⟩
  refine SL.nil (ST.thenN (SC.seq (SC.region (SL.W (SO.buildSlice sty45 rfl rfl rfl (szs_mk ⟨rfl, rfl, rfl, trivial⟩) (by decide)) ?_))))
  rintro _ _ _ ⟨b1, rfl, rfl, rfl⟩
  refine SL.freeze fun g1 hle1 hb1 => ?_
  refine SL.W (SO.buildSlice sty22 rfl rfl rfl (szs_mk ⟨rfl, trivial⟩) (by decide)) ?_
  rintro _ _ _ ⟨b2, rfl, rfl, rfl⟩
  refine SL.freeze fun g2 hle2 hb2 => ?_
  have hlit : Lists g2 (.slice (some ⟨b2, 0, none⟩) 1 1) [[0, 1, 2]] := ⟨[svOf (.slice (some ⟨b1, 0, none⟩) 3 3)], SlA.lit hb2 rfl rfl, ⟨SlA.lit (hle2 _ _ hb1) rfl rfl, trivial⟩⟩
  refine SL.W (SO.call call11 rfl (simplicial_spec E g2 _ _ _ hlit (by decide) (by decide))) ?_
  rintro _ g3 _ ⟨rfl, hle3, u, rfl, hu⟩
  rw [simp_tri] at hu
  obtain ⟨q, d, rfl⟩ := hu.form
  refine SL.on (SO.storeAllK 0 sizeOf27 rfl rfl rfl rfl rfl (by exact ⟨rfl, trivial⟩)) ?_
  rintro _ _ _ ⟨rfl, rfl⟩
  refine SL.nil (ST.thenN (SC.ret ?_))
  exact ST.retCD 0 s (.inl rfl) results34 rfl isAgg27 sizeOf27 rfl rfl (.cons _ (.refl _)) ⟨rfl, hle1.trans (hle2.trans hle3), _, rfl, hu⟩
end Go.Proofs.YtkdibcicncjpdaaGreat
namespace Go.Proofs.YtkdibcicncjpdaaGreat
open _root_.Go.Proofs.Tryz _root_.Go.Proofs.YtkdibcicncjpdaaGreat.Tryz
open Go Go.Sy Go.Pl Go.Proofs
set_option maxRecDepth 100000
theorem CellO.form {c : Cl} {r : Rc} (h : CellO c r) : ∃ p d, r = ⟨c.id, c.dim, ⟨p, c.sides.length, d⟩⟩ := by
  obtain ⟨i, dm, p, n, d⟩ := r
  obtain ⟨h1, h2, h3⟩ := h
  dsimp only at h1 h2 h3
  subst h1 h2 h3
  exact ⟨p, d, rfl⟩
theorem All2.cons_left {α β : Type} {R : α → β → Prop} {a : α} {l : List α} {m : List β} (h : All2 R (a :: l) m) : ∃ b m', m = b :: m' ∧ R a b ∧ All2 R l m' := by
  cases m with
  | nil => exact h.elim
  | cons b m => exact ⟨b, m, rfl, h.1, h.2⟩
theorem All2.nil_left {α β : Type} {R : α → β → Prop} {m : List β} (h : All2 R ([] : List α) m) : m = [] := by
  cases m with
  | nil => rfl
  | cons b m => exact h.elim
def triRs (p1 p2 p3 p4 p5 p6 p7 : Option Addr) (d1 d2 d3 d4 d5 d6 d7 : Nat) : List Rc :=
  [⟨1, 0, ⟨p1, 0, d1⟩⟩, ⟨2, 0, ⟨p2, 0, d2⟩⟩, ⟨3, 0, ⟨p3, 0, d3⟩⟩, ⟨4, 1, ⟨p4, 2, d4⟩⟩, ⟨5, 1, ⟨p5, 2, d5⟩⟩, ⟨6, 1, ⟨p6, 2, d6⟩⟩, ⟨7, 2, ⟨p7, 3, d7⟩⟩]
theorem tri_rs {rs : List Rc} (h : All2 CellO triL rs) : ∃ p1 p2 p3 p4 p5 p6 p7 d1 d2 d3 d4 d5 d6 d7, rs = triRs p1 p2 p3 p4 p5 p6 p7 d1 d2 d3 d4 d5 d6 d7 := by
  obtain ⟨r1, rs, rfl, h1, h⟩ := All2.cons_left h
  obtain ⟨r2, rs, rfl, h2, h⟩ := All2.cons_left h
  obtain ⟨r3, rs, rfl, h3, h⟩ := All2.cons_left h
  obtain ⟨r4, rs, rfl, h4, h⟩ := All2.cons_left h
  obtain ⟨r5, rs, rfl, h5, h⟩ := All2.cons_left h
  obtain ⟨r6, rs, rfl, h6, h⟩ := All2.cons_left h
  obtain ⟨r7, rs, rfl, h7, h⟩ := All2.cons_left h
  have := All2.nil_left h
  subst this
  obtain ⟨p1, d1, rfl⟩ := h1.form
  obtain ⟨p2, d2, rfl⟩ := h2.form
  obtain ⟨p3, d3, rfl⟩ := h3.form
  obtain ⟨p4, d4, rfl⟩ := h4.form
  obtain ⟨p5, d5, rfl⟩ := h5.form
  obtain ⟨p6, d6, rfl⟩ := h6.form
  obtain ⟨p7, d7, rfl⟩ := h7.form
  exact ⟨p1, p2, p3, p4, p5, p6, p7, d1, d2, d3, d4, d5, d6, d7, rfl⟩
theorem turn_o (p1 p2 p3 p4 p5 p6 p7 : Option Addr) (d1 d2 d3 d4 d5 d6 d7 : Nat) : All2 CellO turnL (triRs p1 p2 p3 p4 p5 p6 p7 d1 d2 d3 d4 d5 d6 d7) :=
  ⟨⟨rfl, rfl, rfl⟩, ⟨rfl, rfl, rfl⟩, ⟨rfl, rfl, rfl⟩, ⟨rfl, rfl, rfl⟩, ⟨rfl, rfl, rfl⟩, ⟨rfl, rfl, rfl⟩, ⟨rfl, rfl, rfl⟩, trivial⟩
theorem less_o (p1 p2 p3 p4 p5 p6 p7 : Option Addr) (d1 d2 d3 d4 d5 d6 d7 : Nat) : All2 CellO lessL ((triRs p1 p2 p3 p4 p5 p6 p7 d1 d2 d3 d4 d5 d6 d7).eraseIdx 4) :=
  ⟨⟨rfl, rfl, rfl⟩, ⟨rfl, rfl, rfl⟩, ⟨rfl, rfl, rfl⟩, ⟨rfl, rfl, rfl⟩, ⟨rfl, rfl, rfl⟩, ⟨rfl, rfl, rfl⟩, trivial⟩
theorem SU.eqlSideT {N : Nat} {f : Fr} {dst : Option Tmp} {ty : TypeId} {pos : String} {af : Array Edge} {gd : Option (Nat × Bool)} {x y : Operand} (a : Side) {U : TypeId} (hx : ev f x = some (.agg (encSide.enc a).toArray)) (hy : ev f y = some (.agg (encSide.enc a).toArray)) :
    SU Tryz.prog N ⟨dst, .binOp .eql 55 x y U, ty, pos, af, gd⟩ f (vb true) := SU.eq (SU.eqlSide a a hx hy) (congrArg vb (decide_eq_true rfl))
theorem cellR_form {g : PH} {c : Cl} {r : Rc} (h : CellR g c r) : ∃ p d, r = ⟨c.id, c.dim, ⟨p, c.sides.length, d⟩⟩ ∧ SlA encSide g (.slice p c.sides.length d) c.sides := by
  obtain ⟨i, dm, p, n, d⟩ := r
  obtain ⟨h1, h2, h3⟩ := h
  dsimp only at h1 h2 h3
  have h4 := (SlA.cap h3).1
  subst h1 h2 h4
  exact ⟨p, d, rfl, h3⟩
theorem less_at {E : World} {g : PH} {w : World} {X Y : Ent} {R : Own} {p1 p2 p3 p4 p5 p6 p7 : Option Addr} {d1 d2 d3 d4 d5 d6 d7 : Nat} (h : At E g (X :: Y :: (ownS triL (triRs p1 p2 p3 p4 p5 p6 p7 d1 d2 d3 d4 d5 d6 d7) ++ R)) w) :
    At E g (Y :: (ownS lessL ((triRs p1 p2 p3 p4 p5 p6 p7 d1 d2 d3 d4 d5 d6 d7).eraseIdx 4) ++ (X :: R))) w :=
  (h.sublist (s' := X :: ((Y :: ownS lessL ((triRs p1 p2 p3 p4 p5 p6 p7 d1 d2 d3 d4 d5 d6 d7).eraseIdx 4)) ++ R)) (.cons_cons _ (.cons_cons _ (.cons_cons _ (.cons_cons _ (.cons_cons _ (.cons_cons _ (.cons _ (.refl _))))))))).perm (List.perm_middle (l₁ := Y :: ownS lessL ((triRs p1 p2 p3 p4 p5 p6 p7 d1 d2 d3 d4 d5 d6 d7).eraseIdx 4))).symm
theorem turn_at {E : World} {g : PH} {w : World} {X Y : Ent} {R : Own} {p1 p2 p3 p4 p5 p6 p7 : Option Addr} {d1 d2 d3 d4 d5 d6 d7 : Nat} (h : At E g (X :: Y :: (ownS turnL (triRs p1 p2 p3 p4 p5 p6 p7 d1 d2 d3 d4 d5 d6 d7) ++ R)) w) :
    At E g (Y :: (ownS turnL (triRs p1 p2 p3 p4 p5 p6 p7 d1 d2 d3 d4 d5 d6 d7) ++ (X :: R))) w :=
  h.perm (List.perm_middle (l₁ := Y :: ownS turnL (triRs p1 p2 p3 p4 p5 p6 p7 d1 d2 d3 d4 d5 d6 d7))).symm
theorem tri_ids : ∀ c ∈ triL, inI64 c.id := by unfold inI64; decide
theorem sanity_spec (E : World) (hE : E.drawn = 0) (g : PH) (s : Own) : Ctr Tryz.prog E 9 #[] g s (fun r g' s' => r = vb true ∧ s = s' ∧ Le g g') := by
  refine Ctr.of (args := []) func9 rfl ntmps9 (Nat.le_of_ble_eq_true rfl) ?_
  refine SC.seq (SC.region (SL.A rfl (SL.nil (ST.thenN (SC.seq (SC.region (SL.W (SO.call call34 rfl (triangle_spec E g s)) ?_)))))))
  rintro _ g1 _ ⟨rfl, hle1, u, rfl, hu⟩
  obtain ⟨q, d, rfl⟩ := hu.form
  refine SL.W (SO.alloc zeroValue27) ?_
  rintro _ _ _ ⟨b1, rfl, rfl, rfl⟩
  refine SL.on (SO.storeAllK 0 sizeOf27 rfl rfl rfl rfl rfl (by exact ⟨rfl, trivial⟩)) ?_
  rintro _ _ _ ⟨rfl, rfl⟩
  refine SL.nil (ST.thenN (SC.seq (SC.region (SL.K (SQ.loadVarK 0 isAgg27 sizeOf27 rfl rfl rfl) (SL.W (SO.call call31 rfl (find_spec E g1 _ _ triL 7 hu tri_fits)) ?_)))))
  rintro _ g2 _ ⟨rfl, hle2, x, rfl, hx⟩
  rw [tri_find7] at hx
  rw [tri_find7]
  obtain ⟨xp, xd, rfl, hxs⟩ := cellR_form (c := ⟨7, 2, [⟨4, 1⟩, ⟨5, -1⟩, ⟨6, 1⟩]⟩) hx
  have hbx : based (.slice xp 3 xd) = true := hxs.based (by decide)
  have hu2 := hu.mono hle2
  refine SL.M rfl (SL.U (SU.extract rfl rfl) (SL.U (SU.extract rfl rfl) (SL.W (SO.alloc zeroValue51) ?_)))
  rintro _ _ _ ⟨b2, rfl, rfl, rfl⟩
  refine SL.on (SO.storeAllK 0 sizeOf51 rfl rfl rfl rfl rfl (by exact ⟨rfl, rfl, rfl, trivial⟩)) ?_
  rintro _ _ _ ⟨rfl, rfl⟩
  refine SL.A rfl (SL.nil (ST.thenN (SC.seq (SC.region (SL.K (SQ.loadVarK 1 isAgg27 sizeOf27 rfl rfl rfl) (SL.W (SO.call call31 rfl (find_spec E g2 _ _ triL 4 hu2 tri_fits)) ?_))))))
  rintro _ g3 _ ⟨rfl, hle3, y, rfl, hy⟩
  rw [tri_find4] at hy
  rw [tri_find4]
  obtain ⟨yp, yd, rfl, hys⟩ := cellR_form (c := ⟨4, 1, [⟨1, -1⟩, ⟨2, 1⟩]⟩) hy
  have hby : based (.slice yp 2 yd) = true := hys.based (by decide)
  have hu3 := hu2.mono hle3
  have hxs3 := hxs.mono hle3
  refine SL.M rfl (SL.U (SU.extract rfl rfl) (SL.U (SU.extract rfl rfl) (SL.W (SO.alloc zeroValue51) ?_)))
  rintro _ _ _ ⟨b4, rfl, rfl, rfl⟩
  refine SL.on (SO.storeAllK 0 sizeOf51 rfl rfl rfl rfl rfl (by exact ⟨rfl, rfl, rfl, trivial⟩)) ?_
  rintro _ _ _ ⟨rfl, rfl⟩
  refine SL.A rfl (SL.nil (ST.thenN (SC.seq (SC.seq ?_))))
  refine SC.to (fun w hw => hw) (g' := g3) (s' := pt b4 (.cells #[vi 4, vi 1, .slice yp 2 yd] 51 (0, 0)) :: pt b2 (.cells #[vi 7, vi 2, .slice xp 3 xd] 51 (0, 0)) :: pt b1 (.cells #[.slice q triL.length d] 27 (0, 0)) :: s) ?_
  refine SC.region (SL.M rfl (SL.U (SU.not rfl) (SL.M rfl ?_)))
  first | refine SL.gu (Gd.onT rfl rfl rfl (by decide)) (SU.move rfl) (by decide) ?_ | refine SL.off (Gd.onF rfl rfl rfl (by decide)) (by decide) ?_ | refine SL.off (Gd.off rfl rfl rfl (by decide)) (by decide) ?_
  first | refine SL.gu (Gd.onT rfl rfl rfl (by decide)) (SU.not rfl) (by decide) ?_ | refine SL.off (Gd.onF rfl rfl rfl (by decide)) (by decide) ?_ | refine SL.off (Gd.off rfl rfl rfl (by decide)) (by decide) ?_
  refine SL.U (SU.pickF rfl rfl) (SL.M rfl ?_)
  first | refine SL.gu (Gd.onT rfl rfl rfl (by decide)) (SU.fieldAddr underlying51 rfl sizeOf49 rfl) (by decide) ?_ | refine SL.off (Gd.onF rfl rfl rfl (by decide)) (by decide) ?_ | refine SL.off (Gd.off rfl rfl rfl (by decide)) (by decide) ?_
  first | refine SL.gq (Gd.onT rfl rfl rfl (by decide)) (SQ.load (v := .slice xp 3 xd) isAgg49 rfl (CellAt.own 1 rfl rfl)) (by decide) ?_ | refine SL.off (Gd.onF rfl rfl rfl (by decide)) (by decide) ?_ | refine SL.off (Gd.off rfl rfl rfl (by decide)) (by decide) ?_
  first | refine SL.gu (Gd.onT rfl rfl rfl (by decide)) (SU.lenN underlying49 rfl) (by decide) ?_ | refine SL.off (Gd.onF rfl rfl rfl (by decide)) (by decide) ?_ | refine SL.off (Gd.off rfl rfl rfl (by decide)) (by decide) ?_
  first | refine SL.gu (Gd.onT rfl rfl rfl (by decide)) (SU.neq rfl rfl) (by decide) ?_ | refine SL.off (Gd.onF rfl rfl rfl (by decide)) (by decide) ?_ | refine SL.off (Gd.off rfl rfl rfl (by decide)) (by decide) ?_
  refine SL.U (SU.pickF rfl rfl) (SL.M rfl ?_)
  first | refine SL.gu (Gd.onT rfl rfl rfl (by decide)) (SU.fieldAddr underlying27 rfl sizeOf25 rfl) (by decide) ?_ | refine SL.off (Gd.onF rfl rfl rfl (by decide)) (by decide) ?_ | refine SL.off (Gd.off rfl rfl rfl (by decide)) (by decide) ?_
  first | refine SL.gq (Gd.onT rfl rfl rfl (by decide)) (SQ.load isAgg25 rfl (CellAt.own 2 rfl rfl)) (by decide) ?_ | refine SL.off (Gd.onF rfl rfl rfl (by decide)) (by decide) ?_ | refine SL.off (Gd.off rfl rfl rfl (by decide)) (by decide) ?_
  first | refine SL.gu (Gd.onT rfl rfl rfl (by decide)) (SU.lenN underlying25 rfl) (by decide) ?_ | refine SL.off (Gd.onF rfl rfl rfl (by decide)) (by decide) ?_ | refine SL.off (Gd.off rfl rfl rfl (by decide)) (by decide) ?_
  first | refine SL.gu (Gd.onT rfl rfl rfl (by decide)) (SU.neq rfl rfl) (by decide) ?_ | refine SL.off (Gd.onF rfl rfl rfl (by decide)) (by decide) ?_ | refine SL.off (Gd.off rfl rfl rfl (by decide)) (by decide) ?_
  refine SL.U (SU.pickF rfl rfl) (SL.M rfl ?_)
  first | refine SL.gu (Gd.onT rfl rfl rfl (by decide)) (SU.fieldAddr underlying51 rfl sizeOf49 rfl) (by decide) ?_ | refine SL.off (Gd.onF rfl rfl rfl (by decide)) (by decide) ?_ | refine SL.off (Gd.off rfl rfl rfl (by decide)) (by decide) ?_
  first | refine SL.gq (Gd.onT rfl rfl rfl (by decide)) (SQ.load (v := .slice yp 2 yd) isAgg49 rfl (CellAt.own 0 rfl rfl)) (by decide) ?_ | refine SL.off (Gd.onF rfl rfl rfl (by decide)) (by decide) ?_ | refine SL.off (Gd.off rfl rfl rfl (by decide)) (by decide) ?_
  first | refine SL.gu (Gd.onT rfl rfl rfl (by decide)) (SU.lenN underlying49 rfl) (by decide) ?_ | refine SL.off (Gd.onF rfl rfl rfl (by decide)) (by decide) ?_ | refine SL.off (Gd.off rfl rfl rfl (by decide)) (by decide) ?_
  first | refine SL.gu (Gd.onT rfl rfl rfl (by decide)) (SU.neq rfl rfl) (by decide) ?_ | refine SL.off (Gd.onF rfl rfl rfl (by decide)) (by decide) ?_ | refine SL.off (Gd.off rfl rfl rfl (by decide)) (by decide) ?_
  refine SL.U (SU.pickF rfl rfl) (SL.nil (ST.thenN (SC.condF rfl (SC.skip (ST.thenN (SC.seq (SC.region (SL.U (SU.fieldAddr underlying51 rfl sizeOf49 rfl) (SL.K (SQ.load (v := .slice xp 3 xd) isAgg49 rfl (CellAt.own 1 rfl rfl)) (SL.U (SU.indexAddr underlying49 sizeOf55 rfl rfl hbx (by decide) (show (0 : Int) < ((3 : Nat) : Int) by decide)) ?_))))))))))
  refine SL.K (SQ.elemA (a := ⟨4, 1⟩) isAgg55 sizeOf55 rfl hxs3.rd rfl) (SL.U (SU.build rfl (buildS55 4 1)) (SL.U (SU.eqlSideT ⟨4, 1⟩ rfl rfl) (SL.M rfl (SL.Y rfl rfl rfl (SU.fieldAddr underlying51 rfl sizeOf49 rfl) (SL.gq (Gd.onT rfl rfl rfl (by decide)) (SQ.load (v := .slice xp 3 xd) isAgg49 rfl (CellAt.own 1 rfl rfl)) (by decide) (SL.Y rfl rfl rfl (SU.indexAddr underlying49 sizeOf55 rfl rfl hbx (by decide) (show (1 : Int) < ((3 : Nat) : Int) by decide)) ?_))))))
  refine SL.gq (Gd.onT rfl rfl rfl (by decide)) (SQ.elemA (a := ⟨5, -1⟩) isAgg55 sizeOf55 rfl hxs3.rd rfl) (by decide) (SL.Y rfl rfl rfl (SU.build rfl (buildS55 5 (-1))) (SL.Y rfl rfl rfl (SU.eqlSideT ⟨5, -1⟩ rfl rfl) (SL.U (SU.pickT rfl rfl) (SL.M rfl (SL.Y rfl rfl rfl (SU.fieldAddr underlying51 rfl sizeOf49 rfl) (SL.gq (Gd.onT rfl rfl rfl (by decide)) (SQ.load (v := .slice xp 3 xd) isAgg49 rfl (CellAt.own 1 rfl rfl)) (by decide) (SL.Y rfl rfl rfl (SU.indexAddr underlying49 sizeOf55 rfl rfl hbx (by decide) (show (2 : Int) < ((3 : Nat) : Int) by decide)) ?_)))))))
  refine SL.gq (Gd.onT rfl rfl rfl (by decide)) (SQ.elemA (a := ⟨6, 1⟩) isAgg55 sizeOf55 rfl hxs3.rd rfl) (by decide) (SL.Y rfl rfl rfl (SU.build rfl (buildS55 6 1)) (SL.Y rfl rfl rfl (SU.eqlSideT ⟨6, 1⟩ rfl rfl) (SL.U (SU.pickT rfl rfl) (SL.M rfl (SL.Y rfl rfl rfl (SU.fieldAddr underlying51 rfl sizeOf49 rfl) (SL.gq (Gd.onT rfl rfl rfl (by decide)) (SQ.load (v := .slice yp 2 yd) isAgg49 rfl (CellAt.own 0 rfl rfl)) (by decide) (SL.Y rfl rfl rfl (SU.indexAddr underlying49 sizeOf55 rfl rfl hby (by decide) (show (0 : Int) < ((2 : Nat) : Int) by decide)) ?_)))))))
  refine SL.gq (Gd.onT rfl rfl rfl (by decide)) (SQ.elemA (a := ⟨1, -1⟩) isAgg55 sizeOf55 rfl hys.rd rfl) (by decide) (SL.Y rfl rfl rfl (SU.build rfl (buildS55 1 (-1))) (SL.Y rfl rfl rfl (SU.eqlSideT ⟨1, -1⟩ rfl rfl) (SL.U (SU.pickT rfl rfl) (SL.A rfl (SL.nil (ST.thenN (SC.seq (SC.region (SL.K (SQ.loadVarK 2 isAgg27 sizeOf27 rfl rfl rfl) (SL.W (SO.call call33 rfl (copy_own E g3 _ _ triL hu3 tri_fits)) ?_))))))))))
  rintro _ _ _ ⟨rfl, u1, rs1, rfl, hO1, rfl⟩
  obtain ⟨p1, p2, p3, p4, p5, p6, p7, d1, d2, d3, d4, d5, d6, d7, rfl⟩ := tri_rs hO1
  refine SL.facts fun ⟨w0, hw0⟩ => ?_
  obtain ⟨pu, cu, rfl⟩ := rowA_form (i := 0) hw0 rfl
  obtain ⟨bu, cap, rfl, rfl, hcap⟩ := row_cap (i := 0) hw0 rfl (show 0 < 7 by decide)
  have hcap7 : 7 ≤ cap + 1 := hcap
  clear hw0 w0
  refine SL.W (SO.alloc zeroValue27) ?_
  rintro _ _ _ ⟨b7, rfl, rfl, rfl⟩
  refine SL.on (SO.storeAllK 0 sizeOf27 rfl rfl rfl rfl rfl (by exact ⟨rfl, trivial⟩)) ?_
  rintro _ _ _ ⟨rfl, rfl⟩
  refine SL.nil (ST.thenN (SC.seq ?_))
  refine SC.draw [6, 7, 8] [(0, 2), (1, 1), (2, 2), (3, 2), (4, 1), (5, 2), (6, 0), (7, 0), (8, 0)] Tryz.mixed (by kernel_rfl) ?_
  refine SP.U (i := 0) rfl (SU.fieldAddr underlying27 rfl sizeOf25 rfl) (SP.K (i := 1) rfl (SQ.load isAgg25 rfl (CellAt.own 0 rfl rfl)) (SP.U (i := 2) rfl (SU.sliceH underlying25 sizeOf51 rfl rfl (by decide) (by omega)) (SP.U (i := 3) rfl (SU.fieldAddr underlying27 rfl sizeOf25 rfl) (SP.K (i := 4) rfl (SQ.load isAgg25 rfl (CellAt.own 0 rfl rfl)) (SP.U (i := 5) rfl (SU.sliceL underlying25 sizeOf51 rfl rfl (by decide) (show (5 : Int) ≤ ((7 : Nat) : Int) by decide)) ?_)))))
  refine SP.o (i := 6) rfl (SO.cutA (j := 4) (n := 7) (c := cap + 1) (p := some ⟨bu, 0, none⟩) (e := encCell) 1 sty25 rfl rfl rfl rfl (show 4 < 7 by decide)) (by decide) (.inl (by decide)) ?_
  rintro _ _ _ ⟨rfl, rfl, rfl⟩
  refine SP.ou (i := 7) rfl (SU.fieldAddr underlying27 rfl sizeOf25 rfl) (by decide) (.inl (by decide)) (SP.on (i := 8) rfl (SO.storeAllK 0 sizeOf25 rfl rfl rfl rfl rfl (by exact ⟨rfl, trivial⟩)) (.inl (by decide)) ?_)
  rintro _ _ _ ⟨rfl, rfl⟩
  refine SP.nil (ST.thenN (SC.seq ?_))
  refine SC.to (g' := g3) (s' := rowA encCell 51 (.slice (some ⟨bu, 0, none⟩) 6 (cap + 1)) ((triRs p1 p2 p3 p4 p5 p6 p7 d1 d2 d3 d4 d5 d6 d7).eraseIdx 4) :: (ownS lessL ((triRs p1 p2 p3 p4 p5 p6 p7 d1 d2 d3 d4 d5 d6 d7).eraseIdx 4) ++ (pt b7 (.cells #[.slice (some ⟨bu, 0, none⟩) 6 (cap + 1)] 27 (0, 0)) :: pt b4 (.cells #[vi 4, vi 1, .slice yp 2 yd] 51 (0, 0)) :: pt b2 (.cells #[vi 7, vi 2, .slice xp 3 xd] 51 (0, 0)) :: pt b1 (.cells #[.slice q triL.length d] 27 (0, 0)) :: s))) (fun w hw => less_at hw) ?_
  refine SC.freezeCells (less_o _ _ _ _ _ _ _ _ _ _ _ _ _ _) fun g4 hle4 hless => ?_
  have hu4 := hu3.mono hle4
  refine SC.region (SL.K (SQ.loadVarK 3 isAgg27 sizeOf27 rfl rfl rfl) (SL.W (SO.call call33 rfl (copy_own E g4 _ _ triL hu4 tri_fits)) ?_))
  rintro _ _ _ ⟨rfl, u2, rs2, rfl, hO2, rfl⟩
  obtain ⟨r1, r2, r3, r4, r5, r6, r7, e1, e2, e3, e4, e5, e6, e7, rfl⟩ := tri_rs hO2
  refine SL.facts fun ⟨w0, hw0⟩ => ?_
  obtain ⟨pv, cv, rfl⟩ := rowA_form (i := 0) hw0 rfl
  obtain ⟨bv, cap2, rfl, rfl, hcap2⟩ := row_cap (i := 0) hw0 rfl (show 0 < 7 by decide)
  have hb7 : based (.slice r7 3 e7) = true := (by obtain ⟨b0, c0, he⟩ := rowA_based (i := 7) hw0 rfl (show 0 < 3 by decide); rw [show Value.slice r7 3 e7 = _ from he]; rfl)
  clear hw0 w0
  refine SL.W (SO.alloc zeroValue27) ?_
  rintro _ _ _ ⟨b8, rfl, rfl, rfl⟩
  refine SL.on (SO.storeAllK 0 sizeOf27 rfl rfl rfl rfl rfl (by exact ⟨rfl, trivial⟩)) ?_
  rintro _ _ _ ⟨rfl, rfl⟩
  refine SL.nil (ST.thenN (SC.seq (SC.seq ?_)))
  refine SC.to (g' := g4) (s' := pt b8 (.cells #[.slice (some ⟨bv, 0, none⟩) 7 (cap2 + 1)] 27 (0, 0)) :: rowA encCell 51 (.slice (some ⟨bv, 0, none⟩) 7 (cap2 + 1)) (triRs r1 r2 r3 r4 r5 r6 r7 e1 e2 e3 e4 e5 e6 e7) :: (ownS triL (triRs r1 r2 r3 r4 r5 r6 r7 e1 e2 e3 e4 e5 e6 e7) ++ (pt b7 (.cells #[.slice (some ⟨bu, 0, none⟩) 6 (cap + 1)] 27 (0, 0)) :: pt b4 (.cells #[vi 4, vi 1, .slice yp 2 yd] 51 (0, 0)) :: pt b2 (.cells #[vi 7, vi 2, .slice xp 3 xd] 51 (0, 0)) :: pt b1 (.cells #[.slice q triL.length d] 27 (0, 0)) :: s))) (fun w hw => hw) ?_
  refine SC.region (SL.U (SU.fieldAddr underlying27 rfl sizeOf25 rfl) (SL.K (SQ.load (v := .slice (some ⟨bv, 0, none⟩) 7 (cap2 + 1)) isAgg25 rfl (CellAt.own 0 rfl rfl)) (SL.U (SU.indexAddr underlying25 sizeOf51 rfl rfl rfl (by decide) (show (6 : Int) < ((7 : Nat) : Int) by decide)) ?_)))
  refine SL.U (SU.fieldAddrC (v := .slice (some ⟨bv, 0, none⟩) 7 (cap2 + 1)) (o := 18) underlying51 rfl sizeOf49 rfl rfl) (SL.K (SQ.partA (e := encCell) (a := ⟨7, 2, ⟨r7, 3, e7⟩⟩) (j := 6) (o := 2) (u := .slice r7 3 e7) isAgg49 rfl (Rd.rowA (v := .slice (some ⟨bv, 0, none⟩) 7 (cap2 + 1)) 1 rfl) rfl rfl) (SL.U (SU.lenN underlying49 rfl) (SL.U (SU.neq rfl rfl) (SL.nil (ST.thenN (SC.condF rfl (SC.skip (ST.thenN (SC.seq (SC.region (SL.U (SU.fieldAddr underlying27 rfl sizeOf25 rfl) (SL.K (SQ.load (v := .slice (some ⟨bv, 0, none⟩) 7 (cap2 + 1)) isAgg25 rfl (CellAt.own 0 rfl rfl)) (SL.U (SU.indexAddr underlying25 sizeOf51 rfl rfl rfl (by decide) (show (6 : Int) < ((7 : Nat) : Int) by decide)) ?_)))))))))))))
  refine SL.U (SU.fieldAddrC (v := .slice (some ⟨bv, 0, none⟩) 7 (cap2 + 1)) (o := 18) underlying51 rfl sizeOf49 rfl rfl) (SL.K (SQ.partA (e := encCell) (a := ⟨7, 2, ⟨r7, 3, e7⟩⟩) (j := 6) (o := 2) (u := .slice r7 3 e7) isAgg49 rfl (Rd.rowA (v := .slice (some ⟨bv, 0, none⟩) 7 (cap2 + 1)) 1 rfl) rfl rfl) (SL.U (SU.indexAddr underlying49 sizeOf55 rfl rfl hb7 (by decide) (show (1 : Int) < ((3 : Nat) : Int) by decide)) ?_))
  refine SL.U (SU.fieldAddrC (v := .slice r7 3 e7) (o := 2) underlying55 rfl sizeOf3 rfl hb7) (SL.on (SO.partA (e := encSide) (a := ⟨5, -1⟩) (j := 1) (o := 1) 8 ⟨5, 1⟩ sizeOf3 rfl rfl rfl rfl rfl rfl (by decide) rfl) ?_)
  rintro _ _ _ ⟨rfl, rfl⟩
  refine SL.nil (ST.thenN (SC.seq ?_))
  refine SC.to (g' := g4) (s' := rowA encCell 51 (.slice (some ⟨bv, 0, none⟩) 7 (cap2 + 1)) (triRs r1 r2 r3 r4 r5 r6 r7 e1 e2 e3 e4 e5 e6 e7) :: (ownS turnL (triRs r1 r2 r3 r4 r5 r6 r7 e1 e2 e3 e4 e5 e6 e7) ++ (pt b8 (.cells #[.slice (some ⟨bv, 0, none⟩) 7 (cap2 + 1)] 27 (0, 0)) :: pt b7 (.cells #[.slice (some ⟨bu, 0, none⟩) 6 (cap + 1)] 27 (0, 0)) :: pt b4 (.cells #[vi 4, vi 1, .slice yp 2 yd] 51 (0, 0)) :: pt b2 (.cells #[vi 7, vi 2, .slice xp 3 xd] 51 (0, 0)) :: pt b1 (.cells #[.slice q triL.length d] 27 (0, 0)) :: s))) (fun w hw => turn_at hw) ?_
  refine SC.freezeCells (turn_o _ _ _ _ _ _ _ _ _ _ _ _ _ _) fun g5 hle5 hturn => ?_
  have hu5 := hu4.mono hle5
  refine SC.region (SL.K (SQ.loadVarK 1 isAgg27 sizeOf27 rfl rfl rfl) (SL.W (SO.call call12 rfl (check_spec E g5 _ _ lessL (hless.mono hle5) less_fits)) ?_))
  rintro _ _ _ ⟨rfl, rfl, rfl⟩
  rw [less_check]
  refine SL.M rfl (SL.U (SU.extract rfl rfl) (SL.U (SU.extract rfl rfl) (SL.A rfl (SL.A rfl (SL.nil (ST.thenN (SC.seq (SC.region (SL.K (SQ.loadVarK 0 isAgg27 sizeOf27 rfl rfl rfl) (SL.W (SO.call call12 rfl (check_spec E g5 _ _ turnL hturn turn_fits)) ?_))))))))))
  rintro _ _ _ ⟨rfl, rfl, rfl⟩
  rw [turn_check]
  refine SL.M rfl (SL.U (SU.extract rfl rfl) (SL.U (SU.extract rfl rfl) (SL.A rfl (SL.A rfl (SL.nil (ST.thenN (SC.seq (SC.region (SL.K (SQ.loadVarK 4 isAgg27 sizeOf27 rfl rfl rfl) (SL.W (SO.call call12 rfl (check_spec E g5 _ _ triL hu5 tri_fits)) ?_))))))))))
  rintro _ _ _ ⟨rfl, rfl, rfl⟩
  rw [tri_check]
  refine SL.M rfl (SL.U (SU.extract rfl rfl) (SL.U (SU.extract rfl rfl) (SL.A rfl (SL.A rfl (SL.nil (ST.thenN (SC.seq (SC.region (SL.M rfl (SL.U (SU.eql rfl rfl) (SL.M rfl (SL.Y rfl rfl rfl (SU.move rfl) (SL.Y rfl rfl rfl (SU.eql rfl rfl) (SL.U (SU.pickT rfl rfl) (SL.M rfl (SL.Y rfl rfl rfl (SU.move rfl) (SL.Y rfl rfl rfl (SU.eql rfl rfl) (SL.U (SU.pickT rfl rfl) (SL.M rfl (SL.Y rfl rfl rfl (SU.move rfl) (SL.Y rfl rfl rfl (SU.eql rfl rfl) (SL.U (SU.pickT rfl rfl) (SL.M rfl (SL.Y rfl rfl rfl (SU.move rfl) (SL.Y rfl rfl rfl (SU.eql rfl rfl) (SL.U (SU.pickT rfl rfl) (SL.M rfl (SL.Y rfl rfl rfl (SU.move rfl) (SL.Y rfl rfl rfl (SU.eql rfl rfl) ?_)))))))))))))))))))))))))))))
  refine SL.U (SU.pickT rfl rfl) (SL.A rfl (SL.nil (ST.thenN (SC.seq (SC.region (SL.K (SQ.loadVarK 4 isAgg27 sizeOf27 rfl rfl rfl) (SL.W (SO.call call36 rfl (tops_spec E g5 _ _ triL hu5 tri_fits)) ?_)))))))
  rintro v150 g6 _ ⟨rfl, hle6, h150⟩
  rw [tri_tops] at h150
  have hu6 := hu5.mono hle6
  refine SL.W (SO.buildSlice sty45 rfl rfl rfl (szs_mk ⟨rfl, trivial⟩) (by decide)) ?_
  rintro _ _ _ ⟨b151, rfl, rfl, rfl⟩
  refine SL.freeze fun g7 hle7 hb151 => ?_
  have h151 : Ints g7 (.slice (some ⟨b151, 0, none⟩) 1 1) [7] := SlA.lit hb151 rfl rfl
  have hu7 := hu6.mono hle7
  refine SL.W (SO.call call35 rfl (ints_spec E g7 _ _ _ [7] [7] (h150.mono hle7) h151 (by decide))) ?_
  rintro _ _ _ ⟨rfl, rfl, rfl⟩
  rw [show decide (([7] : List Int) = [7]) = true from decide_eq_true rfl]
  refine SL.M rfl (SL.gq (Gd.onT rfl rfl rfl (by decide)) (SQ.loadVarK 4 isAgg27 sizeOf27 rfl rfl rfl) (by decide) (SL.go (Gd.onT rfl rfl rfl (by decide)) (SO.call call37 rfl (above_spec E g7 _ _ triL 2 hu7 tri_fits)) (by decide) ?_))
  rintro v155 g8 _ ⟨rfl, hle8, h155⟩
  rw [tri_above] at h155
  have hu8 := hu7.mono hle8
  refine SL.go (Gd.onT rfl rfl rfl (by decide)) (SO.buildSlice sty45 rfl rfl rfl (szs_mk ⟨rfl, rfl, trivial⟩) (by decide)) (by decide) ?_
  rintro _ _ _ ⟨b156, rfl, rfl, rfl⟩
  refine SL.freeze fun g9 hle9 hb156 => ?_
  have h156 : Ints g9 (.slice (some ⟨b156, 0, none⟩) 2 2) [4, 6] := SlA.lit hb156 rfl rfl
  have hu9 := hu8.mono hle9
  refine SL.go (Gd.onT rfl rfl rfl (by decide)) (SO.call call35 rfl (ints_spec E g9 _ _ _ [4, 6] [4, 6] (h155.mono hle9) h156 (by decide))) (by decide) ?_
  rintro _ _ _ ⟨rfl, rfl, rfl⟩
  rw [show decide (([4, 6] : List Int) = [4, 6]) = true from decide_eq_true rfl]
  refine SL.U (SU.pickT rfl rfl) (SL.M rfl (SL.gq (Gd.onT rfl rfl rfl (by decide)) (SQ.loadVarK 4 isAgg27 sizeOf27 rfl rfl rfl) (by decide) (SL.go (Gd.onT rfl rfl rfl (by decide)) (SO.buildSlice sty45 rfl rfl rfl (szs_mk ⟨rfl, trivial⟩) (by decide)) (by decide) ?_)))
  rintro _ _ _ ⟨b161, rfl, rfl, rfl⟩
  refine SL.freeze fun g10 hle10 hb161 => ?_
  have h161 : Ints g10 (.slice (some ⟨b161, 0, none⟩) 1 1) [4] := SlA.lit hb161 rfl rfl
  have hu10 := hu9.mono hle10
  refine SL.go (Gd.onT rfl rfl rfl (by decide)) (SO.call call29 rfl (closureTop E hE g10 _ _ _ triL [4] hu10 tri_fits h161 (by decide) tri_ids)) (by decide) ?_
  rintro v162 g11 _ ⟨rfl, hle11, h162⟩
  rw [tri_closure] at h162
  have hu11 := hu10.mono hle11
  refine SL.go (Gd.onT rfl rfl rfl (by decide)) (SO.buildSlice sty45 rfl rfl rfl (szs_mk ⟨rfl, rfl, rfl, trivial⟩) (by decide)) (by decide) ?_
  rintro _ _ _ ⟨b163, rfl, rfl, rfl⟩
  refine SL.freeze fun g12 hle12 hb163 => ?_
  have h163 : Ints g12 (.slice (some ⟨b163, 0, none⟩) 3 3) [1, 2, 4] := SlA.lit hb163 rfl rfl
  have hu12 := hu11.mono hle12
  refine SL.go (Gd.onT rfl rfl rfl (by decide)) (SO.call call35 rfl (ints_spec E g12 _ _ _ [1, 2, 4] [1, 2, 4] (h162.mono hle12) h163 (by decide))) (by decide) ?_
  rintro _ _ _ ⟨rfl, rfl, rfl⟩
  rw [show decide (([1, 2, 4] : List Int) = [1, 2, 4]) = true from decide_eq_true rfl]
  refine SL.U (SU.pickT rfl rfl) (SL.A rfl (SL.nil (ST.thenN (SC.seq (SC.region (SL.W (SO.buildSlice sty45 rfl rfl rfl (szs_mk ⟨rfl, rfl, trivial⟩) (by decide)) ?_))))))
  rintro _ _ _ ⟨b166, rfl, rfl, rfl⟩
  refine SL.freeze fun g13 hle13 hb166 => ?_
  have h166 : Ints g13 (.slice (some ⟨b166, 0, none⟩) 2 2) [0, 1] := SlA.lit hb166 rfl rfl
  have hu13 := hu12.mono hle13
  refine SL.W (SO.buildSlice sty22 rfl rfl rfl (szs_mk ⟨rfl, trivial⟩) (by decide)) ?_
  rintro _ _ _ ⟨b167, rfl, rfl, rfl⟩
  refine SL.freeze fun g14 hle14 hb167 => ?_
  have hlit : Lists g14 (.slice (some ⟨b167, 0, none⟩) 1 1) [[0, 1]] := ⟨[svOf (.slice (some ⟨b166, 0, none⟩) 2 2)], SlA.lit hb167 rfl rfl, ⟨h166.mono hle14, trivial⟩⟩
  have hu14 := hu13.mono hle14
  refine SL.W (SO.call call11 rfl (simplicial_spec E g14 _ _ _ hlit (by decide) (by decide))) ?_
  rintro _ g15 _ ⟨rfl, hle15, ue, rfl, hedge⟩
  rw [simp_edge] at hedge
  obtain ⟨qe, de, rfl⟩ := hedge.form
  have hu15 := hu14.mono hle15
  refine SL.W (SO.alloc zeroValue27) ?_
  rintro _ _ _ ⟨b17, rfl, rfl, rfl⟩
  refine SL.on (SO.storeAllK 0 sizeOf27 rfl rfl rfl rfl rfl (by exact ⟨rfl, trivial⟩)) ?_
  rintro _ _ _ ⟨rfl, rfl⟩
  refine SL.nil (ST.thenN (SC.seq (SC.region (SL.K (SQ.loadVarK 0 isAgg27 sizeOf27 rfl rfl rfl) (SL.K (SQ.loadVarK 0 isAgg27 sizeOf27 rfl rfl rfl) (SL.W (SO.call call17 rfl (product_spec E g15 _ _ _ edgeL edgeL hedge hedge edge_fits edge_fits)) ?_))))))
  rintro _ g16 _ ⟨rfl, hle16, us, rfl, hsq0⟩
  have hsq : Cells g16 us squareL := hsq0
  obtain ⟨qs, ds, rfl⟩ := hsq.form
  rw [square_len]
  rw [square_len] at hsq
  have hu16 := hu15.mono hle16
  refine SL.W (SO.alloc zeroValue27) ?_
  rintro _ _ _ ⟨b18, rfl, rfl, rfl⟩
  refine SL.on (SO.storeAllK 0 sizeOf27 rfl rfl rfl rfl rfl (by exact ⟨rfl, trivial⟩)) ?_
  rintro _ _ _ ⟨rfl, rfl⟩
  refine SL.nil (ST.thenN (SC.seq (SC.region (SL.K (SQ.loadVarK 0 isAgg27 sizeOf27 rfl rfl rfl) (SL.W (SO.call call31 rfl (find_spec E g16 _ _ squareL 9 hsq square_fits)) ?_)))))
  rintro _ g17 _ ⟨rfl, hle17, z, rfl, hz⟩
  rw [square_find] at hz
  rw [square_find]
  obtain ⟨zp, zd, rfl, hzs⟩ := cellR_form (c := ⟨9, 2, [⟨3, -1⟩, ⟨6, 1⟩, ⟨7, 1⟩, ⟨8, -1⟩]⟩) hz
  have hbz : based (.slice zp 4 zd) = true := hzs.based (by decide)
  have hu17 := hu16.mono hle17
  refine SL.M rfl (SL.U (SU.extract rfl rfl) (SL.U (SU.extract rfl rfl) (SL.W (SO.alloc zeroValue51) ?_)))
  rintro _ _ _ ⟨b19, rfl, rfl, rfl⟩
  refine SL.on (SO.storeAllK 0 sizeOf51 rfl rfl rfl rfl rfl (by exact ⟨rfl, rfl, rfl, trivial⟩)) ?_
  rintro _ _ _ ⟨rfl, rfl⟩
  refine SL.A rfl (SL.nil (ST.thenN (SC.seq ?_)))
  refine SC.to (g' := g17) (s' := pt b19 (.cells #[vi 9, vi 2, .slice zp 4 zd] 51 (0, 0)) :: pt b18 (.cells #[.slice qs 9 ds] 27 (0, 0)) :: pt b17 (.cells #[.slice qe edgeL.length de] 27 (0, 0)) :: pt b8 (.cells #[.slice (some ⟨bv, 0, none⟩) 7 (cap2 + 1)] 27 (0, 0)) :: pt b7 (.cells #[.slice (some ⟨bu, 0, none⟩) 6 (cap + 1)] 27 (0, 0)) :: pt b4 (.cells #[vi 4, vi 1, .slice yp 2 yd] 51 (0, 0)) :: pt b2 (.cells #[vi 7, vi 2, .slice xp 3 xd] 51 (0, 0)) :: pt b1 (.cells #[.slice q triL.length d] 27 (0, 0)) :: s) (fun w hw => hw) ?_
  refine SC.region (SL.M rfl (SL.M rfl (SL.Y rfl rfl rfl (SU.move rfl) (SL.U (SU.pickT rfl rfl) (SL.M rfl (SL.Y rfl rfl rfl (SU.move rfl) (SL.U (SU.pickT rfl rfl) (SL.M rfl (SL.gq (Gd.onT rfl rfl rfl (by decide)) (SQ.loadVarK 7 isAgg27 sizeOf27 rfl rfl rfl) (by decide) (SL.go (Gd.onT rfl rfl rfl (by decide)) (SO.call call19 rfl (euler_spec E g17 _ _ triL hu17 tri_fits)) (by decide) ?_))))))))))
  rintro _ _ _ ⟨rfl, rfl, rfl⟩
  rw [tri_euler]
  refine SL.Y rfl rfl rfl (SU.eql rfl rfl) (SL.U (SU.pickT rfl rfl) (SL.M rfl (SL.Y rfl rfl rfl (SU.fieldAddr underlying27 rfl sizeOf25 rfl) (SL.gq (Gd.onT rfl rfl rfl (by decide)) (SQ.load (v := .slice qs 9 ds) isAgg25 rfl (CellAt.own 1 rfl rfl)) (by decide) (SL.Y rfl rfl rfl (SU.lenN underlying25 rfl) (SL.Y rfl rfl rfl (SU.eql rfl rfl) (SL.U (SU.pickT rfl rfl) (SL.M rfl (SL.Y rfl rfl rfl (SU.move rfl) (SL.U (SU.pickT rfl rfl) (SL.M rfl (SL.Y rfl rfl rfl (SU.fieldAddr underlying51 rfl sizeOf49 rfl) (SL.gq (Gd.onT rfl rfl rfl (by decide)) (SQ.load (v := .slice zp 4 zd) isAgg49 rfl (CellAt.own 0 rfl rfl)) (by decide) (SL.Y rfl rfl rfl (SU.lenN underlying49 rfl) (SL.Y rfl rfl rfl (SU.eql rfl rfl) (SL.U (SU.pickT rfl rfl) (SL.M rfl (SL.Y rfl rfl rfl (SU.fieldAddr underlying51 rfl sizeOf49 rfl) (SL.gq (Gd.onT rfl rfl rfl (by decide)) (SQ.load (v := .slice zp 4 zd) isAgg49 rfl (CellAt.own 0 rfl rfl)) (by decide) (SL.Y rfl rfl rfl (SU.indexAddr underlying49 sizeOf55 rfl rfl hbz (by decide) (show (0 : Int) < ((4 : Nat) : Int) by decide)) ?_))))))))))))))))))))
  refine SL.gq (Gd.onT rfl rfl rfl (by decide)) (SQ.elemA (a := ⟨3, -1⟩) isAgg55 sizeOf55 rfl hzs.rd rfl) (by decide) (SL.Y rfl rfl rfl (SU.build rfl (buildS55 3 (-1))) (SL.Y rfl rfl rfl (SU.eqlSideT ⟨3, -1⟩ rfl rfl) (SL.U (SU.pickT rfl rfl) (SL.M rfl (SL.Y rfl rfl rfl (SU.fieldAddr underlying51 rfl sizeOf49 rfl) (SL.gq (Gd.onT rfl rfl rfl (by decide)) (SQ.load (v := .slice zp 4 zd) isAgg49 rfl (CellAt.own 0 rfl rfl)) (by decide) (SL.Y rfl rfl rfl (SU.indexAddr underlying49 sizeOf55 rfl rfl hbz (by decide) (show (3 : Int) < ((4 : Nat) : Int) by decide)) ?_)))))))
  refine SL.gq (Gd.onT rfl rfl rfl (by decide)) (SQ.elemA (a := ⟨8, -1⟩) isAgg55 sizeOf55 rfl hzs.rd rfl) (by decide) (SL.Y rfl rfl rfl (SU.build rfl (buildS55 8 (-1))) (SL.Y rfl rfl rfl (SU.eqlSideT ⟨8, -1⟩ rfl rfl) (SL.U (SU.pickT rfl rfl) (SL.A rfl (SL.nil (ST.thenN (SC.ret ?_)))))))
  refine ST.drop (s' := s) (by repeat (first | exact List.Sublist.refl _ | refine List.Sublist.cons _ ?_)) ?_
  exact ST.ret1 (.inl rfl) results9 rfl ⟨rfl, rfl, hle1.trans (hle2.trans (hle3.trans (hle4.trans (hle5.trans (hle6.trans (hle7.trans (hle8.trans (hle9.trans (hle10.trans (hle11.trans (hle12.trans (hle13.trans (hle14.trans (hle15.trans (hle16.trans hle17)))))))))))))))⟩
end Go.Proofs.YtkdibcicncjpdaaGreat
