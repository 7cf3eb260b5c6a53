/- Cpo San1 San Ref1 Ref2 -/
import Derived.Test.YtkdibcicncjpdaaGreatOw08
import Derived.Test.YtkdibcicncjpdaaGreatOw02
set_option linter.unusedSimpArgs false
set_option linter.unusedVariables false
namespace Go.Proofs.YtkdibcicncjpdaaGreat
open _root_.Go.Proofs.Tryz _root_.Go.Proofs.YtkdibcicncjpdaaGreat.Tryz
open Go Go.Sy Go.Pl Go.Proofs
set_option maxRecDepth 100000
def CellO (c : Cl) (r : Rc) : Prop := r.id = c.id ∧ r.dim = c.dim ∧ r.sv.n = c.sides.length
def ownC (c : Cl) (r : Rc) : Ent := rowA encSide 55 (.slice r.sv.p r.sv.n r.sv.c) c.sides
def ownS : List Cl → List Rc → Own
 | c :: l, r :: rs => ownC c r :: ownS l rs
 | _, _ => []
theorem ownS_append : ∀ {l : List Cl} {rs : List Rc} (c : Cl) (r : Rc), l.length = rs.length → ownS (l ++ [c]) (rs ++ [r]) = ownS l rs ++ [ownC c r]
 | [], [], _, _, _ => rfl
 | x :: l, y :: rs, c, r, h => by
  simp only [List.cons_append, ownS]
  rw [ownS_append c r (by simpa using h)]
 | [], _ :: _, _, _, h => by simp at h
 | _ :: _, [], _, _, h => by simp at h
theorem ownS_get : ∀ {l : List Cl} {rs : List Rc} {k : Nat} {c : Cl} {r : Rc}, l[k]? = some c → rs[k]? = some r → (ownS l rs)[k]? = some (ownC c r)
 | x :: l, y :: rs, 0, c, r, h1, h2 => by simp at h1 h2; subst h1; subst h2; rfl
 | x :: l, y :: rs, k + 1, c, r, h1, h2 => by simp at h1 h2; simpa [ownS] using ownS_get h1 h2
 | [], _, _, _, _, h1, _ => by simp at h1
 | _ :: _, [], _, _, _, _, h2 => by simp at h2
theorem ownS_length : ∀ {l : List Cl} {rs : List Rc}, l.length = rs.length → (ownS l rs).length = l.length
 | [], [], _ => rfl
 | x :: l, y :: rs, h => by simp [ownS, ownS_length (l := l) (rs := rs) (by simpa using h)]
 | [], _ :: _, h => by simp at h
 | _ :: _, [], h => by simp at h
theorem ownS_set : ∀ {l : List Cl} {rs : List Rc} {k : Nat} (c : Cl) (r : Rc), l.length = rs.length → (ownS l rs).set k (ownC c r) = ownS (l.set k c) (rs.set k r)
 | [], [], _, _, _, _ => rfl
 | x :: l, y :: rs, 0, c, r, _ => rfl
 | x :: l, y :: rs, k + 1, c, r, h => by simp only [ownS, List.set_cons_succ]; rw [ownS_set c r (by simpa using h)]
 | [], _ :: _, _, _, _, h => by simp at h
 | _ :: _, [], _, _, _, h => by simp at h
theorem freezeO {E : World} {s : Own} {w : World} : ∀ {l : List Cl} {rs : List Rc} {g : PH}, All2 CellO l rs → At E g (ownS l rs ++ s) w → ∃ g', Le g g' ∧ At E g' s w ∧ All2 (CellR g') l rs
 | [], [], g, _, h => ⟨g, Le.refl g, h, trivial⟩
 | c :: l, r :: rs, g, h1, h => by
  obtain ⟨g1, hl1, ha1, hs1⟩ := At.freezeRow h
  obtain ⟨g2, hl2, ha2, hs2⟩ := freezeO h1.2 ha1
  exact ⟨g2, hl1.trans hl2, ha2, ⟨h1.1.1, h1.1.2.1, SlA.mono hs1 hl2⟩, hs2⟩
 | [], _ :: _, _, h1, _ => h1.elim
 | _ :: _, [], _, h1, _ => h1.elim
theorem freezeCells {E : World} {s : Own} {w : World} {l : List Cl} {rs : List Rc} {g : PH} {u : Value} (h1 : All2 CellO l rs) (h : At E g (rowA encCell 51 u rs :: (ownS l rs ++ s)) w) : ∃ g', Le g g' ∧ At E g' s w ∧ Cells g' u l := by
 obtain ⟨g1, hl1, ha1, hs1⟩ := At.freezeRow h
 obtain ⟨g2, hl2, ha2, hs2⟩ := freezeO h1 ha1
 exact ⟨g2, hl1.trans hl2, ha2, rs, SlA.mono hs1 hl2, hs2⟩
theorem SC.freezeCells {P : Program} {N : Nat} {E : World} {Q : Exit → Act → World → Prop} {f : Fr} {g : PH} {s : Own} {o : Code} {l : List Cl} {rs : List Rc} {u : Value} (h1 : All2 CellO l rs) (h : ∀ g', Le g g' → Cells g' u l → SC P N E o Q f g' s) : SC P N E o Q f g (rowA encCell 51 u rs :: (ownS l rs ++ s)) := fun a w ha hw => by
 obtain ⟨g', h2, h3, h4⟩ := Go.Proofs.YtkdibcicncjpdaaGreat.freezeCells h1 hw
 exact h g' h2 h4 a w ha h3
theorem copy_own (E : World) (g : PH) (s : Own) (v : Value) (l : List Cl) (hv : Cells g v l) (hf : Fits l) :
  Ctr Tryz.prog E 33 #[.agg #[v]] g s (fun r g' s' => g = g' ∧ ∃ u rs, r = .agg #[u] ∧ All2 CellO l rs ∧ s' = rowA encCell 51 u rs :: (ownS l rs ++ s)) := by
 obtain ⟨rs, hrs, hall⟩ := hv
 have hlen := hall.length
 have hfl := hf.1
 obtain ⟨p, c, rfl⟩ := hrs.form
 refine Ctr.of (args := [.agg #[.slice p rs.length c]]) func33 rfl ntmps33 (Nat.le_of_ble_eq_true rfl) ?_
 refine SC.seq (SC.region (SL.W (SO.box rfl) ?_))
 rintro _ _ _ ⟨b1, rfl, rfl, rfl⟩
 refine SL.W (SO.alloc zeroValue27) ?_
 rintro _ _ _ ⟨b2, rfl, rfl, rfl⟩
 refine SL.nil (ST.thenN (SC.seq (SC.region (SL.W (SO.alloc zeroValue27) ?_))))
 rintro _ _ _ ⟨b3, rfl, rfl, rfl⟩
 refine SL.nil (ST.thenN (SC.seq (SC.seq (SC.region (SL.A rfl (SL.nil (ST.thenN (SC.block (SC.nilRow 51 3 ?_)))))))))
 refine SC.loop (ι := Nat × Value × List Rc) (fun i => [(1, pp b1 0), (2, pp b2 0), (3, pp b3 0), (4, vi i.1)]) (fun _ => g)
  (fun i => rowA encCell 51 i.2.1 i.2.2 :: pt b3 (.cells #[i.2.1] 27 (0, 0)) :: pt b2 (.cells #[.slice none 0 0] 27 (0, 0)) :: pt b1 (.cells #[.slice p rs.length c] 27 (0, 0)) :: (ownS (l.take i.1) i.2.2 ++ s))
  (fun i => i.1 ≤ rs.length ∧ All2 CellO (l.take i.1) i.2.2) (fun i => rs.length - i.1) (0, .slice none 0 0, [])
  ⟨rfl, rfl, rfl, rfl, trivial⟩ rfl rfl ⟨Nat.zero_le _, by simp [All2]⟩ ?_
 rintro ⟨k, ov, acc⟩ ⟨hk, hacc⟩
 dsimp only at hk hacc ⊢
 have hal := hacc.length
 refine SC.seq (SC.seq (SC.region (SL.M rfl (SL.U (SU.fieldAddr underlying27 rfl sizeOf25 rfl) (SL.K (SQ.load isAgg25 rfl (CellAt.own 3 rfl rfl)) (SL.U (SU.lenN underlying25 rfl) (SL.U (SU.lss rfl rfl) (SL.nil (ST.thenN ?_)))))))))
 refine SC.ifP rfl (fun hlt => ?_) (fun hlt => ?_)
 ·have hkr : k < rs.length := oM
  have hkl : k < l.length := oM
  have hb1 := hrs.based oM
  have hcr := hall.get (List.getElem?_eq_getElem hkl) (List.getElem?_eq_getElem hkr)
  have hgx : rs[((k : Nat) : Int).toNat]? = some rs[k] := List.getElem?_eq_getElem hkr
  have htk : l.take (k + 1) = l.take k ++ [l[k]] := List.take_succ_eq_append_getElem hkl
  have hxl := hf.2 _ (List.getElem_mem hkl)
  have hal2 : (l.take k).length ≤ k := by simp; omega
  generalize rs[k] = x at *
  generalize l[k] = cx at *
  obtain ⟨xi, xd, xp, xn, xc⟩ := x
  have hxsl : SlA encSide g (.slice xp xn xc) cx.sides := hcr.2.2
  have hxn : xn = cx.sides.length := Sl.slen hxsl
  subst hxn
  refine SC.skip (ST.thenN (SC.seq (SC.block (SC.seq (SC.region (SL.U (SU.fieldAddr underlying27 rfl sizeOf25 rfl) (SL.K (SQ.load isAgg25 rfl (CellAt.own 3 rfl rfl)) (SL.M rfl (SL.U (SU.indexAddr underlying25 sizeOf51 rfl rfl hb1 oM (show (k : Int) < ((rs.length : Nat) : Int) by omega)) ?_)))))))))
  refine SL.K (SQ.elemA isAgg51 sizeOf51 rfl hrs.rd hgx) (SL.W (SO.alloc zeroValue51) ?_)
  rintro _ _ _ ⟨b5, rfl, rfl, rfl⟩
  refine SL.on (SO.storeAllK 0 sizeOf51 rfl rfl rfl rfl rfl (by exact ⟨rfl, rfl, rfl, trivial⟩)) ?_
  rintro _ _ _ ⟨rfl, rfl⟩
  refine SL.nil (ST.thenN (SC.seq (SC.region (SL.W (SO.buildSlice sty49 rfl rfl rfl (szs_mk trivial) dC) ?_))))
  rintro _ _ _ ⟨b18, rfl, rfl, rfl⟩
  refine SL.emptyRow 55 2 (some ⟨b18, 0, none⟩) (SL.U (SU.fieldAddr underlying51 rfl sizeOf49 rfl) (SL.K (SQ.load isAgg49 rfl (CellAt.own 2 rfl rfl)) (SL.W (SO.appendE (m := cx.sides.length) 0 cx.sides.length (cx.sides.flatMap encSide.enc) sty49 rfl rfl rfl rfl rfl (Sl.rd hxsl) (encSide.length cx.sides) (encSide.ones cx.sides) oM (by simp) oM oM) ?_)))
  rintro r21 _ _ ⟨rfl, rfl⟩
  refine SL.facts fun ⟨w0, hw0⟩ => ?_
  obtain ⟨q2, d2, rfl⟩ := rowA_form (e := encSide) (l := cx.sides) (i := 0) hw0 rfl
  clear hw0 w0
  obtain ⟨nc, hnc⟩ : ∃ nc : Rc, nc = ⟨xi, xd, q2, cx.sides.length, d2⟩ := ⟨_, rfl⟩
  refine SL.U (SU.fieldAddr underlying51 rfl sizeOf49 rfl) (SL.on (SO.store1 2 sizeOf49 rfl rfl rfl rfl (Nat.le_of_ble_eq_true rfl) (by rfl)) ?_)
  rintro _ _ _ ⟨rfl, rfl⟩
  refine SL.nil (ST.thenN (SC.region (SL.U (SU.fieldAddr underlying27 rfl sizeOf25 rfl) (SL.K (SQ.load isAgg25 rfl (CellAt.own 4 rfl rfl)) (SL.K (SQ.loadVarK 2 isAgg51 sizeOf51 rfl rfl rfl) (SL.W (SO.buildSlice sty25 rfl rfl rfl (szs_mk (by exact ⟨rfl, trivial⟩)) dC) ?_))))))
  rintro _ _ _ ⟨b26, rfl, rfl, rfl⟩
  refine SL.W (SO.app1A (e := encCell) 3 nc sty25 rfl rfl rfl rfl (by rw [hnc]; rfl) lN lN) ?_
  rintro ov' _ _ ⟨rfl, rfl⟩
  refine SL.facts fun ⟨w0, hw0⟩ => ?_
  obtain ⟨q', d', rfl⟩ := rowA_form (e := encCell) (l := acc ++ [nc]) (i := 3) hw0 rfl
  clear hw0 w0
  refine SL.U (SU.fieldAddr underlying27 rfl sizeOf25 rfl) (SL.on (SO.storeAllK 4 sizeOf25 rfl rfl rfl rfl rfl (by exact ⟨rfl, trivial⟩)) ?_)
  rintro _ _ _ ⟨rfl, rfl⟩
  refine SL.nil (ST.blockN (ST.thenN (SC.region (SL.M rfl (SL.U (SU.add rfl rfl oM) (SL.A rfl (SL.nil ?_)))))))
  refine ST.to (fun w hw => ?_) (g' := g) (s' := rowA encCell 51 (.slice q' (acc ++ [nc]).length d') (acc ++ [nc]) :: pt b3 (.cells #[.slice q' (acc ++ [nc]).length d'] 27 (0, 0)) :: pt b2 (.cells #[.slice none 0 0] 27 (0, 0)) :: pt b1 (.cells #[.slice p rs.length c] 27 (0, 0)) :: (ownS (l.take (k + 1)) (acc ++ [nc]) ++ s)) ?_
  ·rw [htk, ownS_append cx nc hal]
   have h1 := (hw.sublist (s' := ownC cx nc :: (rowA encCell 51 (.slice q' (acc ++ [nc]).length d') (acc ++ [nc]) :: pt b3 (.cells #[.slice q' (acc ++ [nc]).length d'] 27 (0, 0)) :: pt b2 (.cells #[.slice none 0 0] 27 (0, 0)) :: pt b1 (.cells #[.slice p rs.length c] 27 (0, 0)) :: ownS (l.take k) acc) ++ s) (by rw [hnc]; exact .cons_cons _ (.cons _ (.cons _ (.refl _)))))
   have h2 := h1.perm List.perm_middle.symm
   simpa using h2
  exact ST.again (k + 1, _, acc ++ [nc]) ⟨rfl, rfl, rfl, rfl, trivial⟩ rfl rfl ⟨lN, by
   dsimp only
   rw [htk]
   exact hacc.append ⟨(by rw [hnc]; exact ⟨hcr.1, hcr.2.1, rfl⟩), trivial⟩⟩ lN
 ·have hkk : l.take k = l := List.take_of_length_le oM
  rw [hkk] at hacc ⊢
  refine SC.exit (ST.thenX (ST.thenX (ST.blockX (ST.thenN (SC.seq ?_)))))
  refine SC.facts fun ⟨w0, hw0⟩ => ?_
  obtain ⟨q2, d2, rfl⟩ := rowA_form (i := 0) hw0 rfl
  clear hw0 w0
  refine SC.region (SL.K (SQ.loadVarK 1 isAgg27 sizeOf27 rfl rfl rfl) (SL.on (SO.storeAllK 2 sizeOf27 rfl rfl rfl rfl rfl (by exact ⟨rfl, trivial⟩)) ?_))
  rintro _ _ _ ⟨rfl, rfl⟩
  refine SL.nil (ST.thenN (SC.ret ?_))
  exact ST.retCD 2 _ (.inl rfl) results33 rfl isAgg27 sizeOf27 rfl rfl (.cons_cons _ (.cons _ (.cons _ (.cons _ (.refl _))))) ⟨rfl, _, acc, rfl, hacc, rfl⟩
theorem sideEql (x y : Side) (w : World) : (binOp .eql 55 (.agg (encSide.enc x).toArray) (.agg (encSide.enc y).toArray)).run Tryz.prog w = .ok (.bool (decide (x = y))) w := by
 have hu : Tryz.prog.underlying 55 = some (.struct (Tryz.prog.fieldsOf 55)) := by kernel_rfl
 rw [run_eql_struct, run_equalIn_agg w 9999 55 _ _ hu stoodInHeld55]
 have hfs : ∃ f1 f2, (Tryz.prog.fieldsOf 55).toList = [f1, f2] ∧ f1.name ≠ "_" ∧ f2.name ≠ "_" ∧ f1.type = 3 ∧ f2.type = 3 ∧ f1.offset = 0 ∧ f2.offset = 1 := ⟨_, _, rfl, by decide, by decide, rfl, rfl, rfl, rfl⟩
 obtain ⟨f1, f2, e, n1, n2, t1, t2, o1, o2⟩ := hfs
 obtain ⟨a, b⟩ := x
 obtain ⟨c, d⟩ := y
 rw [e]
 have h1 := run_equalIn_int (P := Tryz.prog) w 9998 3 .i64 .i64 a c underlying3
 have h2 := run_equalIn_int (P := Tryz.prog) w 9998 3 .i64 .i64 b d underlying3
 simp only [Op.eqFields, n1, n2, t1, t2, o1, o2, encSide, part, ne_eq, not_false_eq_true, if_true, Sem.run_bind, isAgg3, Result.andThen_ok]
 simp [h1, h2]
 by_cases hac : a = c <;> by_cases hbd : b = d <;> simp [hac, hbd]
theorem SU.eqlSide {N : Nat} {f : Fr} {dst : Option Tmp} {ty : TypeId} {pos : String} {af : Array Edge} {gd : Option (Nat × Bool)} {x y : Operand} (a b : Side) {U : TypeId} (hx : ev f x = some (.agg (encSide.enc a).toArray)) (hy : ev f y = some (.agg (encSide.enc b).toArray)) :
  SU Tryz.prog N ⟨dst, .binOp .eql 55 x y U, ty, pos, af, gd⟩ f (.bool (decide (a = b))) := fun ac w ha => by
 have hg := run_eqGuard_agg (P := Tryz.prog) w .eql 55 x y (encSide.enc a).toArray (encSide.enc b).toArray eqGuardType55
 simp only [execOp, ha.ev hx, ha.ev hy, Sem.run_bind, hg, Result.andThen_ok, sideEql]
 rfl
def triL : List Cl := [⟨1, 0, []⟩, ⟨2, 0, []⟩, ⟨3, 0, []⟩, ⟨4, 1, [⟨1, -1⟩, ⟨2, 1⟩]⟩, ⟨5, 1, [⟨1, -1⟩, ⟨3, 1⟩]⟩, ⟨6, 1, [⟨2, -1⟩, ⟨3, 1⟩]⟩, ⟨7, 2, [⟨4, 1⟩, ⟨5, -1⟩, ⟨6, 1⟩]⟩]
def lessL : List Cl := [⟨1, 0, []⟩, ⟨2, 0, []⟩, ⟨3, 0, []⟩, ⟨4, 1, [⟨1, -1⟩, ⟨2, 1⟩]⟩, ⟨6, 1, [⟨2, -1⟩, ⟨3, 1⟩]⟩, ⟨7, 2, [⟨4, 1⟩, ⟨5, -1⟩, ⟨6, 1⟩]⟩]
def turnL : List Cl := [⟨1, 0, []⟩, ⟨2, 0, []⟩, ⟨3, 0, []⟩, ⟨4, 1, [⟨1, -1⟩, ⟨2, 1⟩]⟩, ⟨5, 1, [⟨1, -1⟩, ⟨3, 1⟩]⟩, ⟨6, 1, [⟨2, -1⟩, ⟨3, 1⟩]⟩, ⟨7, 2, [⟨4, 1⟩, ⟨5, 1⟩, ⟨6, 1⟩]⟩]
def edgeL : List Cl := [⟨1, 0, []⟩, ⟨2, 0, []⟩, ⟨3, 1, [⟨1, -1⟩, ⟨2, 1⟩]⟩]
theorem sortI_id {l : List Int} (h : l.Pairwise (· ≤ ·)) : sortI l = l := by
 unfold sortI
 exact List.mergeSort_of_pairwise (h.imp fun h => by simpa using h)
theorem setC_012 : setC [0, 1, 2] = [0, 1, 2] := by
 unfold setC
 rw [sortI_id dC]
 rfl
theorem setC_01 : setC [0, 1] = [0, 1] := by
 unfold setC
 rw [sortI_id dC]
 rfl
theorem simp_tri : simpC [[0, 1, 2]] = triL := by
 simp only [simpC, simpAll, setC_012]
 rfl
theorem simp_edge : simpC [[0, 1]] = edgeL := by
 simp only [simpC, simpAll, setC_01]
 rfl
theorem tri_find7 : findC triL 7 = some ⟨7, 2, [⟨4, 1⟩, ⟨5, -1⟩, ⟨6, 1⟩]⟩ := by kernel_rfl
theorem tri_find4 : findC triL 4 = some ⟨4, 1, [⟨1, -1⟩, ⟨2, 1⟩]⟩ := by kernel_rfl
theorem tri_check : checkC triL = (0, 0) := by kernel_rfl
theorem less_check : checkC lessL = (7, 22) := by kernel_rfl
theorem turn_check : checkC turnL = (7, 24) := by kernel_rfl
theorem tri_tops : topsC triL = [7] := by kernel_rfl
theorem tri_above : aboveC triL 2 = [4, 6] := by kernel_rfl
theorem tri_closF : closF (tabC triL) [4] = [4, 1, 2] := by kernel_rfl
theorem sortI_412 : sortI [4, 1, 2] = [1, 2, 4] := by
 have h1 : (sortI [4, 1, 2]).Perm [1, 2, 4] := (sortI_perm _).trans dC
 have h2 : sortI [1, 2, 4] = [1, 2, 4] := sortI_id dC
 rw [← h2]
 exact mergeSort_of_perm_i dC
theorem tri_closure : closureC triL [4] = [1, 2, 4] := by
 unfold closureC
 rw [tri_closF, sortI_412]
theorem tri_euler : eulC triL = 1 := by kernel_rfl
def squareL : List Cl := prodC edgeL edgeL
theorem square_len : squareL.length = 9 := by kernel_rfl
theorem square_find : findC squareL 9 = some ⟨9, 2, [⟨3, -1⟩, ⟨6, 1⟩, ⟨7, 1⟩, ⟨8, -1⟩]⟩ := by kernel_rfl
theorem fits_dec {l : List Cl} (h : (l.all fun c => decide (c.sides.length < 100)) = true) (h2 : l.length < 100) : Fits l := by
 rw [List.all_eq_true] at h
 exact ⟨oM, fun c hc => by have := h c hc; simp at this; omega⟩
theorem tri_fits : Fits triL := fits_dec dC dC
theorem less_fits : Fits lessL := fits_dec dC dC
theorem turn_fits : Fits turnL := fits_dec dC dC
theorem edge_fits : Fits edgeL := fits_dec dC dC
theorem square_fits : Fits squareL := fits_dec (by kernel_rfl) (by rw [square_len]; decide)
theorem triangle_spec (E : World) (g : PH) (s : Own) : Ctr Tryz.prog E 34 #[] g s (fun r g' s' => s = s' ∧ Le g g' ∧ ∃ u, r = .agg #[u] ∧ Cells g' u triL) := by
 refine Ctr.of (args := []) func34 rfl ntmps34 (Nat.le_of_ble_eq_true rfl) ?_
 refine SC.seq (SC.region (SL.W (SO.alloc zeroValue27) ?_))
 rintro _ _ _ ⟨b0, rfl, rfl, rfl⟩
 refine SL.nil (ST.thenN (SC.seq (SC.region (SL.W (SO.buildSlice sty45 rfl rfl rfl (szs_mk ⟨rfl, rfl, rfl, trivial⟩) dC) ?_))))
 rintro _ _ _ ⟨b1, rfl, rfl, rfl⟩
 refine SL.freeze fun g1 hle1 hb1 => ?_
 refine SL.W (SO.buildSlice sty22 rfl rfl rfl (szs_mk ⟨rfl, trivial⟩) dC) ?_
 rintro _ _ _ ⟨b2, rfl, rfl, rfl⟩
 refine SL.freeze fun g2 hle2 hb2 => ?_
 have hlit : Lists g2 (.slice (some ⟨b2, 0, none⟩) 1 1) [[0, 1, 2]] := ⟨[svOf (.slice (some ⟨b1, 0, none⟩) 3 3)], SlA.lit hb2 rfl rfl, ⟨SlA.lit (hle2 _ _ hb1) rfl rfl, trivial⟩⟩
 refine SL.W (SO.call call11 rfl (simplicial_spec E g2 _ _ _ hlit dC dC)) ?_
 rintro _ g3 _ ⟨rfl, hle3, u, rfl, hu⟩
 rw [simp_tri] at hu
 obtain ⟨q, d, rfl⟩ := hu.form
 refine SL.on (SO.storeAllK 0 sizeOf27 rfl rfl rfl rfl rfl (by exact ⟨rfl, trivial⟩)) ?_
 rintro _ _ _ ⟨rfl, rfl⟩
 refine SL.nil (ST.thenN (SC.ret ?_))
 exact ST.retCD 0 s (.inl rfl) results34 rfl isAgg27 sizeOf27 rfl rfl (.cons _ (.refl _)) ⟨rfl, hle1.trans (hle2.trans hle3), _, rfl, hu⟩
theorem CellO.form {c : Cl} {r : Rc} (h : CellO c r) : ∃ p d, r = ⟨c.id, c.dim, ⟨p, c.sides.length, d⟩⟩ := by
 obtain ⟨i, dm, p, n, d⟩ := r
 obtain ⟨h1, h2, h3⟩ := h
 dsimp only at h1 h2 h3
 subst h1 h2 h3
 exact ⟨p, d, rfl⟩
theorem All2.cons_left {α β : Type} {R : α → β → Prop} {a : α} {l : List α} {m : List β} (h : All2 R (a :: l) m) : ∃ b m', m = b :: m' ∧ R a b ∧ All2 R l m' := by
 cases m with
 | nil => exact h.elim
 | cons b m => exact ⟨b, m, rfl, h.1, h.2⟩
theorem All2.nil_left {α β : Type} {R : α → β → Prop} {m : List β} (h : All2 R ([] : List α) m) : m = [] := by
 cases m with
 | nil => rfl
 | cons b m => exact h.elim
def triRs (p1 p2 p3 p4 p5 p6 p7 : Option Addr) (d1 d2 d3 d4 d5 d6 d7 : Nat) : List Rc :=
 [⟨1, 0, ⟨p1, 0, d1⟩⟩, ⟨2, 0, ⟨p2, 0, d2⟩⟩, ⟨3, 0, ⟨p3, 0, d3⟩⟩, ⟨4, 1, ⟨p4, 2, d4⟩⟩, ⟨5, 1, ⟨p5, 2, d5⟩⟩, ⟨6, 1, ⟨p6, 2, d6⟩⟩, ⟨7, 2, ⟨p7, 3, d7⟩⟩]
theorem tri_rs {rs : List Rc} (h : All2 CellO triL rs) : ∃ p1 p2 p3 p4 p5 p6 p7 d1 d2 d3 d4 d5 d6 d7, rs = triRs p1 p2 p3 p4 p5 p6 p7 d1 d2 d3 d4 d5 d6 d7 := by
 obtain ⟨r1, rs, rfl, h1, h⟩ := All2.cons_left h
 obtain ⟨r2, rs, rfl, h2, h⟩ := All2.cons_left h
 obtain ⟨r3, rs, rfl, h3, h⟩ := All2.cons_left h
 obtain ⟨r4, rs, rfl, h4, h⟩ := All2.cons_left h
 obtain ⟨r5, rs, rfl, h5, h⟩ := All2.cons_left h
 obtain ⟨r6, rs, rfl, h6, h⟩ := All2.cons_left h
 obtain ⟨r7, rs, rfl, h7, h⟩ := All2.cons_left h
 have := All2.nil_left h
 subst this
 obtain ⟨p1, d1, rfl⟩ := h1.form
 obtain ⟨p2, d2, rfl⟩ := h2.form
 obtain ⟨p3, d3, rfl⟩ := h3.form
 obtain ⟨p4, d4, rfl⟩ := h4.form
 obtain ⟨p5, d5, rfl⟩ := h5.form
 obtain ⟨p6, d6, rfl⟩ := h6.form
 obtain ⟨p7, d7, rfl⟩ := h7.form
 exact ⟨p1, p2, p3, p4, p5, p6, p7, d1, d2, d3, d4, d5, d6, d7, rfl⟩
theorem turn_o (p1 p2 p3 p4 p5 p6 p7 : Option Addr) (d1 d2 d3 d4 d5 d6 d7 : Nat) : All2 CellO turnL (triRs p1 p2 p3 p4 p5 p6 p7 d1 d2 d3 d4 d5 d6 d7) :=
 ⟨⟨rfl, rfl, rfl⟩, ⟨rfl, rfl, rfl⟩, ⟨rfl, rfl, rfl⟩, ⟨rfl, rfl, rfl⟩, ⟨rfl, rfl, rfl⟩, ⟨rfl, rfl, rfl⟩, ⟨rfl, rfl, rfl⟩, trivial⟩
theorem less_o (p1 p2 p3 p4 p5 p6 p7 : Option Addr) (d1 d2 d3 d4 d5 d6 d7 : Nat) : All2 CellO lessL ((triRs p1 p2 p3 p4 p5 p6 p7 d1 d2 d3 d4 d5 d6 d7).eraseIdx 4) :=
 ⟨⟨rfl, rfl, rfl⟩, ⟨rfl, rfl, rfl⟩, ⟨rfl, rfl, rfl⟩, ⟨rfl, rfl, rfl⟩, ⟨rfl, rfl, rfl⟩, ⟨rfl, rfl, rfl⟩, trivial⟩
theorem SU.eqlSideT {N : Nat} {f : Fr} {dst : Option Tmp} {ty : TypeId} {pos : String} {af : Array Edge} {gd : Option (Nat × Bool)} {x y : Operand} (a : Side) {U : TypeId} (hx : ev f x = some (.agg (encSide.enc a).toArray)) (hy : ev f y = some (.agg (encSide.enc a).toArray)) :
  SU Tryz.prog N ⟨dst, .binOp .eql 55 x y U, ty, pos, af, gd⟩ f (vb true) := SU.eq (SU.eqlSide a a hx hy) (congrArg vb (decide_eq_true rfl))
theorem cellR_form {g : PH} {c : Cl} {r : Rc} (h : CellR g c r) : ∃ p d, r = ⟨c.id, c.dim, ⟨p, c.sides.length, d⟩⟩ ∧ SlA encSide g (.slice p c.sides.length d) c.sides := by
 obtain ⟨i, dm, p, n, d⟩ := r
 obtain ⟨h1, h2, h3⟩ := h
 dsimp only at h1 h2 h3
 have h4 := (SlA.cap h3).1
 subst h1 h2 h4
 exact ⟨p, d, rfl, h3⟩
theorem less_at {E : World} {g : PH} {w : World} {X Y : Ent} {R : Own} {p1 p2 p3 p4 p5 p6 p7 : Option Addr} {d1 d2 d3 d4 d5 d6 d7 : Nat} (h : At E g (X :: Y :: (ownS triL (triRs p1 p2 p3 p4 p5 p6 p7 d1 d2 d3 d4 d5 d6 d7) ++ R)) w) :
  At E g (Y :: (ownS lessL ((triRs p1 p2 p3 p4 p5 p6 p7 d1 d2 d3 d4 d5 d6 d7).eraseIdx 4) ++ (X :: R))) w :=
 (h.sublist (s' := X :: ((Y :: ownS lessL ((triRs p1 p2 p3 p4 p5 p6 p7 d1 d2 d3 d4 d5 d6 d7).eraseIdx 4)) ++ R)) (.cons_cons _ (.cons_cons _ (.cons_cons _ (.cons_cons _ (.cons_cons _ (.cons_cons _ (.cons _ (.refl _))))))))).perm (List.perm_middle (l₁ := Y :: ownS lessL ((triRs p1 p2 p3 p4 p5 p6 p7 d1 d2 d3 d4 d5 d6 d7).eraseIdx 4))).symm
theorem turn_at {E : World} {g : PH} {w : World} {X Y : Ent} {R : Own} {p1 p2 p3 p4 p5 p6 p7 : Option Addr} {d1 d2 d3 d4 d5 d6 d7 : Nat} (h : At E g (X :: Y :: (ownS turnL (triRs p1 p2 p3 p4 p5 p6 p7 d1 d2 d3 d4 d5 d6 d7) ++ R)) w) :
  At E g (Y :: (ownS turnL (triRs p1 p2 p3 p4 p5 p6 p7 d1 d2 d3 d4 d5 d6 d7) ++ (X :: R))) w :=
 h.perm (List.perm_middle (l₁ := Y :: ownS turnL (triRs p1 p2 p3 p4 p5 p6 p7 d1 d2 d3 d4 d5 d6 d7))).symm
theorem tri_ids : ∀ c ∈ triL, inI64 c.id := by unfold inI64; decide
theorem sanity_spec (E : World) (hE : E.drawn = 0) (g : PH) (s : Own) : Ctr Tryz.prog E 9 #[] g s (fun r g' s' => r = vb true ∧ s = s' ∧ Le g g') := by
 refine Ctr.of (args := []) func9 rfl ntmps9 (Nat.le_of_ble_eq_true rfl) ?_
 refine SC.seq (SC.region (SL.A rfl (SL.nil (ST.thenN (SC.seq (SC.region (SL.W (SO.call call34 rfl (triangle_spec E g s)) ?_)))))))
 rintro _ g1 _ ⟨rfl, hle1, u, rfl, hu⟩
 obtain ⟨q, d, rfl⟩ := hu.form
 refine SL.W (SO.alloc zeroValue27) ?_
 rintro _ _ _ ⟨b1, rfl, rfl, rfl⟩
 refine SL.on (SO.storeAllK 0 sizeOf27 rfl rfl rfl rfl rfl (by exact ⟨rfl, trivial⟩)) ?_
 rintro _ _ _ ⟨rfl, rfl⟩
 refine SL.nil (ST.thenN (SC.seq (SC.region (SL.K (SQ.loadVarK 0 isAgg27 sizeOf27 rfl rfl rfl) (SL.W (SO.call call31 rfl (find_spec E g1 _ _ triL 7 hu tri_fits)) ?_)))))
 rintro _ g2 _ ⟨rfl, hle2, x, rfl, hx⟩
 rw [tri_find7] at hx
 rw [tri_find7]
 obtain ⟨xp, xd, rfl, hxs⟩ := cellR_form (c := ⟨7, 2, [⟨4, 1⟩, ⟨5, -1⟩, ⟨6, 1⟩]⟩) hx
 have hbx : based (.slice xp 3 xd) = true := hxs.based dC
 have hu2 := hu.mono hle2
 refine SL.M rfl (SL.U (SU.extract rfl rfl) (SL.U (SU.extract rfl rfl) (SL.W (SO.alloc zeroValue51) ?_)))
 rintro _ _ _ ⟨b2, rfl, rfl, rfl⟩
 refine SL.on (SO.storeAllK 0 sizeOf51 rfl rfl rfl rfl rfl (by exact ⟨rfl, rfl, rfl, trivial⟩)) ?_
 rintro _ _ _ ⟨rfl, rfl⟩
 refine SL.A rfl (SL.nil (ST.thenN (SC.seq (SC.region (SL.K (SQ.loadVarK 1 isAgg27 sizeOf27 rfl rfl rfl) (SL.W (SO.call call31 rfl (find_spec E g2 _ _ triL 4 hu2 tri_fits)) ?_))))))
 rintro _ g3 _ ⟨rfl, hle3, y, rfl, hy⟩
 rw [tri_find4] at hy
 rw [tri_find4]
 obtain ⟨yp, yd, rfl, hys⟩ := cellR_form (c := ⟨4, 1, [⟨1, -1⟩, ⟨2, 1⟩]⟩) hy
 have hby : based (.slice yp 2 yd) = true := hys.based dC
 have hu3 := hu2.mono hle3
 have hxs3 := hxs.mono hle3
 refine SL.M rfl (SL.U (SU.extract rfl rfl) (SL.U (SU.extract rfl rfl) (SL.W (SO.alloc zeroValue51) ?_)))
 rintro _ _ _ ⟨b4, rfl, rfl, rfl⟩
 refine SL.on (SO.storeAllK 0 sizeOf51 rfl rfl rfl rfl rfl (by exact ⟨rfl, rfl, rfl, trivial⟩)) ?_
 rintro _ _ _ ⟨rfl, rfl⟩
 refine SL.A rfl (SL.nil (ST.thenN (SC.seq (SC.seq ?_))))
 refine SC.to (fun w hw => hw) (g' := g3) (s' := pt b4 (.cells #[vi 4, vi 1, .slice yp 2 yd] 51 (0, 0)) :: pt b2 (.cells #[vi 7, vi 2, .slice xp 3 xd] 51 (0, 0)) :: pt b1 (.cells #[.slice q triL.length d] 27 (0, 0)) :: s) ?_
 refine SC.region (SL.M rfl (SL.U (SU.not rfl) (SL.M rfl ?_)))
 first | refine SL.gu (Gd.onT rfl rfl rfl dC) (SU.move rfl) dC ?_ | refine SL.off (Gd.onF rfl rfl rfl dC) dC ?_ | refine SL.off (Gd.off rfl rfl rfl dC) dC ?_
 first | refine SL.gu (Gd.onT rfl rfl rfl dC) (SU.not rfl) dC ?_ | refine SL.off (Gd.onF rfl rfl rfl dC) dC ?_ | refine SL.off (Gd.off rfl rfl rfl dC) dC ?_
 refine SL.U (SU.pickF rfl rfl) (SL.M rfl ?_)
 first | refine SL.gu (Gd.onT rfl rfl rfl dC) (SU.fieldAddr underlying51 rfl sizeOf49 rfl) dC ?_ | refine SL.off (Gd.onF rfl rfl rfl dC) dC ?_ | refine SL.off (Gd.off rfl rfl rfl dC) dC ?_
 first | refine SL.gq (Gd.onT rfl rfl rfl dC) (SQ.load (v := .slice xp 3 xd) isAgg49 rfl (CellAt.own 1 rfl rfl)) dC ?_ | refine SL.off (Gd.onF rfl rfl rfl dC) dC ?_ | refine SL.off (Gd.off rfl rfl rfl dC) dC ?_
 first | refine SL.gu (Gd.onT rfl rfl rfl dC) (SU.lenN underlying49 rfl) dC ?_ | refine SL.off (Gd.onF rfl rfl rfl dC) dC ?_ | refine SL.off (Gd.off rfl rfl rfl dC) dC ?_
 first | refine SL.gu (Gd.onT rfl rfl rfl dC) (SU.neq rfl rfl) dC ?_ | refine SL.off (Gd.onF rfl rfl rfl dC) dC ?_ | refine SL.off (Gd.off rfl rfl rfl dC) dC ?_
 refine SL.U (SU.pickF rfl rfl) (SL.M rfl ?_)
 first | refine SL.gu (Gd.onT rfl rfl rfl dC) (SU.fieldAddr underlying27 rfl sizeOf25 rfl) dC ?_ | refine SL.off (Gd.onF rfl rfl rfl dC) dC ?_ | refine SL.off (Gd.off rfl rfl rfl dC) dC ?_
 first | refine SL.gq (Gd.onT rfl rfl rfl dC) (SQ.load isAgg25 rfl (CellAt.own 2 rfl rfl)) dC ?_ | refine SL.off (Gd.onF rfl rfl rfl dC) dC ?_ | refine SL.off (Gd.off rfl rfl rfl dC) dC ?_
 first | refine SL.gu (Gd.onT rfl rfl rfl dC) (SU.lenN underlying25 rfl) dC ?_ | refine SL.off (Gd.onF rfl rfl rfl dC) dC ?_ | refine SL.off (Gd.off rfl rfl rfl dC) dC ?_
 first | refine SL.gu (Gd.onT rfl rfl rfl dC) (SU.neq rfl rfl) dC ?_ | refine SL.off (Gd.onF rfl rfl rfl dC) dC ?_ | refine SL.off (Gd.off rfl rfl rfl dC) dC ?_
 refine SL.U (SU.pickF rfl rfl) (SL.M rfl ?_)
 first | refine SL.gu (Gd.onT rfl rfl rfl dC) (SU.fieldAddr underlying51 rfl sizeOf49 rfl) dC ?_ | refine SL.off (Gd.onF rfl rfl rfl dC) dC ?_ | refine SL.off (Gd.off rfl rfl rfl dC) dC ?_
 first | refine SL.gq (Gd.onT rfl rfl rfl dC) (SQ.load (v := .slice yp 2 yd) isAgg49 rfl (CellAt.own 0 rfl rfl)) dC ?_ | refine SL.off (Gd.onF rfl rfl rfl dC) dC ?_ | refine SL.off (Gd.off rfl rfl rfl dC) dC ?_
 first | refine SL.gu (Gd.onT rfl rfl rfl dC) (SU.lenN underlying49 rfl) dC ?_ | refine SL.off (Gd.onF rfl rfl rfl dC) dC ?_ | refine SL.off (Gd.off rfl rfl rfl dC) dC ?_
 first | refine SL.gu (Gd.onT rfl rfl rfl dC) (SU.neq rfl rfl) dC ?_ | refine SL.off (Gd.onF rfl rfl rfl dC) dC ?_ | refine SL.off (Gd.off rfl rfl rfl dC) dC ?_
 refine SL.U (SU.pickF rfl rfl) (SL.nil (ST.thenN (SC.condF rfl (SC.skip (ST.thenN (SC.seq (SC.region (SL.U (SU.fieldAddr underlying51 rfl sizeOf49 rfl) (SL.K (SQ.load (v := .slice xp 3 xd) isAgg49 rfl (CellAt.own 1 rfl rfl)) (SL.U (SU.indexAddr underlying49 sizeOf55 rfl rfl hbx dC (show (0 : Int) < ((3 : Nat) : Int) by decide)) ?_))))))))))
 refine SL.K (SQ.elemA (a := ⟨4, 1⟩) isAgg55 sizeOf55 rfl hxs3.rd rfl) (SL.U (SU.build rfl (buildS55 4 1)) (SL.U (SU.eqlSideT ⟨4, 1⟩ rfl rfl) (SL.M rfl (SL.Y rfl rfl rfl (SU.fieldAddr underlying51 rfl sizeOf49 rfl) (SL.gq (Gd.onT rfl rfl rfl dC) (SQ.load (v := .slice xp 3 xd) isAgg49 rfl (CellAt.own 1 rfl rfl)) dC (SL.Y rfl rfl rfl (SU.indexAddr underlying49 sizeOf55 rfl rfl hbx dC (show (1 : Int) < ((3 : Nat) : Int) by decide)) ?_))))))
 refine SL.gq (Gd.onT rfl rfl rfl dC) (SQ.elemA (a := ⟨5, -1⟩) isAgg55 sizeOf55 rfl hxs3.rd rfl) dC (SL.Y rfl rfl rfl (SU.build rfl (buildS55 5 (-1))) (SL.Y rfl rfl rfl (SU.eqlSideT ⟨5, -1⟩ rfl rfl) (SL.U (SU.pickT rfl rfl) (SL.M rfl (SL.Y rfl rfl rfl (SU.fieldAddr underlying51 rfl sizeOf49 rfl) (SL.gq (Gd.onT rfl rfl rfl dC) (SQ.load (v := .slice xp 3 xd) isAgg49 rfl (CellAt.own 1 rfl rfl)) dC (SL.Y rfl rfl rfl (SU.indexAddr underlying49 sizeOf55 rfl rfl hbx dC (show (2 : Int) < ((3 : Nat) : Int) by decide)) ?_)))))))
 refine SL.gq (Gd.onT rfl rfl rfl dC) (SQ.elemA (a := ⟨6, 1⟩) isAgg55 sizeOf55 rfl hxs3.rd rfl) dC (SL.Y rfl rfl rfl (SU.build rfl (buildS55 6 1)) (SL.Y rfl rfl rfl (SU.eqlSideT ⟨6, 1⟩ rfl rfl) (SL.U (SU.pickT rfl rfl) (SL.M rfl (SL.Y rfl rfl rfl (SU.fieldAddr underlying51 rfl sizeOf49 rfl) (SL.gq (Gd.onT rfl rfl rfl dC) (SQ.load (v := .slice yp 2 yd) isAgg49 rfl (CellAt.own 0 rfl rfl)) dC (SL.Y rfl rfl rfl (SU.indexAddr underlying49 sizeOf55 rfl rfl hby dC (show (0 : Int) < ((2 : Nat) : Int) by decide)) ?_)))))))
 refine SL.gq (Gd.onT rfl rfl rfl dC) (SQ.elemA (a := ⟨1, -1⟩) isAgg55 sizeOf55 rfl hys.rd rfl) dC (SL.Y rfl rfl rfl (SU.build rfl (buildS55 1 (-1))) (SL.Y rfl rfl rfl (SU.eqlSideT ⟨1, -1⟩ rfl rfl) (SL.U (SU.pickT rfl rfl) (SL.A rfl (SL.nil (ST.thenN (SC.seq (SC.region (SL.K (SQ.loadVarK 2 isAgg27 sizeOf27 rfl rfl rfl) (SL.W (SO.call call33 rfl (copy_own E g3 _ _ triL hu3 tri_fits)) ?_))))))))))
 rintro _ _ _ ⟨rfl, u1, rs1, rfl, hO1, rfl⟩
 obtain ⟨p1, p2, p3, p4, p5, p6, p7, d1, d2, d3, d4, d5, d6, d7, rfl⟩ := tri_rs hO1
 refine SL.facts fun ⟨w0, hw0⟩ => ?_
 obtain ⟨pu, cu, rfl⟩ := rowA_form (i := 0) hw0 rfl
 obtain ⟨bu, cap, rfl, rfl, hcap⟩ := row_cap (i := 0) hw0 rfl (show 0 < 7 by decide)
 have hcap7 : 7 ≤ cap + 1 := hcap
 clear hw0 w0
 refine SL.W (SO.alloc zeroValue27) ?_
 rintro _ _ _ ⟨b7, rfl, rfl, rfl⟩
 refine SL.on (SO.storeAllK 0 sizeOf27 rfl rfl rfl rfl rfl (by exact ⟨rfl, trivial⟩)) ?_
 rintro _ _ _ ⟨rfl, rfl⟩
 refine SL.nil (ST.thenN (SC.seq ?_))
 refine SC.draw [6, 7, 8] [(0, 2), (1, 1), (2, 2), (3, 2), (4, 1), (5, 2), (6, 0), (7, 0), (8, 0)] Tryz.mixed (by kernel_rfl) ?_
 refine SP.U (i := 0) rfl (SU.fieldAddr underlying27 rfl sizeOf25 rfl) (SP.K (i := 1) rfl (SQ.load isAgg25 rfl (CellAt.own 0 rfl rfl)) (SP.U (i := 2) rfl (SU.sliceH underlying25 sizeOf51 rfl rfl dC oM) (SP.U (i := 3) rfl (SU.fieldAddr underlying27 rfl sizeOf25 rfl) (SP.K (i := 4) rfl (SQ.load isAgg25 rfl (CellAt.own 0 rfl rfl)) (SP.U (i := 5) rfl (SU.sliceL underlying25 sizeOf51 rfl rfl dC (show (5 : Int) ≤ ((7 : Nat) : Int) by decide)) ?_)))))
 refine SP.o (i := 6) rfl (SO.cutA (j := 4) (n := 7) (c := cap + 1) (p := some ⟨bu, 0, none⟩) (e := encCell) 1 sty25 rfl rfl rfl rfl (show 4 < 7 by decide)) dC (.inl dC) ?_
 rintro _ _ _ ⟨rfl, rfl, rfl⟩
 refine SP.ou (i := 7) rfl (SU.fieldAddr underlying27 rfl sizeOf25 rfl) dC (.inl dC) (SP.on (i := 8) rfl (SO.storeAllK 0 sizeOf25 rfl rfl rfl rfl rfl (by exact ⟨rfl, trivial⟩)) (.inl dC) ?_)
 rintro _ _ _ ⟨rfl, rfl⟩
 refine SP.nil (ST.thenN (SC.seq ?_))
 refine SC.to (g' := g3) (s' := rowA encCell 51 (.slice (some ⟨bu, 0, none⟩) 6 (cap + 1)) ((triRs p1 p2 p3 p4 p5 p6 p7 d1 d2 d3 d4 d5 d6 d7).eraseIdx 4) :: (ownS lessL ((triRs p1 p2 p3 p4 p5 p6 p7 d1 d2 d3 d4 d5 d6 d7).eraseIdx 4) ++ (pt b7 (.cells #[.slice (some ⟨bu, 0, none⟩) 6 (cap + 1)] 27 (0, 0)) :: pt b4 (.cells #[vi 4, vi 1, .slice yp 2 yd] 51 (0, 0)) :: pt b2 (.cells #[vi 7, vi 2, .slice xp 3 xd] 51 (0, 0)) :: pt b1 (.cells #[.slice q triL.length d] 27 (0, 0)) :: s))) (fun w hw => less_at hw) ?_
 refine SC.freezeCells (less_o _ _ _ _ _ _ _ _ _ _ _ _ _ _) fun g4 hle4 hless => ?_
 have hu4 := hu3.mono hle4
 refine SC.region (SL.K (SQ.loadVarK 3 isAgg27 sizeOf27 rfl rfl rfl) (SL.W (SO.call call33 rfl (copy_own E g4 _ _ triL hu4 tri_fits)) ?_))
 rintro _ _ _ ⟨rfl, u2, rs2, rfl, hO2, rfl⟩
 obtain ⟨r1, r2, r3, r4, r5, r6, r7, e1, e2, e3, e4, e5, e6, e7, rfl⟩ := tri_rs hO2
 refine SL.facts fun ⟨w0, hw0⟩ => ?_
 obtain ⟨pv, cv, rfl⟩ := rowA_form (i := 0) hw0 rfl
 obtain ⟨bv, cap2, rfl, rfl, hcap2⟩ := row_cap (i := 0) hw0 rfl (show 0 < 7 by decide)
 have hb7 : based (.slice r7 3 e7) = true := (by obtain ⟨b0, c0, he⟩ := rowA_based (i := 7) hw0 rfl (show 0 < 3 by decide); rw [show Value.slice r7 3 e7 = _ from he]; rfl)
 clear hw0 w0
 refine SL.W (SO.alloc zeroValue27) ?_
 rintro _ _ _ ⟨b8, rfl, rfl, rfl⟩
 refine SL.on (SO.storeAllK 0 sizeOf27 rfl rfl rfl rfl rfl (by exact ⟨rfl, trivial⟩)) ?_
 rintro _ _ _ ⟨rfl, rfl⟩
 refine SL.nil (ST.thenN (SC.seq (SC.seq ?_)))
 refine SC.to (g' := g4) (s' := pt b8 (.cells #[.slice (some ⟨bv, 0, none⟩) 7 (cap2 + 1)] 27 (0, 0)) :: rowA encCell 51 (.slice (some ⟨bv, 0, none⟩) 7 (cap2 + 1)) (triRs r1 r2 r3 r4 r5 r6 r7 e1 e2 e3 e4 e5 e6 e7) :: (ownS triL (triRs r1 r2 r3 r4 r5 r6 r7 e1 e2 e3 e4 e5 e6 e7) ++ (pt b7 (.cells #[.slice (some ⟨bu, 0, none⟩) 6 (cap + 1)] 27 (0, 0)) :: pt b4 (.cells #[vi 4, vi 1, .slice yp 2 yd] 51 (0, 0)) :: pt b2 (.cells #[vi 7, vi 2, .slice xp 3 xd] 51 (0, 0)) :: pt b1 (.cells #[.slice q triL.length d] 27 (0, 0)) :: s))) (fun w hw => hw) ?_
 refine SC.region (SL.U (SU.fieldAddr underlying27 rfl sizeOf25 rfl) (SL.K (SQ.load (v := .slice (some ⟨bv, 0, none⟩) 7 (cap2 + 1)) isAgg25 rfl (CellAt.own 0 rfl rfl)) (SL.U (SU.indexAddr underlying25 sizeOf51 rfl rfl rfl dC (show (6 : Int) < ((7 : Nat) : Int) by decide)) ?_)))
 refine SL.U (SU.fieldAddrC (v := .slice (some ⟨bv, 0, none⟩) 7 (cap2 + 1)) (o := 18) underlying51 rfl sizeOf49 rfl rfl) (SL.K (SQ.partA (e := encCell) (a := ⟨7, 2, ⟨r7, 3, e7⟩⟩) (j := 6) (o := 2) (u := .slice r7 3 e7) isAgg49 rfl (Rd.rowA (v := .slice (some ⟨bv, 0, none⟩) 7 (cap2 + 1)) 1 rfl) rfl rfl) (SL.U (SU.lenN underlying49 rfl) (SL.U (SU.neq rfl rfl) (SL.nil (ST.thenN (SC.condF rfl (SC.skip (ST.thenN (SC.seq (SC.region (SL.U (SU.fieldAddr underlying27 rfl sizeOf25 rfl) (SL.K (SQ.load (v := .slice (some ⟨bv, 0, none⟩) 7 (cap2 + 1)) isAgg25 rfl (CellAt.own 0 rfl rfl)) (SL.U (SU.indexAddr underlying25 sizeOf51 rfl rfl rfl dC (show (6 : Int) < ((7 : Nat) : Int) by decide)) ?_)))))))))))))
 refine SL.U (SU.fieldAddrC (v := .slice (some ⟨bv, 0, none⟩) 7 (cap2 + 1)) (o := 18) underlying51 rfl sizeOf49 rfl rfl) (SL.K (SQ.partA (e := encCell) (a := ⟨7, 2, ⟨r7, 3, e7⟩⟩) (j := 6) (o := 2) (u := .slice r7 3 e7) isAgg49 rfl (Rd.rowA (v := .slice (some ⟨bv, 0, none⟩) 7 (cap2 + 1)) 1 rfl) rfl rfl) (SL.U (SU.indexAddr underlying49 sizeOf55 rfl rfl hb7 dC (show (1 : Int) < ((3 : Nat) : Int) by decide)) ?_))
 refine SL.U (SU.fieldAddrC (v := .slice r7 3 e7) (o := 2) underlying55 rfl sizeOf3 rfl hb7) (SL.on (SO.partA (e := encSide) (a := ⟨5, -1⟩) (j := 1) (o := 1) 8 ⟨5, 1⟩ sizeOf3 rfl rfl rfl rfl rfl rfl dC rfl) ?_)
 rintro _ _ _ ⟨rfl, rfl⟩
 refine SL.nil (ST.thenN (SC.seq ?_))
 refine SC.to (g' := g4) (s' := rowA encCell 51 (.slice (some ⟨bv, 0, none⟩) 7 (cap2 + 1)) (triRs r1 r2 r3 r4 r5 r6 r7 e1 e2 e3 e4 e5 e6 e7) :: (ownS turnL (triRs r1 r2 r3 r4 r5 r6 r7 e1 e2 e3 e4 e5 e6 e7) ++ (pt b8 (.cells #[.slice (some ⟨bv, 0, none⟩) 7 (cap2 + 1)] 27 (0, 0)) :: pt b7 (.cells #[.slice (some ⟨bu, 0, none⟩) 6 (cap + 1)] 27 (0, 0)) :: pt b4 (.cells #[vi 4, vi 1, .slice yp 2 yd] 51 (0, 0)) :: pt b2 (.cells #[vi 7, vi 2, .slice xp 3 xd] 51 (0, 0)) :: pt b1 (.cells #[.slice q triL.length d] 27 (0, 0)) :: s))) (fun w hw => turn_at hw) ?_
 refine SC.freezeCells (turn_o _ _ _ _ _ _ _ _ _ _ _ _ _ _) fun g5 hle5 hturn => ?_
 have hu5 := hu4.mono hle5
 refine SC.region (SL.K (SQ.loadVarK 1 isAgg27 sizeOf27 rfl rfl rfl) (SL.W (SO.call call12 rfl (check_spec E g5 _ _ lessL (hless.mono hle5) less_fits)) ?_))
 rintro _ _ _ ⟨rfl, rfl, rfl⟩
 rw [less_check]
 refine SL.M rfl (SL.U (SU.extract rfl rfl) (SL.U (SU.extract rfl rfl) (SL.A rfl (SL.A rfl (SL.nil (ST.thenN (SC.seq (SC.region (SL.K (SQ.loadVarK 0 isAgg27 sizeOf27 rfl rfl rfl) (SL.W (SO.call call12 rfl (check_spec E g5 _ _ turnL hturn turn_fits)) ?_))))))))))
 rintro _ _ _ ⟨rfl, rfl, rfl⟩
 rw [turn_check]
 refine SL.M rfl (SL.U (SU.extract rfl rfl) (SL.U (SU.extract rfl rfl) (SL.A rfl (SL.A rfl (SL.nil (ST.thenN (SC.seq (SC.region (SL.K (SQ.loadVarK 4 isAgg27 sizeOf27 rfl rfl rfl) (SL.W (SO.call call12 rfl (check_spec E g5 _ _ triL hu5 tri_fits)) ?_))))))))))
 rintro _ _ _ ⟨rfl, rfl, rfl⟩
 rw [tri_check]
 refine SL.M rfl (SL.U (SU.extract rfl rfl) (SL.U (SU.extract rfl rfl) (SL.A rfl (SL.A rfl (SL.nil (ST.thenN (SC.seq (SC.region (SL.M rfl (SL.U (SU.eql rfl rfl) (SL.M rfl (SL.Y rfl rfl rfl (SU.move rfl) (SL.Y rfl rfl rfl (SU.eql rfl rfl) (SL.U (SU.pickT rfl rfl) (SL.M rfl (SL.Y rfl rfl rfl (SU.move rfl) (SL.Y rfl rfl rfl (SU.eql rfl rfl) (SL.U (SU.pickT rfl rfl) (SL.M rfl (SL.Y rfl rfl rfl (SU.move rfl) (SL.Y rfl rfl rfl (SU.eql rfl rfl) (SL.U (SU.pickT rfl rfl) (SL.M rfl (SL.Y rfl rfl rfl (SU.move rfl) (SL.Y rfl rfl rfl (SU.eql rfl rfl) (SL.U (SU.pickT rfl rfl) (SL.M rfl (SL.Y rfl rfl rfl (SU.move rfl) (SL.Y rfl rfl rfl (SU.eql rfl rfl) ?_)))))))))))))))))))))))))))))
 refine SL.U (SU.pickT rfl rfl) (SL.A rfl (SL.nil (ST.thenN (SC.seq (SC.region (SL.K (SQ.loadVarK 4 isAgg27 sizeOf27 rfl rfl rfl) (SL.W (SO.call call36 rfl (tops_spec E g5 _ _ triL hu5 tri_fits)) ?_)))))))
 rintro v150 g6 _ ⟨rfl, hle6, h150⟩
 rw [tri_tops] at h150
 have hu6 := hu5.mono hle6
 refine SL.W (SO.buildSlice sty45 rfl rfl rfl (szs_mk ⟨rfl, trivial⟩) dC) ?_
 rintro _ _ _ ⟨b151, rfl, rfl, rfl⟩
 refine SL.freeze fun g7 hle7 hb151 => ?_
 have h151 : Ints g7 (.slice (some ⟨b151, 0, none⟩) 1 1) [7] := SlA.lit hb151 rfl rfl
 have hu7 := hu6.mono hle7
 refine SL.W (SO.call call35 rfl (ints_spec E g7 _ _ _ [7] [7] (h150.mono hle7) h151 dC)) ?_
 rintro _ _ _ ⟨rfl, rfl, rfl⟩
 rw [show decide (([7] : List Int) = [7]) = true from decide_eq_true rfl]
 refine SL.M rfl (SL.gq (Gd.onT rfl rfl rfl dC) (SQ.loadVarK 4 isAgg27 sizeOf27 rfl rfl rfl) dC (SL.go (Gd.onT rfl rfl rfl dC) (SO.call call37 rfl (above_spec E g7 _ _ triL 2 hu7 tri_fits)) dC ?_))
 rintro v155 g8 _ ⟨rfl, hle8, h155⟩
 rw [tri_above] at h155
 have hu8 := hu7.mono hle8
 refine SL.go (Gd.onT rfl rfl rfl dC) (SO.buildSlice sty45 rfl rfl rfl (szs_mk ⟨rfl, rfl, trivial⟩) dC) dC ?_
 rintro _ _ _ ⟨b156, rfl, rfl, rfl⟩
 refine SL.freeze fun g9 hle9 hb156 => ?_
 have h156 : Ints g9 (.slice (some ⟨b156, 0, none⟩) 2 2) [4, 6] := SlA.lit hb156 rfl rfl
 have hu9 := hu8.mono hle9
 refine SL.go (Gd.onT rfl rfl rfl dC) (SO.call call35 rfl (ints_spec E g9 _ _ _ [4, 6] [4, 6] (h155.mono hle9) h156 dC)) dC ?_
 rintro _ _ _ ⟨rfl, rfl, rfl⟩
 rw [show decide (([4, 6] : List Int) = [4, 6]) = true from decide_eq_true rfl]
 refine SL.U (SU.pickT rfl rfl) (SL.M rfl (SL.gq (Gd.onT rfl rfl rfl dC) (SQ.loadVarK 4 isAgg27 sizeOf27 rfl rfl rfl) dC (SL.go (Gd.onT rfl rfl rfl dC) (SO.buildSlice sty45 rfl rfl rfl (szs_mk ⟨rfl, trivial⟩) dC) dC ?_)))
 rintro _ _ _ ⟨b161, rfl, rfl, rfl⟩
 refine SL.freeze fun g10 hle10 hb161 => ?_
 have h161 : Ints g10 (.slice (some ⟨b161, 0, none⟩) 1 1) [4] := SlA.lit hb161 rfl rfl
 have hu10 := hu9.mono hle10
 refine SL.go (Gd.onT rfl rfl rfl dC) (SO.call call29 rfl (closureTop E hE g10 _ _ _ triL [4] hu10 tri_fits h161 dC tri_ids)) dC ?_
 rintro v162 g11 _ ⟨rfl, hle11, h162⟩
 rw [tri_closure] at h162
 have hu11 := hu10.mono hle11
 refine SL.go (Gd.onT rfl rfl rfl dC) (SO.buildSlice sty45 rfl rfl rfl (szs_mk ⟨rfl, rfl, rfl, trivial⟩) dC) dC ?_
 rintro _ _ _ ⟨b163, rfl, rfl, rfl⟩
 refine SL.freeze fun g12 hle12 hb163 => ?_
 have h163 : Ints g12 (.slice (some ⟨b163, 0, none⟩) 3 3) [1, 2, 4] := SlA.lit hb163 rfl rfl
 have hu12 := hu11.mono hle12
 refine SL.go (Gd.onT rfl rfl rfl dC) (SO.call call35 rfl (ints_spec E g12 _ _ _ [1, 2, 4] [1, 2, 4] (h162.mono hle12) h163 dC)) dC ?_
 rintro _ _ _ ⟨rfl, rfl, rfl⟩
 rw [show decide (([1, 2, 4] : List Int) = [1, 2, 4]) = true from decide_eq_true rfl]
 refine SL.U (SU.pickT rfl rfl) (SL.A rfl (SL.nil (ST.thenN (SC.seq (SC.region (SL.W (SO.buildSlice sty45 rfl rfl rfl (szs_mk ⟨rfl, rfl, trivial⟩) dC) ?_))))))
 rintro _ _ _ ⟨b166, rfl, rfl, rfl⟩
 refine SL.freeze fun g13 hle13 hb166 => ?_
 have h166 : Ints g13 (.slice (some ⟨b166, 0, none⟩) 2 2) [0, 1] := SlA.lit hb166 rfl rfl
 have hu13 := hu12.mono hle13
 refine SL.W (SO.buildSlice sty22 rfl rfl rfl (szs_mk ⟨rfl, trivial⟩) dC) ?_
 rintro _ _ _ ⟨b167, rfl, rfl, rfl⟩
 refine SL.freeze fun g14 hle14 hb167 => ?_
 have hlit : Lists g14 (.slice (some ⟨b167, 0, none⟩) 1 1) [[0, 1]] := ⟨[svOf (.slice (some ⟨b166, 0, none⟩) 2 2)], SlA.lit hb167 rfl rfl, ⟨h166.mono hle14, trivial⟩⟩
 have hu14 := hu13.mono hle14
 refine SL.W (SO.call call11 rfl (simplicial_spec E g14 _ _ _ hlit dC dC)) ?_
 rintro _ g15 _ ⟨rfl, hle15, ue, rfl, hedge⟩
 rw [simp_edge] at hedge
 obtain ⟨qe, de, rfl⟩ := hedge.form
 have hu15 := hu14.mono hle15
 refine SL.W (SO.alloc zeroValue27) ?_
 rintro _ _ _ ⟨b17, rfl, rfl, rfl⟩
 refine SL.on (SO.storeAllK 0 sizeOf27 rfl rfl rfl rfl rfl (by exact ⟨rfl, trivial⟩)) ?_
 rintro _ _ _ ⟨rfl, rfl⟩
 refine SL.nil (ST.thenN (SC.seq (SC.region (SL.K (SQ.loadVarK 0 isAgg27 sizeOf27 rfl rfl rfl) (SL.K (SQ.loadVarK 0 isAgg27 sizeOf27 rfl rfl rfl) (SL.W (SO.call call17 rfl (product_spec E g15 _ _ _ edgeL edgeL hedge hedge edge_fits edge_fits)) ?_))))))
 rintro _ g16 _ ⟨rfl, hle16, us, rfl, hsq0⟩
 have hsq : Cells g16 us squareL := hsq0
 obtain ⟨qs, ds, rfl⟩ := hsq.form
 rw [square_len]
 rw [square_len] at hsq
 have hu16 := hu15.mono hle16
 refine SL.W (SO.alloc zeroValue27) ?_
 rintro _ _ _ ⟨b18, rfl, rfl, rfl⟩
 refine SL.on (SO.storeAllK 0 sizeOf27 rfl rfl rfl rfl rfl (by exact ⟨rfl, trivial⟩)) ?_
 rintro _ _ _ ⟨rfl, rfl⟩
 refine SL.nil (ST.thenN (SC.seq (SC.region (SL.K (SQ.loadVarK 0 isAgg27 sizeOf27 rfl rfl rfl) (SL.W (SO.call call31 rfl (find_spec E g16 _ _ squareL 9 hsq square_fits)) ?_)))))
 rintro _ g17 _ ⟨rfl, hle17, z, rfl, hz⟩
 rw [square_find] at hz
 rw [square_find]
 obtain ⟨zp, zd, rfl, hzs⟩ := cellR_form (c := ⟨9, 2, [⟨3, -1⟩, ⟨6, 1⟩, ⟨7, 1⟩, ⟨8, -1⟩]⟩) hz
 have hbz : based (.slice zp 4 zd) = true := hzs.based dC
 have hu17 := hu16.mono hle17
 refine SL.M rfl (SL.U (SU.extract rfl rfl) (SL.U (SU.extract rfl rfl) (SL.W (SO.alloc zeroValue51) ?_)))
 rintro _ _ _ ⟨b19, rfl, rfl, rfl⟩
 refine SL.on (SO.storeAllK 0 sizeOf51 rfl rfl rfl rfl rfl (by exact ⟨rfl, rfl, rfl, trivial⟩)) ?_
 rintro _ _ _ ⟨rfl, rfl⟩
 refine SL.A rfl (SL.nil (ST.thenN (SC.seq ?_)))
 refine SC.to (g' := g17) (s' := pt b19 (.cells #[vi 9, vi 2, .slice zp 4 zd] 51 (0, 0)) :: pt b18 (.cells #[.slice qs 9 ds] 27 (0, 0)) :: pt b17 (.cells #[.slice qe edgeL.length de] 27 (0, 0)) :: pt b8 (.cells #[.slice (some ⟨bv, 0, none⟩) 7 (cap2 + 1)] 27 (0, 0)) :: pt b7 (.cells #[.slice (some ⟨bu, 0, none⟩) 6 (cap + 1)] 27 (0, 0)) :: pt b4 (.cells #[vi 4, vi 1, .slice yp 2 yd] 51 (0, 0)) :: pt b2 (.cells #[vi 7, vi 2, .slice xp 3 xd] 51 (0, 0)) :: pt b1 (.cells #[.slice q triL.length d] 27 (0, 0)) :: s) (fun w hw => hw) ?_
 refine SC.region (SL.M rfl (SL.M rfl (SL.Y rfl rfl rfl (SU.move rfl) (SL.U (SU.pickT rfl rfl) (SL.M rfl (SL.Y rfl rfl rfl (SU.move rfl) (SL.U (SU.pickT rfl rfl) (SL.M rfl (SL.gq (Gd.onT rfl rfl rfl dC) (SQ.loadVarK 7 isAgg27 sizeOf27 rfl rfl rfl) dC (SL.go (Gd.onT rfl rfl rfl dC) (SO.call call19 rfl (euler_spec E g17 _ _ triL hu17 tri_fits)) dC ?_))))))))))
 rintro _ _ _ ⟨rfl, rfl, rfl⟩
 rw [tri_euler]
 refine SL.Y rfl rfl rfl (SU.eql rfl rfl) (SL.U (SU.pickT rfl rfl) (SL.M rfl (SL.Y rfl rfl rfl (SU.fieldAddr underlying27 rfl sizeOf25 rfl) (SL.gq (Gd.onT rfl rfl rfl dC) (SQ.load (v := .slice qs 9 ds) isAgg25 rfl (CellAt.own 1 rfl rfl)) dC (SL.Y rfl rfl rfl (SU.lenN underlying25 rfl) (SL.Y rfl rfl rfl (SU.eql rfl rfl) (SL.U (SU.pickT rfl rfl) (SL.M rfl (SL.Y rfl rfl rfl (SU.move rfl) (SL.U (SU.pickT rfl rfl) (SL.M rfl (SL.Y rfl rfl rfl (SU.fieldAddr underlying51 rfl sizeOf49 rfl) (SL.gq (Gd.onT rfl rfl rfl dC) (SQ.load (v := .slice zp 4 zd) isAgg49 rfl (CellAt.own 0 rfl rfl)) dC (SL.Y rfl rfl rfl (SU.lenN underlying49 rfl) (SL.Y rfl rfl rfl (SU.eql rfl rfl) (SL.U (SU.pickT rfl rfl) (SL.M rfl (SL.Y rfl rfl rfl (SU.fieldAddr underlying51 rfl sizeOf49 rfl) (SL.gq (Gd.onT rfl rfl rfl dC) (SQ.load (v := .slice zp 4 zd) isAgg49 rfl (CellAt.own 0 rfl rfl)) dC (SL.Y rfl rfl rfl (SU.indexAddr underlying49 sizeOf55 rfl rfl hbz dC (show (0 : Int) < ((4 : Nat) : Int) by decide)) ?_))))))))))))))))))))
 refine SL.gq (Gd.onT rfl rfl rfl dC) (SQ.elemA (a := ⟨3, -1⟩) isAgg55 sizeOf55 rfl hzs.rd rfl) dC (SL.Y rfl rfl rfl (SU.build rfl (buildS55 3 (-1))) (SL.Y rfl rfl rfl (SU.eqlSideT ⟨3, -1⟩ rfl rfl) (SL.U (SU.pickT rfl rfl) (SL.M rfl (SL.Y rfl rfl rfl (SU.fieldAddr underlying51 rfl sizeOf49 rfl) (SL.gq (Gd.onT rfl rfl rfl dC) (SQ.load (v := .slice zp 4 zd) isAgg49 rfl (CellAt.own 0 rfl rfl)) dC (SL.Y rfl rfl rfl (SU.indexAddr underlying49 sizeOf55 rfl rfl hbz dC (show (3 : Int) < ((4 : Nat) : Int) by decide)) ?_)))))))
 refine SL.gq (Gd.onT rfl rfl rfl dC) (SQ.elemA (a := ⟨8, -1⟩) isAgg55 sizeOf55 rfl hzs.rd rfl) dC (SL.Y rfl rfl rfl (SU.build rfl (buildS55 8 (-1))) (SL.Y rfl rfl rfl (SU.eqlSideT ⟨8, -1⟩ rfl rfl) (SL.U (SU.pickT rfl rfl) (SL.A rfl (SL.nil (ST.thenN (SC.ret ?_)))))))
 refine ST.drop (s' := s) (by repeat (first | exact List.Sublist.refl _ | refine List.Sublist.cons _ ?_)) ?_
 exact ST.ret1 (.inl rfl) results9 rfl ⟨rfl, rfl, hle1.trans (hle2.trans (hle3.trans (hle4.trans (hle5.trans (hle6.trans (hle7.trans (hle8.trans (hle9.trans (hle10.trans (hle11.trans (hle12.trans (hle13.trans (hle14.trans (hle15.trans (hle16.trans hle17)))))))))))))))⟩
theorem ins_after {α : Type} {key : α → Int} {l out : List α} {x : α} {k : Nat} (hs : Srt key out) (hst : Stab key l out) (h1 : ∀ y ∈ out.take k, key y ≤ key x) (h2 : ∀ y ∈ out.drop k, key x < key y) :
  Srt key (out.take k ++ x :: out.drop k) ∧ Stab key (l ++ [x]) (out.take k ++ x :: out.drop k) := by
 have hs' : Srt key (out.take k ++ out.drop k) := by rw [List.take_append_drop]; exact hs
 have h3 := Srt.append_iff.1 hs'
 refine ⟨Srt.append_iff.2 ⟨h3.1, Srt.cons_iff.2 ⟨fun y hy => Int.le_of_lt (h2 y hy), h3.2.1⟩, fun y hy z hz => ?_⟩, ?_⟩
 ·rcases List.mem_cons.1 hz with rfl | hz
  ·exact h1 y hy
  ·exact h3.2.2 y hy z hz
 ·have h4 : Stab key (l ++ [x]) (out ++ [x]) := hst.append (Stab.refl [x])
  have h5 : Stab key (out.drop k ++ [x]) ([x] ++ out.drop k) := Stab.swap (fun y hy z hz => by simp at hz; subst hz; have := h2 y hy; omega)
  have h6 := Stab.append (Stab.refl (key := key) (out.take k)) h5
  have h7 : out ++ [x] = out.take k ++ (out.drop k ++ [x]) := by rw [← List.append_assoc, List.take_append_drop]
  rw [h7] at h4
  simpa using h4.trans h6
theorem srt_drop_gt {α : Type} {key : α → Int} {out : List α} {c : Int} {k : Nat} (hs : Srt key out) (hk : k < out.length) (h : c < key out[k]) : ∀ y ∈ out.drop k, c < key y := by
 rw [List.drop_eq_getElem_cons hk]
 intro y hy
 have h1 : Srt key (out.drop k) := List.Pairwise.sublist (List.drop_sublist k out) hs
 rw [List.drop_eq_getElem_cons hk] at h1
 rcases List.mem_cons.1 hy with rfl | hy
 ·exact h
 ·have := (Srt.cons_iff.1 h1).1 y hy
  omega
theorem sides_spec (E : World) (g : PH) (s : Own) (v : Value) (l : List Side) (hv : SlA encSide g v l) (hl : l.length < 1099511627776) :
  Ctr Tryz.prog E 56 #[v] g s (fun r g' s' => s = s' ∧ Le g g' ∧ SlA encSide g' r (sortBy Side.cell l)) := by
 obtain ⟨p, c, rfl⟩ := SlA.form hv
 refine Ctr.of (args := [.slice p l.length c]) func56 rfl ntmps56 (Nat.le_of_ble_eq_true rfl) ?_
 refine SC.seq (SC.region (SL.A rfl (SL.nil (ST.thenN (SC.seq (SC.region (SL.A rfl (SL.nil (ST.thenN (SC.seq (SC.seq (SC.region (SL.A rfl (SL.nil (ST.thenN (SC.block ?_))))))))))))))))
 refine SC.loop (ι := PH × Value × List Side × Nat) (fun i => [(0, .slice p l.length c), (3, i.2.1), (4, vi i.2.2.2)]) (fun i => i.1) (fun _ => s)
  (fun i => Le g i.1 ∧ SlA encSide i.1 i.2.1 i.2.2.1 ∧ i.2.2.2 ≤ l.length ∧ Srt Side.cell i.2.2.1 ∧ Stab Side.cell (l.take i.2.2.2) i.2.2.1) (fun i => l.length - i.2.2.2)
  (g, .slice none 0 0, [], 0) ⟨rfl, rfl, rfl, trivial⟩ rfl rfl ⟨Le.refl g, Sl.nil g _, Nat.zero_le _, Srt.nil, Stab.refl _⟩ ?_
 rintro ⟨g1, ov, out, i⟩ ⟨hle, hov, hi, hsrt, hst⟩
 dsimp only at hle hov hi hsrt hst ⊢
 have hol : out.length = i := by have := hst.1; rw [List.length_take] at this; omega
 obtain ⟨q, d, rfl⟩ := SlA.form hov
 have hqc := (SlA.cap hov).2
 refine SC.seq (SC.seq (SC.region (SL.M rfl (SL.M rfl (SL.U (SU.lenN underlying49 rfl) (SL.U (SU.lss rfl rfl) (SL.nil (ST.thenN ?_))))))))
 refine SC.ifP rfl (fun hlt => ?_) (fun hlt => ?_)
 ·have hil : i < l.length := oM
  have hb1 := SlA.based (hv.mono hle) oM
  have hgi : l[((i : Nat) : Int).toNat]? = some l[i] := List.getElem?_eq_getElem hil
  have htk : l.take (i + 1) = l.take i ++ [l[i]] := List.take_succ_eq_append_getElem hil
  generalize l[i] = x at *
  refine SC.skip (ST.thenN (SC.seq (SC.block (SC.seq (SC.region (SL.A rfl (SL.nil (ST.thenN ?_))))))))
  refine SC.cut (ι := Nat) (fun k => [(0, .slice p l.length c), (3, .slice q out.length d), (4, vi i), (5, vi k)]) (fun _ => g1) (fun _ => s) (fun k => k ≤ out.length ∧ (∀ y ∈ out.take k, y.cell ≤ x.cell) ∧ ∀ y ∈ out.drop k, x.cell < y.cell) ?_ ?_
  ·refine SC.block ?_
   refine SC.loop (ι := Nat) (fun k => [(0, .slice p l.length c), (3, .slice q out.length d), (4, vi i), (5, vi k)]) (fun _ => g1) (fun _ => s) (fun k => k ≤ out.length ∧ ∀ y ∈ out.take k, y.cell ≤ x.cell) (fun k => out.length - k) 0
    ⟨rfl, rfl, rfl, rfl, trivial⟩ rfl rfl ⟨Nat.zero_le _, by simp⟩ ?_
   rintro k ⟨hk, htake⟩
   by_cases hin : (k : Int) < (out.length : Int)
   ·have hkl : k < out.length := oM
    have hb2 := SlA.based hov oM
    have hd : decide ((k : Int) < (out.length : Int)) = true := decide_eq_true hin
    refine SC.seq (SC.seq ?_)
    refine SC.draw [] [(0, 2), (1, 2), (2, 2), (3, 2), (4, 2), (5, 2), (6, 2), (7, 2), (8, 2), (9, 1), (10, 2), (11, 2), (12, 2), (13, 2), (14, 1), (15, 2), (16, 2)] Tryz.mixed (by kernel_rfl) ?_
    refine SP.U (i := 0) rfl (SU.move rfl) (SP.U (i := 1) rfl (SU.move rfl) (SP.U (i := 2) rfl (SU.lenN underlying49 rfl) (SP.U (i := 3) rfl (SU.eq (SU.lss rfl rfl) (congrArg vb hd)) (SP.U (i := 4) rfl (SU.move rfl) (SP.gu (i := 5) rfl (Gd.onT rfl rfl rfl dC) (SU.move rfl) dC (SP.gu (i := 6) rfl (Gd.onT rfl rfl rfl dC) (SU.move rfl) dC (SP.gu (i := 7) rfl (Gd.onT rfl rfl rfl dC) (SU.indexAddr underlying49 sizeOf55 rfl rfl hb2 oM sL) dC (SP.gu (i := 8) rfl (Gd.onT rfl rfl rfl dC) (SU.fieldAddrC underlying55 rfl sizeOf3 rfl hb2) dC ?_))))))))
    refine SP.gq (i := 9) rfl (Gd.onT rfl rfl rfl dC) (SQ.partA (o := 0) isAgg3 rfl hov.rd (List.getElem?_eq_getElem hkl) rfl) dC ?_
    refine SP.gu (i := 10) rfl (Gd.onT rfl rfl rfl dC) (SU.move rfl) dC (SP.gu (i := 11) rfl (Gd.onT rfl rfl rfl dC) (SU.move rfl) dC (SP.gu (i := 12) rfl (Gd.onT rfl rfl rfl dC) (SU.indexAddr underlying49 sizeOf55 rfl rfl hb1 oM sL) dC (SP.gu (i := 13) rfl (Gd.onT rfl rfl rfl dC) (SU.fieldAddrC underlying55 rfl sizeOf3 rfl hb1) dC (SP.gq (i := 14) rfl (Gd.onT rfl rfl rfl dC) (SQ.partA (o := 0) isAgg3 rfl (hv.mono hle).rd hgi rfl) dC (SP.gu (i := 15) rfl (Gd.onT rfl rfl rfl dC) (SU.leq rfl rfl) dC (SP.U (i := 16) rfl (SU.pickT rfl rfl) (SP.nil (ST.thenN ?_))))))))
    refine SC.ifP rfl (fun hc => ?_) (fun hc => ?_)
    ·refine SC.skip (ST.thenN (SC.block (SC.region (SL.M rfl (SL.U (SU.add rfl rfl oM) (SL.A rfl (SL.nil (ST.blockN ?_))))))))
     exact ST.again (k + 1) ⟨rfl, rfl, rfl, rfl, trivial⟩ rfl rfl ⟨oM, by
      rw [List.take_succ_eq_append_getElem hkl]
      intro y hy
      rcases List.mem_append.1 hy with h | h
      ·exact htake y h
      ·simp at h; subst h; exact hc⟩ oM
    ·refine SC.exit (ST.thenX (ST.thenX (ST.blockX ?_)))
     exact ST.mid k ⟨rfl, rfl, rfl, rfl, trivial⟩ rfl rfl ⟨hk, htake, srt_drop_gt hsrt hkl oM⟩
   ·have hd : decide ((k : Int) < (out.length : Int)) = false := decide_eq_false hin
    refine SC.seq (SC.seq ?_)
    refine SC.draw [] [(0, 2), (1, 2), (2, 2), (3, 2), (4, 2), (5, 2), (6, 2), (7, 2), (8, 2), (9, 1), (10, 2), (11, 2), (12, 2), (13, 2), (14, 1), (15, 2), (16, 2)] Tryz.mixed (by kernel_rfl) ?_
    refine SP.U (i := 0) rfl (SU.move rfl) (SP.U (i := 1) rfl (SU.move rfl) (SP.U (i := 2) rfl (SU.lenN underlying49 rfl) (SP.U (i := 3) rfl (SU.eq (SU.lss rfl rfl) (congrArg vb hd)) (SP.U (i := 4) rfl (SU.move rfl) (SP.off (i := 5) rfl (Gd.onF rfl rfl rfl dC) dC (SP.off (i := 6) rfl (Gd.onF rfl rfl rfl dC) dC (SP.off (i := 7) rfl (Gd.onF rfl rfl rfl dC) dC (SP.off (i := 8) rfl (Gd.onF rfl rfl rfl dC) dC (SP.off1 (i := 9) rfl (Gd.onF rfl rfl rfl dC) dC (SP.off (i := 10) rfl (Gd.onF rfl rfl rfl dC) dC (SP.off (i := 11) rfl (Gd.onF rfl rfl rfl dC) dC (SP.off (i := 12) rfl (Gd.onF rfl rfl rfl dC) dC (SP.off (i := 13) rfl (Gd.onF rfl rfl rfl dC) dC (SP.off1 (i := 14) rfl (Gd.onF rfl rfl rfl dC) dC (SP.off (i := 15) rfl (Gd.onF rfl rfl rfl dC) dC (SP.U (i := 16) rfl (SU.pickF rfl rfl) (SP.nil (ST.thenN (SC.condF rfl (SC.exit (ST.thenX (ST.thenX (ST.blockX ?_)))))))))))))))))))))))
    exact ST.mid k ⟨rfl, rfl, rfl, rfl, trivial⟩ rfl rfl ⟨hk, htake, by rw [List.drop_eq_nil_of_le oM]; simp⟩
  ·rintro k ⟨hk, hk1, hk2⟩
   have hnew := ins_after hsrt hst hk1 hk2
   have hc1 := SlA.cut hov (l := k) (m := out.length) hk (Nat.le_refl _)
   have hc2 := SlA.cut hov (l := 0) (m := k) (Nat.zero_le _) hk
   rw [List.take_of_length_le (by rw [List.length_drop]; exact Nat.le_refl _)] at hc1
   rw [List.drop_zero, Nat.sub_zero] at hc2
   refine SC.seq ?_
   refine SC.draw [8] [(0, 2), (1, 2), (2, 2), (3, 1), (5, 2), (6, 2), (7, 2), (4, 0), (8, 0), (9, 2)] Tryz.mixed (by kernel_rfl) ?_
   refine SP.U (i := 0) rfl (SU.move rfl) (SP.U (i := 1) rfl (SU.move rfl) (SP.U (i := 2) rfl (SU.indexAddr underlying49 sizeOf55 rfl rfl hb1 oM sL) (SP.K (i := 3) rfl (SQ.elemA isAgg55 sizeOf55 rfl (hv.mono hle).rd hgi) (SP.U (i := 5) rfl (SU.move rfl) (SP.U (i := 6) rfl (SU.move rfl) (SP.U (i := 7) rfl (SU.sliceL underlying49 sizeOf55 rfl rfl oM oM) (SP.o (i := 4) rfl (SO.buildSlice sty49 rfl rfl rfl (szs_mk ⟨rfl, trivial⟩) dC) dC (.inr (by rintro _ _ _ ⟨b36, rfl, rfl, rfl⟩; exact ⟨by exact Le.refl _, (by exact .cons _ (.refl _))⟩)) ?_)))))))
   rintro _ _ _ ⟨b36, rfl, rfl, rfl⟩
   refine SP.to (fun w hw => At.litRow (e := encSide) (l := [x]) (n := 0) hw rfl rfl dC) ?_
   refine SP.o (i := 8) rfl (SO.appA (e := encSide) 0 sty49 rfl rfl rfl hc1 (by rw [List.length_drop]; (first | with_reducible rfl | ((try dsimp only); (try simp only [List.length_append, List.length_cons, List.length_nil, List.length_singleton, List.length_take, List.length_drop]) <;> omega))) (by rw [List.length_drop]; (first | with_reducible rfl | ((try dsimp only); (try simp only [List.length_append, List.length_cons, List.length_nil, List.length_singleton, List.length_take, List.length_drop]) <;> omega)))) dC (.inl dC) ?_
   rintro v40 _ _ ⟨rfl, rfl⟩
   refine SP.U (i := 9) rfl (SU.assign rfl) (SP.nil (ST.thenN (SC.freezeRow fun g2 hle2 hs2 => ?_)))
   have hrest : SlA encSide g2 v40 ([x] ++ out.drop k) := hs2
   refine SC.region (SL.W (SO.buildSlice sty49 rfl rfl rfl (szs_mk trivial) dC) ?_)
   rintro _ _ _ ⟨b41, rfl, rfl, rfl⟩
   refine SL.emptyRow 55 2 (some ⟨b41, 0, none⟩) (SL.M rfl (SL.M rfl (SL.U (SU.sliceH underlying49 sizeOf55 rfl rfl oM oM) (SL.W (SO.appA (e := encSide) (l := []) 0 sty49 rfl rfl rfl (hc2.mono hle2) (by rw [List.length_take]; (first | with_reducible rfl | ((try dsimp only); (try simp only [List.length_append, List.length_cons, List.length_nil, List.length_singleton, List.length_take, List.length_drop]) <;> omega))) (by rw [List.length_take]; (first | with_reducible rfl | ((try dsimp only); (try simp only [List.length_append, List.length_cons, List.length_nil, List.length_singleton, List.length_take, List.length_drop]) <;> omega)))) ?_))))
   rintro v45 _ _ ⟨rfl, rfl⟩
   refine SL.M rfl (SL.W (SO.appA (e := encSide) 0 sty49 rfl rfl rfl hrest lN lN) ?_)
   rintro v47 _ _ ⟨rfl, rfl⟩
   refine SL.A rfl (SL.nil (ST.blockN (ST.thenN (SC.region (SL.M rfl (SL.U (SU.add rfl rfl oM) (SL.A rfl (SL.nil (ST.freezeRow fun g3 hle3 hs3 => ?_)))))))))
   refine ST.drop (s' := s) (.cons _ (.refl _)) ?_
   have hres : SlA encSide g3 v47 (out.take k ++ x :: out.drop k) := by have h : SlA encSide g3 v47 ([] ++ out.take k ++ ([x] ++ out.drop k)) := hs3; simpa using h
   exact ST.again (g3, v47, out.take k ++ x :: out.drop k, i + 1) ⟨rfl, rfl, rfl, trivial⟩ rfl rfl ⟨hle.trans (hle2.trans hle3), hres, lN, hnew.1, by dsimp only; rw [htk]; exact hnew.2⟩ lN
 ·have hii : l.take i = l := List.take_of_length_le oM
  rw [hii] at hst
  refine SC.exit (ST.thenX (ST.thenX (ST.blockX (ST.thenN (SC.seq (SC.region (SL.M rfl (SL.A rfl (SL.nil (ST.thenN (SC.ret ?_)))))))))))
  exact ST.ret1 (.inl rfl) results56 rfl ⟨rfl, hle, by rw [← eq_sortBy hsrt hst]; exact hov⟩
theorem All2.drop {α β : Type} {R : α → β → Prop} : ∀ {l : List α} {m : List β} (k : Nat), All2 R l m → All2 R (l.drop k) (m.drop k)
 | _, _, 0, h => by simpa using h
 | [], [], k + 1, _ => trivial
 | _ :: _, _ :: _, k + 1, h => by simpa using All2.drop k h.2
 | [], _ :: _, _ + 1, h => h.elim
 | _ :: _, [], _ + 1, h => h.elim
theorem All2.take {α β : Type} {R : α → β → Prop} : ∀ {l : List α} {m : List β} (k : Nat), All2 R l m → All2 R (l.take k) (m.take k)
 | _, _, 0, _ => by simp; trivial
 | [], [], k + 1, _ => trivial
 | _ :: _, _ :: _, k + 1, h => ⟨h.1, All2.take k h.2⟩
 | [], _ :: _, _ + 1, h => h.elim
 | _ :: _, [], _ + 1, h => h.elim
theorem Cells.cut {g : PH} {p : Option Addr} {c a b n : Nat} {l : List Cl} (h : Cells g (.slice p n c) l) (ha : a ≤ b) (hb : b ≤ l.length) : Cells g (sliced p a b c 3) ((l.drop a).take (b - a)) := by
 obtain ⟨rs, h1, h2⟩ := h
 have hl := h2.length
 have hn := (SlA.cap h1).1
 subst hn
 exact ⟨_, SlA.cut h1 ha oM, All2.take (b - a) (All2.drop a h2)⟩
theorem Cells.cap {g : PH} {p : Option Addr} {c n : Nat} {l : List Cl} (h : Cells g (.slice p n c) l) : n = l.length ∧ l.length ≤ c := by
 obtain ⟨rs, h1, h2⟩ := h
 have := SlA.cap h1
 rw [h2.length]
 exact ⟨this.1, this.2⟩
theorem canonC_alt (l : List Cl) : canonC l = sortBy Cl.id (l.map normC) := by
 unfold canonC
 rw [sortBy_map]
 rfl
theorem canonC_srt (l : List Cl) : Srt Cl.id (canonC l) := by rw [canonC_alt]; exact sortBy_srt _
theorem canonC_stab (l : List Cl) : Stab Cl.id (l.map normC) (canonC l) := by rw [canonC_alt]; exact sortBy_stab _
theorem Tryz.buildF51 (x y : Int) (v : Value) (hv : v.cells = #[v]) (w : World) : (Instr.build 51 #[(0, vi x), (1, vi y), (2, v)]).run Tryz.prog w = .ok (.agg #[vi x, vi y, v]) w := by
 have hz : (Value.agg #[vi 0, vi 0, Value.slice none 0 0]).cells = #[vi 0, vi 0, .slice none 0 0] := rfl
 have h1 : (vi x).cells = #[vi x] := rfl
 have h2 : (vi y).cells = #[vi y] := rfl
 simp [Instr.build, Instr.fill, hv, hz, h1, h2]
theorem half_tdiv (n : Nat) (h : n < 4611686018427387904) : IntKind.i64.wrap (((n : Nat) : Int).tdiv 2) = ((n / 2 : Nat) : Int) := by
 have h1 : ((n : Nat) : Int).tdiv 2 = ((n / 2 : Nat) : Int) := by
  rw [Int.tdiv_eq_ediv_of_nonneg oM]; simp
 rw [h1, IntWalk.i64_in _ oM]
theorem ordered_spec (E : World) : ∀ (n : Nat) (g : PH) (s : Own) (v : Value) (l : List Cl), l.length ≤ n → Cells g v l → Fits l →
  Ctr Tryz.prog E 97 #[v] g s (fun r g' s' => s = s' ∧ Le g g' ∧ Cells g' r (canonC l)) := by
 intro n
 induction n with
 | zero =>
  intro g s v l hn hv hf
  have hl0 : l = [] := List.eq_nil_of_length_eq_zero oM
  subst hl0
  obtain ⟨p, c, rfl⟩ := hv.form
  refine Ctr.of (args := [.slice p 0 c]) func97 rfl ntmps97 (Nat.le_of_ble_eq_true rfl) ?_
  refine SC.seq (SC.region (SL.A rfl (SL.nil (ST.thenN (SC.seq (SC.seq (SC.region (SL.M rfl (SL.U (SU.lenN underlying25 rfl) (SL.U (SU.eql rfl rfl) (SL.nil (ST.thenN ?_))))))))))))
  refine SC.ifP rfl (fun h0 => ?_) (fun h0 => ?_)
  ·refine SC.seq (SC.region (SL.A rfl (SL.nil (ST.thenN (SC.ret (ST.thenR ?_))))))
   exact ST.ret1 (.inl rfl) results97 rfl ⟨rfl, Le.refl g, [], Sl.nil g _, trivial⟩
  ·exact absurd rfl h0
 | succ n ih =>
  intro g s v l hn hv hf
  obtain ⟨rs, hrs, hall⟩ := hv
  have hv : Cells g v l := ⟨rs, hrs, hall⟩
  have hlen := hall.length
  have hfl := hf.1
  obtain ⟨p, c, rfl⟩ := hv.form
  have hcap := (Cells.cap hv).2
  refine Ctr.of (args := [.slice p l.length c]) func97 rfl ntmps97 (Nat.le_of_ble_eq_true rfl) ?_
  refine SC.seq (SC.region (SL.A rfl (SL.nil (ST.thenN (SC.seq (SC.seq (SC.region (SL.M rfl (SL.U (SU.lenN underlying25 rfl) (SL.U (SU.eql rfl rfl) (SL.nil (ST.thenN ?_))))))))))))
  refine SC.ifP rfl (fun h0 => ?_) (fun h0 => ?_)
  ·have hl0 : l = [] := List.eq_nil_of_length_eq_zero oM
   subst hl0
   refine SC.seq (SC.region (SL.A rfl (SL.nil (ST.thenN (SC.ret (ST.thenR ?_))))))
   exact ST.ret1 (.inl rfl) results97 rfl ⟨rfl, Le.refl g, [], Sl.nil g _, trivial⟩
  ·refine SC.skip (ST.thenN (SC.seq (SC.seq (SC.region (SL.M rfl (SL.U (SU.lenN underlying25 rfl) (SL.U (SU.eql rfl rfl) (SL.nil (ST.thenN ?_)))))))))
   refine SC.ifP rfl (fun h1 => ?_) (fun h1 => ?_)
   ·obtain ⟨x, hx⟩ : ∃ x, l = [x] := by
     match l, h1 with
     | [x], _ => exact ⟨x, rfl⟩
     | [], h => simp at h
     | _ :: _ :: _, h => simp at h; omega
    subst hx
    obtain ⟨r, rs', rfl, hr, hn'⟩ := All2.cons_left hall
    have hrs0 := All2.nil_left hn'
    subst hrs0
    obtain ⟨rp, rd, rfl, hsd⟩ := cellR_form hr
    have hb1 := hrs.based (by simp)
    have hxl := hf.2 x (by simp)
    refine SC.seq ?_
    refine SC.draw [] [(0, 2), (1, 2), (2, 2), (3, 1), (4, 2), (5, 2), (6, 2), (7, 1), (8, 2), (9, 2), (10, 2), (11, 1), (12, 0), (13, 2), (14, 0), (15, 2)] Tryz.mixed (by kernel_rfl) ?_
    refine SP.U (i := 0) rfl (SU.move rfl) (SP.U (i := 1) rfl (SU.indexAddr underlying25 sizeOf51 rfl rfl hb1 dC (show (0 : Int) < ((1 : Nat) : Int) by decide)) ?_)
    refine SP.U (i := 2) rfl (SU.fieldAddrC underlying51 rfl sizeOf3 rfl hb1) (SP.K (i := 3) rfl (SQ.partA (e := encCell) (o := 0) (j := 0) (u := vi x.id) isAgg3 rfl hrs.rd rfl rfl) (SP.U (i := 4) rfl (SU.move rfl) (SP.U (i := 5) rfl (SU.indexAddr underlying25 sizeOf51 rfl rfl hb1 dC (show (0 : Int) < ((1 : Nat) : Int) by decide)) ?_)))
    refine SP.U (i := 6) rfl (SU.fieldAddrC underlying51 rfl sizeOf3 rfl hb1) (SP.K (i := 7) rfl (SQ.partA (e := encCell) (o := 1) (j := 0) (u := vi x.dim) isAgg3 rfl hrs.rd rfl rfl) (SP.U (i := 8) rfl (SU.move rfl) (SP.U (i := 9) rfl (SU.indexAddr underlying25 sizeOf51 rfl rfl hb1 dC (show (0 : Int) < ((1 : Nat) : Int) by decide)) ?_)))
    refine SP.U (i := 10) rfl (SU.fieldAddrC underlying51 rfl sizeOf49 rfl hb1) (SP.K (i := 11) rfl (SQ.partA (e := encCell) (o := 2) (j := 0) (u := .slice rp x.sides.length rd) isAgg49 rfl hrs.rd rfl rfl) (SP.o (i := 12) rfl (SO.call call56 rfl (sides_spec E g _ _ x.sides hsd hxl)) dC (.inr (by rintro v24 g1 _ ⟨rfl, hle1, hs1⟩; exact ⟨by assumption, (by exact .refl _)⟩)) ?_))
    rintro v24 g1 _ ⟨rfl, hle1, hs1⟩
    obtain ⟨q, d, rfl⟩ := SlA.form hs1
    refine SP.U (i := 13) rfl (SU.build rfl (buildF51 _ _ _ rfl)) (SP.o (i := 14) rfl (SO.buildSlice sty25 rfl rfl rfl (szs_mk (by exact ⟨rfl, trivial⟩)) dC) dC (.inr (by rintro _ _ _ ⟨b26, rfl, rfl, rfl⟩; exact ⟨by assumption, (by exact .cons _ (.refl _))⟩)) ?_)
    rintro _ _ _ ⟨b26, rfl, rfl, rfl⟩
    refine SP.U (i := 15) rfl (SU.assign rfl) (SP.nil (ST.thenN (SC.ret (ST.thenR (ST.freeze fun g2 hle2 hb => ?_)))))
    exact ST.ret1 (.inl rfl) results97 rfl ⟨rfl, hle1.trans hle2, [⟨x.id, x.dim, ⟨q, (sortBy Side.cell x.sides).length, d⟩⟩], SlA.lit hb rfl rfl, ⟨⟨rfl, rfl, hs1.mono hle2⟩, trivial⟩⟩
   ·have hm1 : l.length / 2 < l.length := oM
    have hm0 : 0 < l.length / 2 := oM
    have hc1 := Cells.cut hv (a := 0) (b := l.length / 2) oM oM
    have hc2 := Cells.cut hv (a := l.length / 2) (b := l.length) oM oM
    rw [List.drop_zero, Nat.sub_zero] at hc1
    rw [List.take_of_length_le (by rw [List.length_drop]; exact Nat.le_refl _)] at hc2
    have hf1 : Fits (l.take (l.length / 2)) := ⟨by rw [List.length_take]; omega, fun c hc => hf.2 c (List.mem_of_mem_take hc)⟩
    have hf2 : Fits (l.drop (l.length / 2)) := ⟨by rw [List.length_drop]; omega, fun c hc => hf.2 c (List.mem_of_mem_drop hc)⟩
    have hca := canonC_length (l.take (l.length / 2))
    have hcb := canonC_length (l.drop (l.length / 2))
    have hsa := canonC_srt (l.take (l.length / 2))
    have hsb := canonC_srt (l.drop (l.length / 2))
    have hst : Stab Cl.id (l.map normC) (canonC (l.take (l.length / 2)) ++ canonC (l.drop (l.length / 2))) := by
     have h2 := (canonC_stab (l.take (l.length / 2))).append (canonC_stab (l.drop (l.length / 2)))
     rwa [← List.map_append, List.take_append_drop] at h2
    rw [List.length_take] at hca
    rw [List.length_drop] at hcb
    refine SC.skip (ST.thenN (SC.seq (SC.region (SL.M rfl (SL.M rfl (SL.U (SU.lenN underlying25 rfl) (SL.U (SU.eq (v' := vi ((l.length / 2 : Nat) : Int)) (SU.quo rfl rfl dC) (congrArg vi (half_tdiv _ oM))) (SL.U (SU.sliceH underlying25 sizeOf51 rfl rfl oM oM) (SL.W (SO.call call97 rfl (ih g _ _ (l.take (l.length / 2)) (by rw [List.length_take]; omega) hc1 hf1)) ?_)))))))))
    rintro va0 g1 _ ⟨rfl, hle1, hA⟩
    refine SL.A rfl (SL.nil (ST.thenN (SC.seq (SC.region (SL.M rfl (SL.M rfl (SL.U (SU.lenN underlying25 rfl) (SL.U (SU.eq (v' := vi ((l.length / 2 : Nat) : Int)) (SU.quo rfl rfl dC) (congrArg vi (half_tdiv _ oM))) (SL.U (SU.sliceL underlying25 sizeOf51 rfl rfl oM oM) (SL.W (SO.call call97 rfl (ih g1 _ _ (l.drop (l.length / 2)) (by rw [List.length_drop]; omega) (hc2.mono hle1) hf2)) ?_))))))))))
    rintro vb0 g2 _ ⟨rfl, hle2, hB⟩
    refine SL.A rfl (SL.nil (ST.thenN (SC.seq (SC.region (SL.A rfl (SL.nil (ST.thenN ?_)))))))
    generalize hA0 : canonC (l.take (l.length / 2)) = A0 at *
    generalize hB0 : canonC (l.drop (l.length / 2)) = B0 at *
    refine SC.nilRow 51 3 ?_
    refine SC.cut (ι := Value × Value × Value × List Cl × List Cl × List Cl × List Rc) (fun i => [(3, i.1), (4, i.2.1), (5, i.2.2.1)]) (fun _ => g2) (fun i => rowA encCell 51 i.2.2.1 i.2.2.2.2.2.2 :: s)
     (fun i => Cells g2 i.1 i.2.2.2.1 ∧ Cells g2 i.2.1 i.2.2.2.2.1 ∧ All2 (CellR g2) i.2.2.2.2.2.1 i.2.2.2.2.2.2 ∧ i.2.2.2.2.2.1 ++ i.2.2.2.1 ++ i.2.2.2.2.1 = canonC l) ?_ ?_
    ·refine SC.block ?_
     refine SC.loop (ι := Value × Value × Value × List Cl × List Cl × List Cl × List Cl × List Cl × List Rc) (fun i => [(3, i.1), (4, i.2.1), (5, i.2.2.1)]) (fun _ => g2) (fun i => rowA encCell 51 i.2.2.1 i.2.2.2.2.2.2.2.2 :: s)
      (fun i => (Cells g2 i.1 i.2.2.2.2.1 ∧ Cells g2 i.2.1 i.2.2.2.2.2.2.1) ∧ All2 (CellR g2) i.2.2.2.2.2.2.2.1 i.2.2.2.2.2.2.2.2 ∧ A0 = i.2.2.2.1 ++ i.2.2.2.2.1 ∧ B0 = i.2.2.2.2.2.1 ++ i.2.2.2.2.2.2.1 ∧ Srt Cl.id i.2.2.2.2.2.2.2.1 ∧ Stab Cl.id (i.2.2.2.1 ++ i.2.2.2.2.2.1) i.2.2.2.2.2.2.2.1 ∧
       (∀ y ∈ i.2.2.2.2.2.2.2.1, ∀ z ∈ i.2.2.2.2.1 ++ i.2.2.2.2.2.2.1, y.id ≤ z.id) ∧ (∀ y ∈ i.2.2.2.2.2.1, ∀ z ∈ i.2.2.2.2.1, y.id < z.id)) (fun i => i.2.2.2.2.1.length + i.2.2.2.2.2.2.1.length)
      (va0, vb0, .slice none 0 0, [], A0, [], B0, [], []) ⟨rfl, rfl, rfl, trivial⟩ rfl rfl ⟨⟨hA.mono hle2, hB⟩, trivial, rfl, rfl, Srt.nil, Stab.refl _, by simp, by simp⟩ ?_
     rintro ⟨va, vb1, vo, A1, A2, B1, B2, out, ro⟩ ⟨⟨hva, hvb⟩, hro, hA', hB', hso, hto, hout, hlt⟩
     dsimp only at hva hvb hro hA' hB' hso hto hout hlt ⊢
     have hol : out.length = A1.length + B1.length := by have := hto.1; simpa using this
     have hrol := hro.length
     have hAl : A0.length = A1.length + A2.length := by rw [hA']; simp
     have hBl : B0.length = B1.length + B2.length := by rw [hB']; simp
     rw [hA'] at hsa
     rw [hB'] at hsb
     have hsa2 := (Srt.append_iff.1 hsa).2.1
     have hsb2 := (Srt.append_iff.1 hsb).2.1
     obtain ⟨pa, ca, rfl⟩ := hva.form
     obtain ⟨pb, cb, rfl⟩ := hvb.form
     have hcapa := (Cells.cap hva).2
     have hcapb := (Cells.cap hvb).2
     have hfin : A2 = [] ∨ B2 = [] → out ++ A2 ++ B2 = canonC l := fun h => by
      rw [canonC_alt]
      refine eq_sortBy ?_ ?_
      ·rw [List.append_assoc]
       refine Srt.append_iff.2 ⟨hso, ?_, hout⟩
       rcases h with rfl | rfl
       ·simpa using hsb2
       ·simpa using hsa2
      ·refine hst.trans ?_
       rw [hA', hB']
       rcases h with rfl | rfl
       ·have h2 := hto.append (Stab.refl (key := Cl.id) B2)
        simpa using h2
       ·have h3 : Stab Cl.id (A2 ++ B1) (B1 ++ A2) := Stab.swap (fun x hx y hy => by have := hlt y hy x hx; omega)
        have h4 := (Stab.refl (key := Cl.id) A1).append h3
        have h5 := hto.append (Stab.refl (key := Cl.id) A2)
        simp only [List.append_nil, List.append_assoc] at h4 h5 ⊢
        exact h4.trans h5
     cases A2 with
     | nil =>
      refine SC.seq (SC.seq (SC.region (SL.M rfl (SL.U (SU.lenN underlying25 rfl) (SL.U (SU.eq (v' := vb false) (SU.gtr rfl rfl) rfl) (SL.M rfl (SL.Z rfl rfl rfl (SL.Z rfl rfl rfl (SL.Z rfl rfl rfl (SL.U (SU.pickF rfl rfl) (SL.nil (ST.thenN (SC.condF rfl (SC.exit (ST.thenX (ST.thenX (ST.blockX ?_)))))))))))))))))
      exact ST.mid (_, _, vo, [], B2, out, ro) ⟨rfl, rfl, rfl, trivial⟩ rfl rfl ⟨hva, hvb, hro, hfin (.inl rfl)⟩
     | cons x A3 =>
      have hpa : (0 : Int) < ((x :: A3).length : Int) := by simp
      cases B2 with
      | nil =>
       refine SC.seq (SC.seq (SC.region (SL.M rfl (SL.U (SU.lenN underlying25 rfl) (SL.U (SU.eq (v' := vb true) (SU.gtr rfl rfl) (congrArg vb (decide_eq_true hpa))) (SL.M rfl (SL.Y rfl rfl rfl (SU.move rfl) (SL.Y rfl rfl rfl (SU.lenN underlying25 rfl) (SL.Y rfl rfl rfl (SU.eq (v' := vb false) (SU.gtr rfl rfl) rfl) (SL.U (SU.pickT rfl rfl) (SL.nil (ST.thenN (SC.condF rfl (SC.exit (ST.thenX (ST.thenX (ST.blockX ?_)))))))))))))))))
       exact ST.mid (_, _, vo, x :: A3, [], out, ro) ⟨rfl, rfl, rfl, trivial⟩ rfl rfl ⟨hva, hvb, hro, hfin (.inr rfl)⟩
      | cons y B3 =>
       have hpb : (0 : Int) < ((y :: B3).length : Int) := by simp
       obtain ⟨ra, hra, halla⟩ := hva
       obtain ⟨rb, hrb, hallb⟩ := hvb
       have hva : Cells g2 _ (x :: A3) := ⟨ra, hra, halla⟩
       have hvb : Cells g2 _ (y :: B3) := ⟨rb, hrb, hallb⟩
       have hna := Cells.cut hva (a := 1) (b := (x :: A3).length) (by simp) (Nat.le_refl _)
       have hnb := Cells.cut hvb (a := 1) (b := (y :: B3).length) (by simp) (Nat.le_refl _)
       have hda : ((x :: A3).drop 1).take ((x :: A3).length - 1) = A3 := by simp
       have hdb : ((y :: B3).drop 1).take ((y :: B3).length - 1) = B3 := by simp
       rw [hda] at hna
       rw [hdb] at hnb
       obtain ⟨x', ra', rfl, hx, _⟩ := All2.cons_left halla
       obtain ⟨y', rb', rfl, hy, _⟩ := All2.cons_left hallb
       have hba := hra.based (by simp)
       have hbb := hrb.based (by simp)
       have hlen3 : A3.length + 1 + (B3.length + 1) + out.length ≤ l.length := by simp only [List.length_cons] at hAl hBl; omega
       refine SC.seq (SC.seq (SC.region (SL.M rfl (SL.U (SU.lenN underlying25 rfl) (SL.U (SU.eq (v' := vb true) (SU.gtr rfl rfl) (congrArg vb (decide_eq_true hpa))) (SL.M rfl (SL.Y rfl rfl rfl (SU.move rfl) (SL.Y rfl rfl rfl (SU.lenN underlying25 rfl) (SL.Y rfl rfl rfl (SU.eq (v' := vb true) (SU.gtr rfl rfl) (congrArg vb (decide_eq_true hpb))) (SL.U (SU.pickT rfl rfl) (SL.nil (ST.thenN (SC.condT rfl (SC.skip (ST.thenN (SC.block (SC.seq ?_)))))))))))))))))
       refine SC.draw [] [(0, 2), (1, 2), (2, 2), (3, 1), (4, 2), (5, 2), (6, 2), (7, 1), (8, 2)] Tryz.mixed (by kernel_rfl) ?_
       refine SP.U (i := 0) rfl (SU.move rfl) (SP.U (i := 1) rfl (SU.indexAddr underlying25 sizeOf51 rfl rfl hbb dC hpb) (SP.U (i := 2) rfl (SU.fieldAddrC underlying51 rfl sizeOf3 rfl hbb) (SP.K (i := 3) rfl (SQ.partA (e := encCell) (o := 0) (j := 0) (u := vi y'.id) isAgg3 rfl hrb.rd rfl rfl) (SP.U (i := 4) rfl (SU.move rfl) (SP.U (i := 5) rfl (SU.indexAddr underlying25 sizeOf51 rfl rfl hba dC hpa) (SP.U (i := 6) rfl (SU.fieldAddrC underlying51 rfl sizeOf3 rfl hba) (SP.K (i := 7) rfl (SQ.partA (e := encCell) (o := 0) (j := 0) (u := vi x'.id) isAgg3 rfl hra.rd rfl rfl) (SP.U (i := 8) rfl (SU.lss rfl rfl) (SP.nil (ST.thenN ?_))))))))))
       refine SC.ifP rfl (fun hc => ?_) (fun hc => ?_)
       ·refine SC.seq (SC.region (SL.M rfl (SL.M rfl (SL.U (SU.indexAddr underlying25 sizeOf51 rfl rfl hbb dC hpb) (SL.K (SQ.elemA (e := encCell) (a := y') (j := 0) isAgg51 sizeOf51 rfl hrb.rd rfl) (SL.W (SO.buildSlice sty25 rfl rfl rfl (szs_mk (by exact ⟨rfl, trivial⟩)) dC) ?_))))))
        rintro _ _ _ ⟨b60, rfl, rfl, rfl⟩
        refine SL.W (SO.app1A (e := encCell) 0 y' sty25 rfl rfl rfl rfl rfl oM oM) ?_
        rintro v61 _ _ ⟨rfl, rfl⟩
        refine SL.A rfl (SL.nil (ST.thenN (SC.region (SL.M rfl (SL.U (SU.sliceL underlying25 sizeOf51 rfl rfl dC (by simp only [List.length_cons]; omega)) ?_)))))
        refine SL.A rfl (SL.nil (ST.blockN ?_))
        rw [hx.1, hy.1] at hc
        refine ST.again (_, _, v61, A1, x :: A3, B1 ++ [y], B3, out ++ [y], ro ++ [y']) ⟨rfl, rfl, rfl, trivial⟩ rfl rfl ⟨⟨hva, hnb⟩, hro.append ⟨hy, trivial⟩, hA', by rw [hB']; simp, ?_, ?_, ?_, ?_⟩ lN
        ·refine Srt.append_iff.2 ⟨hso, Srt.one y, fun a ha b hb => ?_⟩
         simp at hb; subst hb; exact hout a ha b (by simp)
        ·have h2 := hto.append (Stab.refl (key := Cl.id) [y])
         simpa using h2
        ·intro a ha b hb
         dsimp only at ha hb
         rcases List.mem_append.1 ha with ha | ha
         ·refine hout a ha b ?_
          simp at hb ⊢
          rcases hb with h | h | h
          ·exact .inl h
          ·exact .inr (.inl h)
          ·exact .inr (.inr (.inr h))
         ·simp at ha; subst ha
          rcases List.mem_append.1 hb with hb | hb
          ·rcases List.mem_cons.1 hb with rfl | hb
           ·omega
           ·have := (Srt.cons_iff.1 hsa2).1 b hb; omega
          ·exact (Srt.cons_iff.1 hsb2).1 b hb
        ·intro a ha b hb
         dsimp only at ha hb
         rcases List.mem_append.1 ha with ha | ha
         ·exact hlt a ha b hb
         ·simp at ha; subst ha
          rcases List.mem_cons.1 hb with rfl | hb
          ·omega
          ·have := (Srt.cons_iff.1 hsa2).1 b hb; omega
       ·refine SC.seq (SC.region (SL.M rfl (SL.M rfl (SL.U (SU.indexAddr underlying25 sizeOf51 rfl rfl hba dC hpa) (SL.K (SQ.elemA (e := encCell) (a := x') (j := 0) isAgg51 sizeOf51 rfl hra.rd rfl) (SL.W (SO.buildSlice sty25 rfl rfl rfl (szs_mk (by exact ⟨rfl, trivial⟩)) dC) ?_))))))
        rintro _ _ _ ⟨b68, rfl, rfl, rfl⟩
        refine SL.W (SO.app1A (e := encCell) 0 x' sty25 rfl rfl rfl rfl rfl oM oM) ?_
        rintro v69 _ _ ⟨rfl, rfl⟩
        refine SL.A rfl (SL.nil (ST.thenN (SC.region (SL.M rfl (SL.U (SU.sliceL underlying25 sizeOf51 rfl rfl dC (by simp only [List.length_cons]; omega)) ?_)))))
        refine SL.A rfl (SL.nil (ST.blockN ?_))
        rw [hx.1, hy.1] at hc
        refine ST.again (_, _, v69, A1 ++ [x], A3, B1, y :: B3, out ++ [x], ro ++ [x']) ⟨rfl, rfl, rfl, trivial⟩ rfl rfl ⟨⟨hna, hvb⟩, hro.append ⟨hx, trivial⟩, by rw [hA']; simp, hB', ?_, ?_, ?_, ?_⟩ lN
        ·refine Srt.append_iff.2 ⟨hso, Srt.one x, fun a ha b hb => ?_⟩
         simp at hb; subst hb; exact hout a ha b (by simp)
        ·have h2 : Stab Cl.id ([x] ++ B1) (B1 ++ [x]) := Stab.swap (fun a ha b hb => by simp at ha; subst ha; have := hlt b hb a (by simp); omega)
         have h3 := (Stab.refl (key := Cl.id) A1).append h2
         have h4 := hto.append (Stab.refl (key := Cl.id) [x])
         dsimp only
         simp only [List.append_assoc] at h3 h4 ⊢
         exact h3.trans h4
        ·intro a ha b hb
         dsimp only at ha hb
         rcases List.mem_append.1 ha with ha | ha
         ·refine hout a ha b ?_
          simp at hb ⊢
          rcases hb with h | h | h
          ·exact .inr (.inl h)
          ·exact .inr (.inr (.inl h))
          ·exact .inr (.inr (.inr h))
         ·simp at ha; subst ha
          rcases List.mem_append.1 hb with hb | hb
          ·exact (Srt.cons_iff.1 hsa2).1 b hb
          ·rcases List.mem_cons.1 hb with rfl | hb
           ·omega
           ·have := (Srt.cons_iff.1 hsb2).1 b hb; omega
        ·intro a ha b hb
         exact hlt a ha b (by simp [hb])
    ·rintro ⟨va, vb1, vo, A2, B2, out, ro⟩ ⟨hva, hvb, hro, hres⟩
     dsimp only at hva hvb hro hres ⊢
     obtain ⟨ra, hra, halla⟩ := hva
     obtain ⟨rb, hrb, hallb⟩ := hvb
     have hl1 := congrArg List.length hres
     rw [canonC_length] at hl1
     simp only [List.length_append] at hl1
     have e1 := hro.length
     have e2 := halla.length
     have e3 := hallb.length
     refine SC.seq (SC.region (SL.M rfl (SL.M rfl (SL.W (SO.appA (e := encCell) 0 sty25 rfl rfl rfl hra oM oM) ?_))))
     rintro v74 _ _ ⟨rfl, rfl⟩
     refine SL.M rfl (SL.W (SO.appA (e := encCell) 0 sty25 rfl rfl rfl hrb lN lN) ?_)
     rintro v76 _ _ ⟨rfl, rfl⟩
     refine SL.A rfl (SL.nil (ST.thenN (SC.ret (ST.freezeRow fun g3 hle3 hs3 => ?_))))
     exact ST.ret1 (.inl rfl) results97 rfl ⟨rfl, hle1.trans (hle2.trans hle3), ro ++ ra ++ rb, hs3, by rw [← hres]; exact (((hro.append halla).append hallb).mono fun _ _ => CellR.mono hle3)⟩
theorem refCanon_spec (E : World) (g : PH) (s : Own) (v : Value) (l : List Cl) (hv : Cells g v l) (hf : Fits l) :
  Ctr Tryz.prog E 63 #[.agg #[v]] g s (fun r g' s' => s = s' ∧ Le g g' ∧ ∃ u, r = .agg #[u] ∧ Cells g' u (canonC l)) := by
 obtain ⟨p, c, rfl⟩ := hv.form
 refine Ctr.of (args := [.agg #[.slice p l.length c]]) func63 rfl ntmps63 (Nat.le_of_ble_eq_true rfl) ?_
 refine SC.seq (SC.region (SL.W (SO.box rfl) ?_))
 rintro _ _ _ ⟨b1, rfl, rfl, rfl⟩
 refine SL.W (SO.alloc zeroValue27) ?_
 rintro _ _ _ ⟨b2, rfl, rfl, rfl⟩
 refine SL.nil (ST.thenN (SC.seq (SC.region (SL.U (SU.fieldAddr underlying27 rfl sizeOf25 rfl) (SL.K (SQ.load isAgg25 rfl (CellAt.own 1 rfl rfl)) (SL.W (SO.call call97 rfl (ordered_spec E l.length g _ _ l (Nat.le_refl _) hv hf)) ?_))))))
 rintro v5 g1 _ ⟨rfl, hle, h5⟩
 obtain ⟨q, d, rfl⟩ := h5.form
 refine SL.U (SU.build rfl (build27 _ rfl)) (SL.on (SO.storeAllK 0 sizeOf27 rfl rfl rfl rfl rfl (by exact ⟨rfl, trivial⟩)) ?_)
 rintro _ _ _ ⟨rfl, rfl⟩
 refine SL.nil (ST.thenN (SC.ret ?_))
 exact ST.retCD 0 s (.inl rfl) results63 rfl isAgg27 sizeOf27 rfl rfl (.cons _ (.cons _ (.refl _))) ⟨rfl, hle, _, rfl, h5⟩
theorem sameCell_spec (E : World) (g : PH) (s : Own) (a b : Cl) (ra rb : Rc) (ha : CellR g a ra) (hb : CellR g b rb) (hl : a.sides.length < 1099511627776) :
  Ctr Tryz.prog E 53 #[rcv ra, rcv rb] g s (fun r g' s' => r = vb (decide (a = b)) ∧ g = g' ∧ s = s') := by
 obtain ⟨p, c, rfl, hsa⟩ := cellR_form ha
 obtain ⟨q, d, rfl, hsb⟩ := cellR_form hb
 have f1 : a.id ≠ b.id → (decide (a.id ≠ b.id) || decide (a.dim ≠ b.dim) || decide ((a.sides.length : Int) ≠ b.sides.length)) = true := fun h => by simp [h]
 have f2 : ¬ a.id ≠ b.id → a.dim ≠ b.dim → (decide (a.id ≠ b.id) || decide (a.dim ≠ b.dim) || decide ((a.sides.length : Int) ≠ b.sides.length)) = true := fun h h2 => by simp [h, h2]
 have f3 : ¬ a.id ≠ b.id → ¬ a.dim ≠ b.dim → (decide (a.id ≠ b.id) || decide (a.dim ≠ b.dim) || decide ((a.sides.length : Int) ≠ b.sides.length)) = decide ((a.sides.length : Int) ≠ b.sides.length) := fun h h2 => by simp [h, h2]
 refine Ctr.of (args := [.agg #[vi a.id, vi a.dim, .slice p a.sides.length c], .agg #[vi b.id, vi b.dim, .slice q b.sides.length d]]) func53 rfl ntmps53 (Nat.le_of_ble_eq_true rfl) ?_
 refine SC.seq (SC.region (SL.W (SO.box rfl) ?_))
 rintro _ _ _ ⟨b2, rfl, rfl, rfl⟩
 refine SL.W (SO.box rfl) ?_
 rintro _ _ _ ⟨b3, rfl, rfl, rfl⟩
 refine SL.A rfl (SL.nil (ST.thenN (SC.seq ?_)))
 refine SC.to (g' := g) (s' := pt b3 (.cells #[vi b.id, vi b.dim, .slice q b.sides.length d] 51 (0, 0)) :: pt b2 (.cells #[vi a.id, vi a.dim, .slice p a.sides.length c] 51 (0, 0)) :: s) (fun w hw => hw) ?_
 refine SC.cutB 26 ((decide (a.id ≠ b.id) || decide (a.dim ≠ b.dim) || decide ((a.sides.length : Int) ≠ b.sides.length))) ?_ ?_
 ·refine SC.region (SL.U (SU.fieldAddr underlying51 rfl sizeOf3 rfl) (SL.K (SQ.load (v := vi a.id) isAgg3 rfl (CellAt.own 1 rfl rfl)) (SL.U (SU.fieldAddr underlying51 rfl sizeOf3 rfl) (SL.K (SQ.load (v := vi b.id) isAgg3 rfl (CellAt.own 0 rfl rfl)) (SL.U (SU.neq rfl rfl) (SL.M rfl ?_))))))
  refine SL.split ?_ ?_
  ·intro h11
   refine SL.Z rfl rfl rfl (SL.Z rfl rfl rfl (SL.Z rfl rfl rfl (SL.Z rfl rfl rfl (SL.Z rfl rfl rfl (SL.U (SU.pickT rfl rfl) (SL.M rfl (SL.Z rfl rfl rfl (SL.Z rfl rfl rfl (SL.Z rfl rfl rfl (SL.Z rfl rfl rfl (SL.Z rfl rfl rfl (SL.Z rfl rfl rfl (SL.Z rfl rfl rfl (SL.U (SU.pickT rfl rfl) (SL.nil ?_)))))))))))))))
   exact ST.mid1 (by (rw [f1 h11]; rfl)) mI
  ·intro h11
   refine SL.Y rfl rfl rfl (SU.fieldAddr underlying51 rfl sizeOf3 rfl) (SL.gq (Gd.onT rfl rfl rfl dC) (SQ.load (v := vi a.dim) isAgg3 rfl (CellAt.own 1 rfl rfl)) dC (SL.Y rfl rfl rfl (SU.fieldAddr underlying51 rfl sizeOf3 rfl) (SL.gq (Gd.onT rfl rfl rfl dC) (SQ.load (v := vi b.dim) isAgg3 rfl (CellAt.own 0 rfl rfl)) dC (SL.Y rfl rfl rfl (SU.neq rfl rfl) (SL.U (SU.pickF rfl rfl) (SL.M rfl ?_))))))
   refine SL.split ?_ ?_
   ·intro h18
    refine SL.Z rfl rfl rfl (SL.Z rfl rfl rfl (SL.Z rfl rfl rfl (SL.Z rfl rfl rfl (SL.Z rfl rfl rfl (SL.Z rfl rfl rfl (SL.Z rfl rfl rfl (SL.U (SU.pickT rfl rfl) (SL.nil ?_))))))))
    exact ST.mid1 (by (rw [f2 h11 h18]; rfl)) mI
   ·intro h18
    refine SL.Y rfl rfl rfl (SU.fieldAddr underlying51 rfl sizeOf49 rfl) (SL.gq (Gd.onT rfl rfl rfl dC) (SQ.load (v := .slice p a.sides.length c) isAgg49 rfl (CellAt.own 1 rfl rfl)) dC (SL.Y rfl rfl rfl (SU.lenN underlying49 rfl) (SL.Y rfl rfl rfl (SU.fieldAddr underlying51 rfl sizeOf49 rfl) (SL.gq (Gd.onT rfl rfl rfl dC) (SQ.load (v := .slice q b.sides.length d) isAgg49 rfl (CellAt.own 0 rfl rfl)) dC (SL.Y rfl rfl rfl (SU.lenN underlying49 rfl) (SL.Y rfl rfl rfl (SU.neq rfl rfl) (SL.U (SU.pickF rfl rfl) (SL.nil ?_))))))))
    exact ST.mid1 (by (rw [f3 h11 h18]; rfl)) mI
 refine SC.ifB rfl (fun hbad => ?_) (fun hbad => ?_)
 ·refine SC.seq (SC.region (SL.A rfl (SL.nil (ST.thenN (SC.ret (ST.thenR (ST.drop (s' := s) (.cons _ (.cons _ (.refl _))) ?_)))))))
  exact ST.ret1 (.inl rfl) results53 rfl ⟨congrArg vb (Eq.symm (decide_eq_false fun e => by rw [e] at hbad; simp at hbad)), rfl, rfl⟩
 ·have hid : a.id = b.id := by simp at hbad; exact hbad.1.1
  have hdim : a.dim = b.dim := by simp at hbad; exact hbad.1.2
  have hln : a.sides.length = b.sides.length := by simp at hbad; omega
  refine SC.skip (ST.thenN (SC.seq (SC.seq (SC.region (SL.A rfl (SL.nil (ST.thenN (SC.block ?_))))))))
  refine SC.loop (ι := Nat) (fun k => [(2, pp b2 0), (3, pp b3 0), (5, vi k)]) (fun _ => g) (fun _ => pt b3 (.cells #[vi b.id, vi b.dim, .slice q b.sides.length d] 51 (0, 0)) :: pt b2 (.cells #[vi a.id, vi a.dim, .slice p a.sides.length c] 51 (0, 0)) :: s) (fun k => k ≤ a.sides.length ∧ a.sides.take k = b.sides.take k) (fun k => a.sides.length - k) 0
   ⟨rfl, rfl, rfl, trivial⟩ rfl rfl ⟨Nat.zero_le _, by simp⟩ ?_
  rintro k ⟨hk, heq⟩
  refine SC.seq (SC.seq (SC.region (SL.M rfl (SL.U (SU.fieldAddr underlying51 rfl sizeOf49 rfl) (SL.K (SQ.load (v := .slice p a.sides.length c) isAgg49 rfl (CellAt.own 1 rfl rfl)) (SL.U (SU.lenN underlying49 rfl) (SL.U (SU.lss rfl rfl) (SL.nil (ST.thenN ?_)))))))))
  refine SC.ifP rfl (fun hlt => ?_) (fun hlt => ?_)
  ·have hka : k < a.sides.length := oM
   have hkb : k < b.sides.length := oM
   have hb1 := hsa.based oM
   have hb2 := hsb.based oM
   refine SC.skip (ST.thenN (SC.seq (SC.block (SC.seq ?_))))
   refine SC.draw [] [(0, 2), (1, 1), (2, 2), (3, 2), (4, 1), (5, 2), (6, 1), (7, 2), (8, 2), (9, 1), (10, 2)] Tryz.mixed (by kernel_rfl) ?_
   refine SP.U (i := 0) rfl (SU.fieldAddr underlying51 rfl sizeOf49 rfl) (SP.K (i := 1) rfl (SQ.load (v := .slice p a.sides.length c) isAgg49 rfl (CellAt.own 1 rfl rfl)) (SP.U (i := 2) rfl (SU.move rfl) (SP.U (i := 3) rfl (SU.indexAddr underlying49 sizeOf55 rfl rfl hb1 oM sL) ?_)))
   refine SP.q (i := 4) rfl (SQ.elemA isAgg55 sizeOf55 rfl hsa.rd (List.getElem?_eq_getElem hka)) dC ?_
   refine SP.U (i := 5) rfl (SU.fieldAddr underlying51 rfl sizeOf49 rfl) (SP.K (i := 6) rfl (SQ.load (v := .slice q b.sides.length d) isAgg49 rfl (CellAt.own 0 rfl rfl)) (SP.U (i := 7) rfl (SU.move rfl) (SP.U (i := 8) rfl (SU.indexAddr underlying49 sizeOf55 rfl rfl hb2 oM sL) ?_)))
   refine SP.q (i := 9) rfl (SQ.elemA isAgg55 sizeOf55 rfl hsb.rd (List.getElem?_eq_getElem hkb)) dC ?_
   refine SP.U (i := 10) rfl (SU.neqSide rfl rfl) (SP.nil (ST.thenN ?_))
   refine SC.ifP rfl (fun hne => ?_) (fun hne => ?_)
   ·refine SC.seq (SC.region (SL.A rfl (SL.nil (ST.thenN (SC.ret (ST.blockR (ST.thenR (ST.thenR (ST.blockR (ST.thenR (ST.drop (s' := s) (.cons _ (.cons _ (.refl _))) ?_)))))))))))
    exact ST.ret1 (.inl rfl) results53 rfl ⟨congrArg vb (Eq.symm (decide_eq_false fun e => hne (by simp [e]))), rfl, rfl⟩
   ·refine SC.skip (ST.blockN (ST.thenN (SC.region (SL.M rfl (SL.U (SU.add rfl rfl oM) (SL.A rfl (SL.nil ?_)))))))
    exact ST.again (k + 1) ⟨rfl, rfl, rfl, trivial⟩ rfl rfl ⟨oM, take_eq_succ hka hkb heq (Decidable.of_not_not hne)⟩ oM
  ·have hkk : k = a.sides.length := oM
   subst hkk
   have hs := take_eq_all hln heq
   refine SC.exit (ST.thenX (ST.thenX (ST.blockX (ST.thenN (SC.seq (SC.region (SL.A rfl (SL.nil (ST.thenN (SC.ret (ST.drop (s' := s) (.cons _ (.cons _ (.refl _))) ?_)))))))))))
   exact ST.ret1 (.inl rfl) results53 rfl ⟨congrArg vb (Eq.symm (decide_eq_true (cl_eq.2 ⟨hid, hdim, hs⟩))), rfl, rfl⟩
theorem foldl_ids (l : List Cl) : ∀ (acc : List Cl) (c : Cl), (c ∈ acc ∨ c ∈ l) → ∃ x ∈ l.foldl addC acc, x.id = c.id := by
 induction l with
 | nil => intro acc c h; rcases h with h | h; exact ⟨c, h, rfl⟩; simp at h
 | cons y r ih =>
  intro acc c h
  simp only [List.foldl_cons]
  rcases h with h | h
  ·exact ih (addC acc y) c (.inl (by unfold addC; split; exact h; simp [h]))
  ·rcases List.mem_cons.1 h with rfl | h
   ·by_cases ha : acc.any (fun x => x.id == c.id) = true
    ·rw [addC_old ha]
     rw [List.any_eq_true] at ha
     obtain ⟨z, hz, he⟩ := ha
     obtain ⟨x, hx, hxe⟩ := ih acc z (.inl hz)
     exact ⟨x, hx, by rw [hxe]; simpa using he⟩
    ·have ha' : acc.any (fun x => x.id == c.id) = false := by simpa using ha
     rw [addC_new ha']
     exact ih _ c (.inl (by simp))
   ·exact ih _ c (.inr h)
theorem srt_any {L : List Cl} (hs : Srt Cl.id L) {k : Nat} (h0 : 0 < k) (hk : k < L.length) : ((L.take k).foldl addC []).any (fun x => x.id == L[k].id) = decide (L[k].id = (L[k - 1]'oM).id) := by
 rw [Bool.eq_iff_iff, List.any_eq_true, decide_eq_true_iff]
 constructor
 ·rintro ⟨x, hx, he⟩
  have hm := (mem_foldl _ [] x hx).resolve_left (by simp)
  obtain ⟨j, hj, rfl⟩ := List.getElem_of_mem hm
  rw [List.length_take] at hj
  rw [List.getElem_take] at he
  have he' : (L[j]'oM).id = L[k].id := by simpa using he
  rcases Nat.lt_or_ge j (k - 1) with h | h
  ·have h1 := List.pairwise_iff_getElem.1 hs j (k - 1) oM oM h
   have h2 := List.pairwise_iff_getElem.1 hs (k - 1) k oM hk oM
   omega
  ·have : j = k - 1 := oM
   subst this
   exact he'.symm
 ·intro he
  have hm : (L[k - 1]'oM) ∈ L.take k := by
   have : k - 1 < (L.take k).length := by rw [List.length_take]; omega
   have h2 := List.getElem_mem this
   rwa [List.getElem_take] at h2
  obtain ⟨x, hx, hxe⟩ := foldl_ids (L.take k) [] _ (.inr hm)
  exact ⟨x, hx, by rw [hxe, ← he]; simp⟩
theorem refCells_spec (E : World) (g : PH) (s : Own) (v : Value) (l : List Cl) (hv : Cells g v l) (hf : Fits l) :
  Ctr Tryz.prog E 61 #[.agg #[v]] g s (fun r g' s' => s = s' ∧ Le g g' ∧ Cells g' r (tabC l)) := by
 obtain ⟨p, c, rfl⟩ := hv.form
 have hsrt := canonC_srt l
 have hcl := canonC_length l
 have hfl := hf.1
 refine Ctr.of (args := [.agg #[.slice p l.length c]]) func61 rfl ntmps61 (Nat.le_of_ble_eq_true rfl) ?_
 refine SC.seq (SC.region (SL.W (SO.box rfl) ?_))
 rintro _ _ _ ⟨b1, rfl, rfl, rfl⟩
 refine SL.A rfl (SL.nil (ST.thenN (SC.seq (SC.region (SL.U (SU.fieldAddr underlying27 rfl sizeOf25 rfl) (SL.K (SQ.load isAgg25 rfl (CellAt.own 0 rfl rfl)) (SL.W (SO.call call97 rfl (ordered_spec E l.length g _ _ l (Nat.le_refl _) hv hf)) ?_)))))))
 rintro v8 g1 _ ⟨rfl, hle, h8⟩
 obtain ⟨rs, hrs, hall⟩ := h8
 have hrl := hall.length
 obtain ⟨q, d, rfl⟩ := hrs.form
 refine SL.A rfl (SL.nil (ST.thenN (SC.seq (SC.region (SL.A rfl (SL.nil (ST.thenN (SC.seq (SC.seq (SC.region (SL.A rfl (SL.nil (ST.thenN (SC.block (SC.nilRow 51 3 ?_)))))))))))))))
 refine SC.loop (ι := Value × Nat × List Rc) (fun i => [(3, .slice q rs.length d), (4, i.1), (5, vi i.2.1)]) (fun _ => g1) (fun i => rowA encCell 51 i.1 i.2.2 :: pt b1 (.cells #[.slice p l.length c] 27 (0, 0)) :: s)
  (fun i => i.2.1 ≤ rs.length ∧ All2 (CellR g1) (((canonC l).take i.2.1).foldl addC []) i.2.2) (fun i => rs.length - i.2.1) (.slice none 0 0, 0, []) ⟨rfl, rfl, rfl, trivial⟩ rfl rfl ⟨Nat.zero_le _, by simp [All2]⟩ ?_
 rintro ⟨ov, k, acc⟩ ⟨hk, hacc⟩
 dsimp only at hk hacc ⊢
 have hal := hacc.length
 have hal2 := foldl_add_length ((canonC l).take k) []
 simp only [List.length_take, List.length_nil] at hal2
 refine SC.seq (SC.seq (SC.region (SL.M rfl (SL.M rfl (SL.U (SU.lenN underlying25 rfl) (SL.U (SU.lss rfl rfl) (SL.nil (ST.thenN ?_))))))))
 refine SC.ifP rfl (fun hlt => ?_) (fun hlt => ?_)
 ·have hkr : k < rs.length := oM
  have hkl : k < (canonC l).length := oM
  have hb1 := hrs.based oM
  have hcr := hall.get (List.getElem?_eq_getElem hkl) (List.getElem?_eq_getElem hkr)
  have htake : ((canonC l).take (k + 1)).foldl addC [] = addC (((canonC l).take k).foldl addC []) (canonC l)[k] := by
   rw [List.take_succ_eq_append_getElem hkl, List.foldl_append]; rfl
  have hgx : rs[((k : Nat) : Int).toNat]? = some rs[k] := List.getElem?_eq_getElem hkr
  have hnew : addC (((canonC l).take k).foldl addC []) (canonC l)[k] = ((canonC l).take k).foldl addC [] ++ [(canonC l)[k]] → All2 (CellR g1) (((canonC l).take (k + 1)).foldl addC []) (acc ++ [rs[k]]) := fun h => by
   rw [htake, h]; exact hacc.append ⟨hcr, trivial⟩
  by_cases hk0 : k = 0
  ·subst hk0
   refine SC.skip (ST.thenN (SC.seq (SC.block (SC.seq ?_))))
   refine SC.draw [] [(0, 2), (1, 2), (2, 2), (3, 2), (4, 2), (5, 2), (6, 2), (7, 1), (8, 2), (9, 2), (10, 2), (11, 2), (12, 2), (13, 1), (14, 2), (15, 2)] Tryz.mixed (by kernel_rfl) ?_
   refine SP.U (i := 0) rfl (SU.move rfl) (SP.U (i := 1) rfl (SU.eq (v' := vb true) (SU.eql rfl rfl) rfl) (SP.U (i := 2) rfl (SU.move rfl) (SP.off (i := 3) rfl (Gd.onF rfl rfl rfl dC) dC (SP.off (i := 4) rfl (Gd.onF rfl rfl rfl dC) dC (SP.off (i := 5) rfl (Gd.onF rfl rfl rfl dC) dC (SP.off (i := 6) rfl (Gd.onF rfl rfl rfl dC) dC (SP.off1 (i := 7) rfl (Gd.onF rfl rfl rfl dC) dC (SP.off (i := 8) rfl (Gd.onF rfl rfl rfl dC) dC (SP.off (i := 9) rfl (Gd.onF rfl rfl rfl dC) dC (SP.off (i := 10) rfl (Gd.onF rfl rfl rfl dC) dC (SP.off (i := 11) rfl (Gd.onF rfl rfl rfl dC) dC (SP.off (i := 12) rfl (Gd.onF rfl rfl rfl dC) dC (SP.off1 (i := 13) rfl (Gd.onF rfl rfl rfl dC) dC (SP.off (i := 14) rfl (Gd.onF rfl rfl rfl dC) dC (SP.U (i := 15) rfl (SU.pickT rfl rfl) (SP.nil (ST.thenN (SC.condT rfl (SC.region (SL.M rfl (SL.M rfl (SL.M rfl (SL.U (SU.indexAddr underlying25 sizeOf51 rfl rfl hb1 oM sL) (SL.K (SQ.elemA isAgg51 sizeOf51 rfl hrs.rd hgx) (SL.W (SO.buildSlice sty25 rfl rfl rfl (szs_mk (by exact ⟨rfl, trivial⟩)) dC) ?_)))))))))))))))))))))))))
   rintro _ _ _ ⟨b36, rfl, rfl, rfl⟩
   refine SL.W (SO.app1A (e := encCell) 0 rs[0] sty25 rfl rfl rfl rfl rfl oM oM) ?_
   rintro v37 _ _ ⟨rfl, rfl⟩
   refine SL.A rfl (SL.nil (ST.blockN (ST.thenN (SC.region (SL.M rfl (SL.U (SU.add rfl rfl oM) (SL.A rfl (SL.nil ?_))))))))
   exact ST.again (v37, 0 + 1, acc ++ [rs[0]]) ⟨rfl, rfl, rfl, trivial⟩ rfl rfl ⟨lN, hnew (addC_new (by simp))⟩ lN
  ·have hk1 : k - 1 < rs.length := oM
   have hk1l : k - 1 < (canonC l).length := oM
   have hany := srt_any hsrt (by omega : 0 < k) hkl
   have hcr1 := hall.get (List.getElem?_eq_getElem hk1l) (List.getElem?_eq_getElem hk1)
   have hgy : rs[((k : Int) - 1).toNat]? = some rs[k - 1] := by rw [show ((k : Int) - 1).toNat = k - 1 by omega]; exact List.getElem?_eq_getElem hk1
   refine SC.skip (ST.thenN (SC.seq (SC.block (SC.seq ?_))))
   refine SC.draw [] [(0, 2), (1, 2), (2, 2), (3, 2), (4, 2), (5, 2), (6, 2), (7, 1), (8, 2), (9, 2), (10, 2), (11, 2), (12, 2), (13, 1), (14, 2), (15, 2)] Tryz.mixed (by kernel_rfl) ?_
   refine SP.U (i := 0) rfl (SU.move rfl) (SP.U (i := 1) rfl (SU.eq (v' := vb false) (SU.eql rfl rfl) (congrArg vb (decide_eq_false oM))) (SP.U (i := 2) rfl (SU.move rfl) (SP.gu (i := 3) rfl (Gd.onT rfl rfl rfl dC) (SU.move rfl) dC (SP.gu (i := 4) rfl (Gd.onT rfl rfl rfl dC) (SU.move rfl) dC (SP.gu (i := 5) rfl (Gd.onT rfl rfl rfl dC) (SU.indexAddr underlying25 sizeOf51 rfl rfl hb1 oM sL) dC (SP.gu (i := 6) rfl (Gd.onT rfl rfl rfl dC) (SU.fieldAddrC underlying51 rfl sizeOf3 rfl hb1) dC (SP.gq (i := 7) rfl (Gd.onT rfl rfl rfl dC) (SQ.partA (e := encCell) (o := 0) (u := vi rs[k].id) isAgg3 rfl hrs.rd hgx rfl) dC (SP.gu (i := 8) rfl (Gd.onT rfl rfl rfl dC) (SU.move rfl) dC (SP.gu (i := 9) rfl (Gd.onT rfl rfl rfl dC) (SU.move rfl) dC (SP.gu (i := 10) rfl (Gd.onT rfl rfl rfl dC) (SU.sub rfl rfl oM) dC (SP.gu (i := 11) rfl (Gd.onT rfl rfl rfl dC) (SU.indexAddr underlying25 sizeOf51 rfl rfl hb1 oM sL) dC (SP.gu (i := 12) rfl (Gd.onT rfl rfl rfl dC) (SU.fieldAddrC underlying51 rfl sizeOf3 rfl hb1) dC (SP.gq (i := 13) rfl (Gd.onT rfl rfl rfl dC) (SQ.partA (e := encCell) (o := 0) (u := vi rs[k - 1].id) isAgg3 rfl hrs.rd hgy rfl) dC (SP.gu (i := 14) rfl (Gd.onT rfl rfl rfl dC) (SU.neq rfl rfl) dC (SP.U (i := 15) rfl (SU.pickF rfl rfl) (SP.nil (ST.thenN ?_)))))))))))))))))
   refine SC.ifP rfl (fun hne => ?_) (fun hne => ?_)
   ·refine SC.region (SL.M rfl (SL.M rfl (SL.M rfl (SL.U (SU.indexAddr underlying25 sizeOf51 rfl rfl hb1 oM sL) (SL.K (SQ.elemA isAgg51 sizeOf51 rfl hrs.rd hgx) (SL.W (SO.buildSlice sty25 rfl rfl rfl (szs_mk (by exact ⟨rfl, trivial⟩)) dC) ?_))))))
    rintro _ _ _ ⟨b36, rfl, rfl, rfl⟩
    refine SL.W (SO.app1A (e := encCell) 0 rs[k] sty25 rfl rfl rfl rfl rfl oM oM) ?_
    rintro v37 _ _ ⟨rfl, rfl⟩
    refine SL.A rfl (SL.nil (ST.blockN (ST.thenN (SC.region (SL.M rfl (SL.U (SU.add rfl rfl oM) (SL.A rfl (SL.nil ?_))))))))
    rw [hcr.1, hcr1.1] at hne
    exact ST.again (v37, k + 1, acc ++ [rs[k]]) ⟨rfl, rfl, rfl, trivial⟩ rfl rfl ⟨lN, hnew (addC_new (by rw [hany]; exact decide_eq_false hne))⟩ lN
   ·refine SC.skip (ST.blockN (ST.thenN (SC.region (SL.M rfl (SL.U (SU.add rfl rfl oM) (SL.A rfl (SL.nil ?_)))))))
    rw [hcr.1, hcr1.1] at hne
    exact ST.again (ov, k + 1, acc) ⟨rfl, rfl, rfl, trivial⟩ rfl rfl ⟨lN, by dsimp only; rw [htake, addC_old (by rw [hany]; exact decide_eq_true (Decidable.of_not_not hne))]; exact hacc⟩ lN
 ·have hkk : (canonC l).take k = canonC l := List.take_of_length_le oM
  rw [hkk] at hacc
  refine SC.exit (ST.thenX (ST.thenX (ST.blockX (ST.thenN (SC.seq (SC.region (SL.M rfl (SL.A rfl (SL.nil (ST.thenN (SC.ret (ST.freezeRow fun g2 hle2 hs2 => ?_))))))))))))
  refine ST.drop (s' := s) (.cons _ (.refl _)) ?_
  exact ST.ret1 (.inl rfl) results61 rfl ⟨rfl, hle.trans hle2, acc, hs2, hacc.mono fun _ _ => CellR.mono hle2⟩
def atC (l : List Cl) (id : Int) : Int := if (l.map Cl.id).contains id then lbI (l.map Cl.id) id else -1
theorem at_spec (E : World) (g : PH) (s : Own) (v : Value) (l : List Cl) (id : Int) (hv : Cells g v l) (hl : l.length < 1099511627776) (hs : (l.map Cl.id).Pairwise (· ≤ ·)) :
  Ctr Tryz.prog E 62 #[v, vi id] g s (fun r g' s' => r = vi (atC l id) ∧ g = g' ∧ s = s') := by
 obtain ⟨rs, hrs, hall⟩ := hv
 have hrl := hall.length
 obtain ⟨p, c, rfl⟩ := hrs.form
 have hids := all2_ids hall
 have hml : (l.map Cl.id).length = l.length := by simp
 have hri : ∀ k (h : k < (l.map Cl.id).length) (h2 : k < rs.length), (l.map Cl.id)[k] = rs[k].id := fun k h h2 => by simp only [hids]; simp
 unfold atC
 refine Ctr.of (args := [.slice p rs.length c, vi id]) func62 rfl ntmps62 (Nat.le_of_ble_eq_true rfl) ?_
 refine SC.seq (SC.region (SL.A rfl (SL.nil (ST.thenN (SC.seq (SC.region (SL.A rfl (SL.nil (ST.thenN (SC.seq (SC.region (SL.M rfl (SL.U (SU.lenN underlying25 rfl) (SL.A rfl (SL.nil (ST.thenN ?_))))))))))))))))
 generalize l.map Cl.id = L at *
 refine SC.cut (ι := Nat) (fun i => [(0, .slice p rs.length c), (1, vi id), (5, vi i)]) (fun _ => g) (fun _ => s) (fun i => i ≤ L.length ∧ (∀ k (h : k < L.length), k < i → L[k] < id) ∧ ∀ k (h : k < L.length), i ≤ k → id ≤ L[k]) ?_ ?_
 ·refine SC.block ?_
  refine SC.loop (ι := Nat × Nat) (fun q => [(0, .slice p rs.length c), (1, vi id), (5, vi q.1), (6, vi q.2)]) (fun _ => g) (fun _ => s)
   (fun q => q.1 ≤ q.2 ∧ q.2 ≤ L.length ∧ (∀ k (h : k < L.length), k < q.1 → L[k] < id) ∧ ∀ k (h : k < L.length), q.2 ≤ k → id ≤ L[k]) (fun q => q.2 - q.1) (0, L.length)
   ⟨rfl, rfl, rfl, vi_eq oM, trivial⟩ rfl rfl ⟨Nat.zero_le _, Nat.le_refl _, fun k _ h => absurd h oM, fun k h1 h2 => absurd h1 (by dsimp only at h2; omega)⟩ ?_
  rintro ⟨i, j⟩ ⟨hij, hj, hlo, hhi⟩
  dsimp only at hij hj hlo hhi ⊢
  refine SC.seq (SC.seq (SC.region (SL.M rfl (SL.M rfl (SL.U (SU.lss rfl rfl) (SL.nil (ST.thenN ?_)))))))
  refine SC.ifP rfl (fun hlt => ?_) (fun hlt => ?_)
  ·have hb1 := hrs.based oM
   have hml2 : (i + j) / 2 < L.length := oM
   have hmr : (i + j) / 2 < rs.length := oM
   have hmx : rs[((((i + j) / 2 : Nat) : Int)).toNat]? = some rs[(i + j) / 2] := List.getElem?_eq_getElem hmr
   have hmi := hri _ hml2 hmr
   refine SC.skip (ST.thenN (SC.block (SC.seq (SC.region (SL.M rfl (SL.M rfl (SL.U (SU.add rfl rfl oM) (SL.U (SU.eq (v' := vi (((i + j) / 2 : Nat) : Int)) (SU.quo rfl rfl dC) (congrArg vi (by rw [← Int.natCast_add]; exact half_tdiv _ oM))) ?_))))))))
   refine SL.A rfl (SL.nil (ST.thenN (SC.seq (SC.region (SL.M rfl (SL.M rfl (SL.U (SU.indexAddr underlying25 sizeOf51 rfl rfl hb1 oM sL) (SL.U (SU.fieldAddrC underlying51 rfl sizeOf3 rfl hb1) (SL.K (SQ.partA (e := encCell) (o := 0) (u := vi rs[(i + j) / 2].id) isAgg3 rfl hrs.rd hmx rfl) (SL.M rfl (SL.U (SU.lss rfl rfl) (SL.nil (ST.thenN ?_)))))))))))))
   refine SC.ifP rfl (fun hc => ?_) (fun hc => ?_)
   ·refine SC.region (SL.M rfl (SL.U (SU.add rfl rfl oM) (SL.A rfl (SL.nil (ST.blockN ?_)))))
    refine ST.again ((i + j) / 2 + 1, j) ⟨rfl, rfl, rfl, rfl, trivial⟩ rfl rfl ⟨lN, hj, fun k hk h => ?_, hhi⟩ lN
    dsimp only at h
    rw [← hmi] at hc
    rcases Nat.eq_or_lt_of_le (show k ≤ (i + j) / 2 by omega) with rfl | h'
    ·exact hc
    ·have := List.pairwise_iff_getElem.1 hs k ((i + j) / 2) hk hml2 h'
     omega
   ·refine SC.region (SL.M rfl (SL.A rfl (SL.nil (ST.blockN ?_))))
    refine ST.again (i, (i + j) / 2) ⟨rfl, rfl, rfl, rfl, trivial⟩ rfl rfl ⟨lN, lN, hlo, fun k hk h => ?_⟩ lN
    dsimp only at h
    rw [← hmi] at hc
    rcases Nat.eq_or_lt_of_le (show (i + j) / 2 ≤ k by omega) with h' | h'
    ·subst h'; omega
    ·have := List.pairwise_iff_getElem.1 hs ((i + j) / 2) k hml2 hk h'
     omega
  ·have hie : i = j := oM
   subst hie
   refine SC.exit (ST.thenX (ST.thenX (ST.blockX ?_)))
   exact ST.mid i ⟨rfl, rfl, rfl, trivial⟩ rfl rfl ⟨hj, hlo, hhi⟩
 ·rintro i ⟨hj, hlo, hhi⟩
  have hlb := lb_eq hj hlo hhi
  by_cases hin : (i : Int) < (rs.length : Int)
  ·have hir : i < rs.length := oM
   have hil : i < L.length := oM
   have hb1 := hrs.based oM
   have hmx : rs[((i : Nat) : Int).toNat]? = some rs[i] := List.getElem?_eq_getElem hir
   have hmi := hri _ hil hir
   have hfnd := found_eq hs hlo hhi hil
   refine SC.seq (SC.seq (SC.region (SL.M rfl (SL.M rfl (SL.U (SU.lenN underlying25 rfl) (SL.U (SU.eq (v' := vb true) (SU.lss rfl rfl) (congrArg vb (decide_eq_true hin))) (SL.M rfl (SL.Y rfl rfl rfl (SU.move rfl) (SL.Y rfl rfl rfl (SU.move rfl) (SL.Y rfl rfl rfl (SU.indexAddr underlying25 sizeOf51 rfl rfl hb1 oM sL) (SL.Y rfl rfl rfl (SU.fieldAddrC underlying51 rfl sizeOf3 rfl hb1) (SL.gq (Gd.onT rfl rfl rfl dC) (SQ.partA (e := encCell) (o := 0) (u := vi rs[i].id) isAgg3 rfl hrs.rd hmx rfl) dC (SL.Y rfl rfl rfl (SU.move rfl) (SL.Y rfl rfl rfl (SU.eql rfl rfl) (SL.U (SU.pickT rfl rfl) (SL.nil (ST.thenN ?_)))))))))))))))))
   refine SC.ifP rfl (fun hc => ?_) (fun hc => ?_)
   ·refine SC.seq (SC.region (SL.M rfl (SL.A rfl (SL.nil (ST.thenN (SC.ret (ST.thenR ?_)))))))
    rw [← hmi] at hc
    exact ST.ret1 (.inl rfl) results62 rfl ⟨by rw [← hfnd, decide_eq_true hc, if_pos rfl, hlb], rfl, rfl⟩
   ·refine SC.skip (ST.thenN (SC.seq (SC.region (SL.A rfl (SL.nil (ST.thenN (SC.ret ?_)))))))
    rw [← hmi] at hc
    exact ST.ret1 (.inl rfl) results62 rfl ⟨by rw [← hfnd, decide_eq_false hc]; rfl, rfl, rfl⟩
  ·have hnf := notFound hlo oM
   refine SC.seq (SC.seq (SC.region (SL.M rfl (SL.M rfl (SL.U (SU.lenN underlying25 rfl) (SL.U (SU.eq (v' := vb false) (SU.lss rfl rfl) (congrArg vb (decide_eq_false hin))) (SL.M rfl (SL.Z rfl rfl rfl (SL.Z rfl rfl rfl (SL.Z rfl rfl rfl (SL.Z rfl rfl rfl (SL.Z rfl rfl rfl (SL.Z rfl rfl rfl (SL.Z rfl rfl rfl (SL.U (SU.pickF rfl rfl) (SL.nil (ST.thenN (SC.condF rfl (SC.skip (ST.thenN (SC.seq (SC.region (SL.A rfl (SL.nil (ST.thenN (SC.ret ?_))))))))))))))))))))))))))
   exact ST.ret1 (.inl rfl) results62 rfl ⟨by rw [hnf]; rfl, rfl, rfl⟩
end Go.Proofs.YtkdibcicncjpdaaGreat
