/- SyV Rep Eq Of Only Nam Tops Clo Shf -/
import Derived.Test.YtkdibcicncjpdaaGreatOw04
import Derived.Test.YtkdibcicncjpdaaGreatOw03
import Derived.Test.YtkdibcicncjpdaaGreatOw02
import Derived.Shelf.Sort.Plain
import Derived.Shelf.Slices.In.SortNone
import Derived.Sort.OwnSortedInts
set_option linter.unusedSimpArgs false
set_option linter.unusedVariables false
namespace Go.Sy
open Go
def mns (g' g : PH) : PH := fun b => match g b with | none => g' b | some _ => none
theorem mns_none {g' g : PH} {b : Nat} (h : g b = none) : mns g' g b = g' b := by simp only [mns, h]
theorem mns_some {g' g : PH} {b : Nat} {o : Obj} (h : mns g' g b = some o) : g b = none ∧ g' b = some o := by
 unfold mns at h
 split at h
 ·rename_i e; exact ⟨e, h⟩
 ·cases h
theorem mns_le (g' g : PH) : Le (mns g' g) g' := fun _ _ h => (mns_some h).2
theorem mns_mono {g g' g'' : PH} (h : Le g' g'') : Le (mns g' g) (mns g'' g) := fun b o hb => by
 obtain ⟨h1, h2⟩ := mns_some hb
 rw [mns_none h1]; exact h _ _ h2
theorem mns_anti {g0 g g' : PH} (h : Le g0 g) : Le (mns g' g) (mns g' g0) := fun b o hb => by
 obtain ⟨h1, h2⟩ := mns_some hb
 have : g0 b = none := by
  cases h3 : g0 b with
  | none => rfl
  | some x => rw [h _ _ h3] at h1; cases h1
 rw [mns_none this]; exact h2
section
variable {α : Type} {k : Nat} {e : Enc α k} {T U : TypeId} {g g' : PH} {s : Own} {v : Value} {l : List α}
def RK (e : Enc α k) (T : TypeId) (g : PH) (v : Value) (l : List α) : Prop := (∃ p, v = .slice p 0 0 ∧ l = []) ∨
 ∃ b cap cur, v = .slice (some ⟨b, 0, none⟩) l.length (cap + 1) ∧ g b = some (.cells cur T (0, 0)) ∧ l.length ≤ cap + 1 ∧ cur.size = (cap + 1) * k ∧ cur.toList.take (l.length * k) = l.flatMap e.enc
theorem RK.mono (h : RK e T g v l) (hl : Le g g') : RK e T g' v l := by
 rcases h with h | ⟨b, cap, cur, h1, h2, h3⟩
 ·exact .inl h
 ·exact .inr ⟨b, cap, cur, h1, hl _ _ h2, h3⟩
theorem RK.sl (h : RK e T g v l) : SlA e g v l := by
 rcases h with ⟨p, rfl, rfl⟩ | ⟨b, cap, cur, rfl, h2, h3, h4, h5⟩
 ·exact ⟨p, 0, rfl, ⟨by simp, Nat.le_refl _⟩, fun h => absurd rfl h⟩
 ·refine ⟨_, _, rfl, ⟨e.length l, h3⟩, fun _ => ⟨b, 0, cur, T, (0, 0), rfl, h2, fun j x hj => ?_⟩⟩
  rw [← h5, List.getElem?_take] at hj
  split at hj
  ·simpa using hj
  ·cases hj
theorem RK.form (h : RK e T g v l) : ∃ p c, v = .slice p l.length c := h.sl.form
theorem RK.nil (e : Enc α k) (T : TypeId) (g : PH) : RK e T g (.slice none 0 0) [] := .inl ⟨none, rfl, rfl⟩
theorem At.freezeRowK {E : World} {w : World} (h : At E g (rowA e T v l :: s) w) : ∃ g', Le g g' ∧ At E g' s w ∧ RK e T (mns g' g) v l := by
 obtain ⟨hlen, h1⟩ := row_is (i := 0) h rfl
 rcases h1 with ⟨p, rfl, h0⟩ | ⟨b, cap, cur, rfl, hb, hle, _, hsz, htake⟩
 ·exact ⟨g, Le.refl g, h.sublist (List.sublist_cons_self _ _), .inl ⟨p, rfl, List.eq_nil_of_length_eq_zero h0⟩⟩
 ·have hf := h.fresh _ (List.mem_cons_self ..) b rfl
  obtain ⟨h2, h3⟩ := h.freeze (b := b) rfl hb
  exact ⟨_, h3, h2, .inr ⟨b, cap, cur, rfl, by rw [mns_none hf.1]; exact upd_self _ _ _, hle, hsz, htake⟩⟩
variable {P : Program} {N : Nat} {E : World} {ops : Array Oper} {Q : Exit → Act → World → Prop} {f : Fr}
theorem SL.freezeRowK {o : List Oper} (h : ∀ g', Le g g' → RK e T (mns g' g) v l → SL P N E ops Q o f g' s) : SL P N E ops Q o f g (rowA e T v l :: s) := fun a w ha hw => by
 obtain ⟨g', h1, h2, h3⟩ := hw.freezeRowK
 exact h g' h1 h3 a w ha h2
end
section
variable {P : Program} {N : Nat} {E : World} {f : Fr} {g : PH} {s : Own} {dst : Option Tmp} {ty : TypeId} {pos : String} {af : Array Edge} {gd : Option (Nat × Bool)}
theorem At.write {w : World} {b : Nat} {cs cs' : Array Value} {T : TypeId} (h : At E g s w) (hb : g b = some (.cells cs T (0, 0))) : At E (upd g b (.cells cs' T (0, 0))) s (w.setRow b cs') := by
 have h1 := h.known _ _ hb
 refine ⟨h.os, h.tape, h.output, fun k o hk => ?_, fun e he => ?_, fun e he k hk => ?_, h.apart⟩
 ·unfold upd at hk
  split at hk
  ·rename_i e; subst e; injection hk with hk; subst hk
   exact setRow_heap w k cs cs' T (0, 0) h1
  ·rename_i e
   rw [setRow_other w b k cs' e]; exact h.known _ _ hk
 ·have h2 := h.own e he
  cases hbk : e.blk with
  | none => simpa [hbk] using h2
  | some k =>
   have hne : k ≠ b := fun e1 => by
    subst e1
    rw [(h.fresh e he k hbk).1] at hb; cases hb
   simp only [hbk, Option.bind_some] at h2 ⊢
   rw [setRow_other w b k cs' hne]; exact h2
 ·have h2 := h.fresh e he k hk
  have hne : k ≠ b := fun e1 => by subst e1; rw [h2.1] at hb; cases hb
  exact ⟨by simp only [upd, hne, if_false]; exact h2.1, by simpa using h2.2⟩
theorem SO.writeK {T U : TypeId} {x y : Operand} {b o k : Nat} {cs : Array Value} {v : Value} (hk : ∀ w, (sizeOf T).run P w = .ok k w) (hx : ev f x = some (pp b o)) (hy : ev f y = some v) (hb : g b = some (.cells cs U (0, 0)))
  (hv : v.cells.size = k) (hl : o + k ≤ cs.size) (h1 : ∀ u ∈ v.cells.toList, u.oneCell' = true) :
  SO P N E ⟨dst, .store T x y, ty, pos, af, gd⟩ f g s fun _ g' s' => s = s' ∧ g' = upd g b (.cells (spl cs o v.cells.toList) U (0, 0)) :=
 SO.of_skip fun a w ha hw => by
  have h2 := hw.known _ _ hb
  have hst := run_storeCells_at P b o U v.cells.toList 0 cs w h2 (by simp [hv]; omega) h1
  refine ⟨_, _, s, ?_, hw.write (cs' := spl cs o v.cells.toList) hb, rfl, rfl⟩
  simp [execOp, ha.ev hx, ha.ev hy, Instr.storeAt, Instr.sureAddr, storeVar, hk w, hv, hst, spl]
end
section
variable {α : Type} {k : Nat} {e : Enc α k} {T U : TypeId} {g : PH} {v : Value} {l : List α}
theorem RK.other (h : RK e T g v l) {b : Nat} {cs cs' : Array Value} (hb : g b = some (.cells cs U (0, 0))) (hne : U ≠ T) : RK e T (upd g b (.cells cs' U (0, 0))) v l := by
 rcases h with h | ⟨b', cap, cur, h1, h2, h3⟩
 ·exact .inl h
 ·refine .inr ⟨b', cap, cur, h1, ?_, h3⟩
  have : b' ≠ b := fun e1 => by
   subst e1; rw [h2] at hb; injection hb with hb; injection hb with _ hb; exact hne hb.symm
  simp only [upd, this, if_false]; exact h2
theorem splice_set {o : Nat} {vs : List Value} {up : α → α} (hup : ∀ x, e.enc (up x) = (e.enc x).take o ++ vs ++ (e.enc x).drop (o + vs.length)) (hm : o + vs.length ≤ k) : ∀ {l : List α} {j : Nat}, j < l.length →
  (l.flatMap e.enc).take (j * k + o) ++ vs ++ (l.flatMap e.enc).drop (j * k + o + vs.length) = (l.modify j up).flatMap e.enc
 | [], _, h => by simp at h
 | x :: r, 0, _ => by
  simp only [Nat.zero_mul, Nat.zero_add, List.flatMap_cons, List.modify_cons, if_true]
  rw [List.take_append_of_le_length (by rw [e.len]; omega), List.drop_append_of_le_length (by rw [e.len]; omega), hup]
  simp
 | x :: r, j + 1, h => by
  have ih := splice_set hup hm (l := r) (j := j) (by simpa using h)
  simp only [List.flatMap_cons, List.modify_cons, Nat.add_one_ne_zero, if_false, Nat.add_sub_cancel]
  rw [← ih, List.take_append, List.drop_append, e.len, List.take_of_length_le (by rw [e.len, Nat.succ_mul]; omega), List.drop_of_length_le (by rw [e.len, Nat.succ_mul]; omega)]
  rw [show (j + 1) * k + o - k = j * k + o by rw [Nat.succ_mul]; omega, show (j + 1) * k + o + vs.length - k = j * k + o + vs.length by rw [Nat.succ_mul]; omega]
  simp
theorem RK.same (h : RK e T g v l) {b j o : Nat} {cs : Array Value} {vs : List Value} {up : α → α} (hup : ∀ x, e.enc (up x) = (e.enc x).take o ++ vs ++ (e.enc x).drop (o + vs.length)) (hm : o + vs.length ≤ k)
  (hb : g b = some (.cells cs T (0, 0))) (hj : j * k + k ≤ cs.size) :
  RK e T (upd g b (.cells (spl cs (j * k + o) vs) T (0, 0))) v l ∨ (j < l.length ∧ RK e T (upd g b (.cells (spl cs (j * k + o) vs) T (0, 0))) v (l.modify j up)) := by
 rcases h with h | ⟨b', cap, cur, h1, h2, h3, h4, h5⟩
 ·exact .inl (.inl h)
 ·by_cases hbb : b' = b
  ·subst hbb
   rw [h2] at hb; injection hb with hb; injection hb with hb; subst hb
   have hsz : (spl cur (j * k + o) vs).size = cur.size := by
    simp only [spl, List.size_toArray, List.length_append, List.length_take, List.length_drop, Array.length_toList]
    omega
   have hlc : l.length * k ≤ cur.size := by rw [h4]; exact Nat.mul_le_mul_right k h3
   by_cases hjl : j < l.length
   ·have hjk : j * k + k ≤ l.length * k := by rw [← Nat.succ_mul]; exact Nat.mul_le_mul_right k hjl
    refine .inr ⟨hjl, .inr ⟨b', cap, _, by simpa using h1, upd_self _ _ _, by simpa using h3, by rw [hsz, h4], ?_⟩⟩
    rw [← splice_set hup hm hjl, ← h5]
    simp only [spl, List.length_modify]
    exact take_splice cur.toList vs (j * k + o) (l.length * k) (by simp; omega) oM
   ·have hjk : l.length * k ≤ j * k := Nat.mul_le_mul_right k oM
    refine .inl (.inr ⟨b', cap, _, h1, upd_self _ _ _, h3, by rw [hsz, h4], ?_⟩)
    rw [← h5]
    simp only [spl, List.append_assoc]
    rw [List.take_append_of_le_length (by simp; omega), List.take_take, Nat.min_eq_left oM]
  ·refine .inl (.inr ⟨b', cap, cur, h1, ?_, h3, h4, h5⟩)
   simp only [upd, hbb, if_false]; exact h2
end
end Go.Sy
namespace Go.Proofs.YtkdibcicncjpdaaGreat
open _root_.Go.Proofs.Tryz _root_.Go.Proofs.YtkdibcicncjpdaaGreat.Tryz
open Go Go.Sy Go.Pl Go.Proofs
set_option maxRecDepth 100000
structure Cl where
 id : Int
 dim : Int
 sides : List Side
 deriving DecidableEq
def CellR (g : PH) (c : Cl) (r : Rc) : Prop := r.id = c.id ∧ r.dim = c.dim ∧ SlA encSide g (.slice r.sv.p r.sv.n r.sv.c) c.sides
theorem CellR.mono {g g' : PH} (hl : Le g g') {c : Cl} {r : Rc} (h : CellR g c r) : CellR g' c r := ⟨h.1, h.2.1, h.2.2.mono hl⟩
def Cells (g : PH) (v : Value) (l : List Cl) : Prop := ∃ rs, SlA encCell g v rs ∧ All2 (CellR g) l rs
theorem Cells.mono {g g' : PH} {v : Value} {l : List Cl} (h : Cells g v l) (hl : Le g g') : Cells g' v l := by
 obtain ⟨rs, h1, h2⟩ := h
 exact ⟨rs, h1.mono hl, h2.mono fun _ _ => CellR.mono hl⟩
theorem Cells.form {g : PH} {v : Value} {l : List Cl} (h : Cells g v l) : ∃ p c, v = .slice p l.length c := by
 obtain ⟨rs, h1, h2⟩ := h
 rw [h2.length]
 exact h1.form
def CellK (g : PH) (c : Cl) (r : Rc) : Prop := r.id = c.id ∧ r.dim = c.dim ∧ RK encSide 55 g (.slice r.sv.p r.sv.n r.sv.c) c.sides
theorem CellK.mono {g g' : PH} (hl : Le g g') {c : Cl} {r : Rc} (h : CellK g c r) : CellK g' c r := ⟨h.1, h.2.1, h.2.2.mono hl⟩
theorem CellK.cr {g g' : PH} (hl : Le g g') {c : Cl} {r : Rc} (h : CellK g c r) : CellR g' c r := ⟨h.1, h.2.1, h.2.2.sl.mono hl⟩
def CellsK (g : PH) (v : Value) (l : List Cl) : Prop := ∃ rs, RK encCell 51 g v rs ∧ All2 (CellK g) l rs
theorem CellsK.mono {g g' : PH} {v : Value} {l : List Cl} (h : CellsK g v l) (hl : Le g g') : CellsK g' v l := by
 obtain ⟨rs, h1, h2⟩ := h
 exact ⟨rs, h1.mono hl, h2.mono fun _ _ => CellK.mono hl⟩
theorem CellsK.cells {g g' : PH} {v : Value} {l : List Cl} (h : CellsK g v l) (hl : Le g g') : Cells g' v l := by
 obtain ⟨rs, h1, h2⟩ := h
 exact ⟨rs, h1.sl.mono hl, h2.mono fun _ _ => CellK.cr hl⟩
def Fits (l : List Cl) : Prop := l.length < 1099511627776 ∧ ∀ c ∈ l, c.sides.length < 1099511627776
def normC (c : Cl) : Cl := ⟨c.id, c.dim, sortBy Side.cell c.sides⟩
def canonC (l : List Cl) : List Cl := (sortBy Cl.id l).map normC
theorem Tryz.build27 (x : Value) (h : x.cells = #[x]) (w : World) : (Instr.build 27 #[(0, x)]).run Tryz.prog w = .ok (.agg #[x]) w := by
 have hz : (Value.agg #[Value.slice none 0 0]).cells = #[.slice none 0 0] := rfl
 simp [Instr.build, Instr.fill, h, hz]
theorem sideNeq (x y : Side) (w : World) : (binOp .neq 55 (.agg (encSide.enc x).toArray) (.agg (encSide.enc y).toArray)).run Tryz.prog w = .ok (.bool (decide (x ≠ y))) w := by
 have hu : Tryz.prog.underlying 55 = some (.struct (Tryz.prog.fieldsOf 55)) := by kernel_rfl
 have hf : (Tryz.prog.fieldsOf 55).toList = (Tryz.prog.fieldsOf 55).toList := rfl
 rw [run_neq_struct, run_equalIn_agg w 9999 55 _ _ hu stoodInHeld55]
 have hfs : ∃ f1 f2, (Tryz.prog.fieldsOf 55).toList = [f1, f2] ∧ f1.name ≠ "_" ∧ f2.name ≠ "_" ∧ f1.type = 3 ∧ f2.type = 3 ∧ f1.offset = 0 ∧ f2.offset = 1 := ⟨_, _, rfl, by decide, by decide, rfl, rfl, rfl, rfl⟩
 obtain ⟨f1, f2, e, n1, n2, t1, t2, o1, o2⟩ := hfs
 obtain ⟨a, b⟩ := x
 obtain ⟨c, d⟩ := y
 rw [e]
 have h1 := run_equalIn_int (P := Tryz.prog) w 9998 3 .i64 .i64 a c underlying3
 have h2 := run_equalIn_int (P := Tryz.prog) w 9998 3 .i64 .i64 b d underlying3
 simp only [Op.eqFields, n1, n2, t1, t2, o1, o2, encSide, part, ne_eq, not_false_eq_true, if_true, Sem.run_bind, isAgg3, Result.andThen_ok]
 simp [h1, h2]
 by_cases hac : a = c <;> by_cases hbd : b = d <;> simp [hac, hbd]
theorem keyId (E : World) (g : PH) : KeyOkC E (.func (.func 78) #[] #[]) Rc.id g := by
 intro g s a hle
 refine CallV.mk (cap := []) call78 ?_
 refine Ctr.of (args := [.agg (encCell.enc a).toArray]) func78 rfl ntmps78 (Nat.le_of_ble_eq_true rfl) ?_
 refine SC.seq (SC.region (SL.W (SO.box rfl) ?_))
 rintro _ _ _ ⟨b1, rfl, rfl, rfl⟩
 refine SL.A rfl (SL.nil (ST.thenN (SC.seq (SC.region (SL.U (SU.fieldAddr underlying51 rfl sizeOf3 rfl) (SL.K (SQ.load isAgg3 rfl (CellAt.own 0 rfl rfl)) (SL.A rfl (SL.nil (ST.thenN (SC.ret (ST.drop (s' := s) (.cons _ (.refl _)) ?_)))))))))))
 exact ST.ret1 (.inl rfl) results78 rfl ⟨rfl, rfl, rfl⟩
theorem keyCell (E : World) (g : PH) : KeyOkS E (.func (.func 80) #[] #[]) Side.cell g := by
 intro g s a hle
 refine CallV.mk (cap := []) call80 ?_
 refine Ctr.of (args := [.agg (encSide.enc a).toArray]) func80 rfl ntmps80 (Nat.le_of_ble_eq_true rfl) ?_
 refine SC.seq (SC.region (SL.W (SO.box rfl) ?_))
 rintro _ _ _ ⟨b1, rfl, rfl, rfl⟩
 refine SL.A rfl (SL.nil (ST.thenN (SC.seq (SC.region (SL.U (SU.fieldAddr underlying55 rfl sizeOf3 rfl) (SL.K (SQ.load isAgg3 rfl (CellAt.own 0 rfl rfl)) (SL.A rfl (SL.nil (ST.thenN (SC.ret (ST.drop (s' := s) (.cons _ (.refl _)) ?_)))))))))))
 exact ST.ret1 (.inl rfl) results80 rfl ⟨rfl, rfl, rfl⟩
theorem canon_new (E : World) (g : PH) (s : Own) (v : Value) (l : List Cl) (hv : Cells g v l) (hf : Fits l) :
  Ctr Tryz.prog E 30 #[.agg #[v]] g s (fun r g' s' => s = s' ∧ Le g g' ∧ ∃ u, r = .agg #[u] ∧ CellsK (mns g' g) u (canonC l)) := by
 obtain ⟨rs, hrs, hall⟩ := hv
 have hlen := hall.length
 have hfl := hf.1
 have hall' := All2.sortBy (f := Cl.id) (h := Rc.id) (fun a b h => h.1.symm) hall
 obtain ⟨p, c, rfl⟩ := SlA.form hrs
 refine Ctr.of (args := [.agg #[.slice p rs.length c]]) func30 rfl ntmps30 (Nat.le_of_ble_eq_true rfl) ?_
 refine SC.seq (SC.region (SL.W (SO.box rfl) ?_))
 rintro _ _ _ ⟨b1, rfl, rfl, rfl⟩
 refine SL.W (SO.alloc zeroValue27) ?_
 rintro _ _ _ ⟨b2, rfl, rfl, rfl⟩
 refine SL.nil (ST.thenN (SC.seq (SC.region (SL.U (SU.fieldAddr underlying27 rfl sizeOf25 rfl) (SL.K (SQ.load isAgg25 rfl (CellAt.own 1 rfl rfl)) (SL.W (SO.call call77 rfl (sortedC E g _ _ 78 #[] Rc.id (keyId E g) rs hrs oM)) ?_))))))
 rintro r3 _ _ ⟨rfl, rfl⟩
 refine SL.facts fun ⟨w0, hw0⟩ => ?_
 obtain ⟨q, d, rfl⟩ := rowA_form (i := 0) hw0 rfl
 have hbq : 0 < (sortBy Rc.id rs).length → based (.slice q (sortBy Rc.id rs).length d) = true := fun h => (by obtain ⟨b0, c0, he⟩ := rowA_based (i := 0) hw0 rfl h; rw [he]; rfl)
 clear hw0 w0
 refine SL.A rfl (SL.nil (ST.thenN (SC.seq (SC.seq (SC.region (SL.M rfl (SL.U (SU.lenN underlying25 rfl) (SL.M rfl (SL.nil (ST.thenN (SC.block ?_)))))))))))
 have hsl : (sortBy Rc.id rs).length = rs.length := sortBy_length rs
 refine SC.loop (ι := PH × List Rc × List Rc × List Cl × List Cl) (fun i => [(2, pp b2 0), (3, .slice q (sortBy Rc.id rs).length d), (9, vi (sortBy Rc.id rs).length), (10, vi i.2.1.length)]) (fun i => i.1)
  (fun i => rowA encCell 51 (.slice q (sortBy Rc.id rs).length d) (i.2.1 ++ i.2.2.1) :: pt b2 (.cells #[.slice none 0 0] 27 (0, 0)) :: pt b1 (.cells #[.slice p rs.length c] 27 (0, 0)) :: s)
  (fun i => Le g i.1 ∧ All2 (CellK (mns i.1 g)) i.2.2.2.1 i.2.1 ∧ All2 (CellR g) i.2.2.2.2 i.2.2.1 ∧ canonC l = i.2.2.2.1 ++ i.2.2.2.2.map normC ∧ (i.2.1.length + i.2.2.1.length = (sortBy Rc.id rs).length ∧ ∀ x ∈ i.2.2.2.2, x ∈ l)) (fun i => i.2.2.1.length)
  (g, [], sortBy Rc.id rs, [], sortBy Cl.id l) ⟨rfl, rfl, rfl, rfl, trivial⟩ rfl rfl ⟨Le.refl g, trivial, hall', by simp [canonC], by simp, fun x hx => (sortBy_mem l x).1 hx⟩ ?_
 rintro ⟨g1, ds, rest, dl, rl⟩ ⟨hle, hd, hr, hcan, hlen1, hmem⟩
 dsimp only at hle hd hr hcan hlen1 hmem ⊢
 have hrl := hr.length
 refine SC.seq (SC.region (SL.U (SU.lss rfl rfl) (SL.nil (ST.thenN (SC.seq ?_)))))
 refine SC.ifP rfl (fun hlt => ?_) (fun hlt => ?_)
 ·cases rest with
  | nil => simp at hlen1; omega
  | cons x rest =>
  obtain ⟨cx, rl', hrle, hcx, hr'⟩ := hr.cons_right
  subst hrle
  have hxl : cx.sides.length < 1099511627776 := hf.2 cx (hmem cx (by simp))
  simp only [List.length_cons] at hlen1
  have hgx : (ds ++ x :: rest)[((ds.length : Nat) : Int).toNat]? = some x := get_mid oM
  have hbs : based (.slice q (sortBy Rc.id rs).length d) = true := hbq oM
  refine SC.skip (ST.thenN (SC.seq (SC.block (SC.seq (SC.region (SL.M rfl (SL.A rfl (SL.nil (ST.thenN (SC.region (SL.M rfl (SL.M rfl (SL.M rfl (SL.M rfl (SL.U (SU.indexAddr underlying25 sizeOf51 rfl rfl hbs oM sL) (SL.U (SU.fieldAddrC underlying51 rfl sizeOf49 rfl hbs) (SL.K (SQ.partA (o := 2) isAgg49 rfl (Rd.rowA 0 rfl) hgx rfl) (SL.W (SO.call call79 rfl (sortedS E g1 _ _ 80 #[] Side.cell (keyCell E g1) cx.sides (hcx.2.2.mono hle) hxl)) ?_))))))))))))))))))
  rintro r20 _ _ ⟨rfl, rfl⟩
  refine SL.freezeRowK fun g2 hle2 hs2 => ?_
  obtain ⟨q2, d2, rfl⟩ := hs2.form
  refine SL.U (SU.indexAddr underlying25 sizeOf51 rfl rfl hbs oM sL) (SL.U (SU.fieldAddrC underlying51 rfl sizeOf49 rfl hbs) (SL.on (SO.partA (o := 2) 0 ⟨x.id, x.dim, q2, _, d2⟩ sizeOf49 rfl rfl rfl hgx rfl rfl dC rfl) ?_))
  rintro _ _ _ ⟨rfl, rfl⟩
  refine SL.nil (ST.blockN (ST.thenN (SC.region (SL.U (SU.add rfl rfl oM) (SL.M rfl (SL.nil ?_))))))
  exact ST.again (g2, ds ++ [⟨x.id, x.dim, q2, (sortBy Side.cell cx.sides).length, d2⟩], rest, dl ++ [normC cx], rl') ⟨rfl, rfl, rfl, vi_eq lN, trivial⟩ rfl (by
    dsimp only
    rw [show (ds ++ x :: rest).set ((ds.length : Nat) : Int).toNat ⟨x.id, x.dim, q2, (sortBy Side.cell cx.sides).length, d2⟩ = ds ++ [⟨x.id, x.dim, q2, (sortBy Side.cell cx.sides).length, d2⟩] ++ rest by rw [set_mid oM]; simp]
    rfl) ⟨hle.trans hle2, (hd.mono fun _ _ => CellK.mono (mns_mono hle2)).append ⟨(by exact ⟨hcx.1, hcx.2.1, hs2.mono (mns_anti hle)⟩ : CellK (mns g2 g) (normC cx) ⟨x.id, x.dim, q2, (sortBy Side.cell cx.sides).length, d2⟩), trivial⟩, hr', by rw [hcan]; simp, lN, fun y hy => hmem y (by simp [hy])⟩ lN
 ·have hr0 : rest = [] := List.eq_nil_of_length_eq_zero oM
  subst hr0
  have hrl0 : rl = [] := hr.nil_right
  subst hrl0
  refine SC.exit (ST.thenX (ST.thenX (ST.blockX (ST.thenN (SC.seq (SC.region (SL.freezeRowK fun g2 hle2 hs2 => ?_)))))))
  refine SL.M rfl (SL.U (SU.build rfl (build27 _ rfl)) (SL.on (SO.storeAllK 0 sizeOf27 rfl rfl rfl rfl rfl (by exact ⟨rfl, trivial⟩)) ?_))
  rintro _ _ _ ⟨rfl, rfl⟩
  refine SL.nil (ST.thenN (SC.ret ?_))
  refine ST.retCD 0 s (.inl rfl) results30 rfl isAgg27 sizeOf27 rfl rfl (.cons _ (.cons _ (.refl _))) ⟨rfl, hle.trans hle2, _, rfl, ds, ?_, ?_⟩
  ·simpa using hs2.mono (mns_anti hle)
  ·rw [hcan]
   simpa using hd.mono fun _ _ => CellK.mono (mns_mono hle2)
theorem canon_spec (E : World) (g : PH) (s : Own) (v : Value) (l : List Cl) (hv : Cells g v l) (hf : Fits l) :
  Ctr Tryz.prog E 30 #[.agg #[v]] g s (fun r g' s' => s = s' ∧ Le g g' ∧ ∃ u, r = .agg #[u] ∧ Cells g' u (canonC l)) :=
 (canon_new E g s v l hv hf).mono fun _ _ _ ⟨h1, h2, u, h3, h4⟩ => ⟨h1, h2, u, h3, h4.cells (mns_le _ _)⟩
theorem take_eq_succ {α : Type} {l m : List α} {k : Nat} (h1 : k < l.length) (h2 : k < m.length) (h : l.take k = m.take k) (he : l[k] = m[k]) : l.take (k + 1) = m.take (k + 1) := by
 rw [List.take_succ_eq_append_getElem h1, List.take_succ_eq_append_getElem h2, h, he]
theorem take_eq_all {α : Type} {l m : List α} (hl : l.length = m.length) (h : l.take l.length = m.take l.length) : l = m := by
 rw [List.take_of_length_le (Nat.le_refl _), List.take_of_length_le oM] at h
 exact h
theorem SU.neqSide {N : Nat} {f : Fr} {dst : Option Tmp} {ty : TypeId} {pos : String} {af : Array Edge} {gd : Option (Nat × Bool)} {x y : Operand} {a b : Side} {U : TypeId} (hx : ev f x = some (.agg (encSide.enc a).toArray)) (hy : ev f y = some (.agg (encSide.enc b).toArray)) :
  SU Tryz.prog N ⟨dst, .binOp .neq 55 x y U, ty, pos, af, gd⟩ f (.bool (decide (a ≠ b))) := fun ac w ha => by
 have hg := run_eqGuard_agg (P := Tryz.prog) w .neq 55 x y (encSide.enc a).toArray (encSide.enc b).toArray eqGuardType55
 simp only [execOp, ha.ev hx, ha.ev hy, Sem.run_bind, hg, Result.andThen_ok, sideNeq]
 rfl
theorem equalSides (E : World) (g : PH) (s : Own) (v u : Value) (l m : List Side) (hv : SlA encSide g v l) (hu : SlA encSide g u m) (hl : l.length < 1099511627776) :
  Ctr Tryz.prog E 100 #[v, u] g s (fun r g' s' => r = vb (decide (l = m)) ∧ g = g' ∧ s = s') := by
 obtain ⟨p, c, rfl⟩ := hv.form
 obtain ⟨q, d, rfl⟩ := hu.form
 refine Ctr.of (args := [.slice p l.length c, .slice q m.length d]) func100 rfl ntmps100 (Nat.le_of_ble_eq_true rfl) ?_
 refine SC.seq (SC.region (SL.A rfl (SL.nil (ST.thenN (SC.seq (SC.seq (SC.region (SL.M rfl (SL.U (SU.lenN underlying49 rfl) (SL.M rfl (SL.U (SU.lenN underlying49 rfl) (SL.U (SU.neq rfl rfl) (SL.nil (ST.thenN ?_))))))))))))))
 refine SC.ifP rfl (fun hne => ?_) (fun hne => ?_)
 ·refine SC.seq (SC.region (SL.A rfl (SL.nil (ST.thenN (SC.ret (ST.thenR ?_))))))
  exact ST.ret1 (.inl rfl) results100 rfl ⟨by have : l ≠ m := fun e => hne (by rw [e]); simp [this], rfl, rfl⟩
 ·refine SC.skip (ST.thenN (SC.seq (SC.seq (SC.region (SL.M rfl (SL.U (SU.lenN underlying49 rfl) (SL.M rfl (SL.nil (ST.thenN (SC.block ?_))))))))))
  have hlen : l.length = m.length := oM
  refine SC.loop (ι := Nat) (fun k => [(0, .slice p l.length c), (1, .slice q m.length d), (12, vi l.length), (13, vi k)]) (fun _ => g) (fun _ => s) (fun k => k ≤ l.length ∧ l.take k = m.take k) (fun k => l.length - k) 0
   ⟨rfl, rfl, rfl, rfl, trivial⟩ rfl rfl ⟨Nat.zero_le _, by simp⟩ ?_
  rintro k ⟨hk, heq⟩
  refine SC.seq (SC.region (SL.U (SU.lss rfl rfl) (SL.nil (ST.thenN (SC.seq ?_)))))
  refine SC.ifP rfl (fun hlt => ?_) (fun hlt => ?_)
  ·have hkl : k < l.length := oM
   have hkm : k < m.length := oM
   have hb1 := hv.based oM
   have hb2 := hu.based oM
   refine SC.skip (ST.thenN (SC.seq (SC.block (SC.seq (SC.region (SL.M rfl (SL.A rfl (SL.nil (ST.thenN (SC.seq ?_))))))))))
   refine SC.draw [] [(0, 2), (1, 2), (2, 2), (3, 1), (4, 2), (5, 2), (6, 2), (7, 1), (8, 2)] Tryz.mixed (by kernel_rfl) ?_
   refine SP.U (i := 0) rfl (SU.move rfl) (SP.U (i := 1) rfl (SU.move rfl) (SP.U (i := 2) rfl (SU.indexAddr underlying49 sizeOf55 rfl rfl hb1 oM sL) ?_))
   refine SP.q (i := 3) rfl (SQ.elemA isAgg55 sizeOf55 rfl hv.rd (List.getElem?_eq_getElem hkl)) dC ?_
   refine SP.U (i := 4) rfl (SU.move rfl) (SP.U (i := 5) rfl (SU.move rfl) (SP.U (i := 6) rfl (SU.indexAddr underlying49 sizeOf55 rfl rfl hb2 oM sL) ?_))
   refine SP.q (i := 7) rfl (SQ.elemA isAgg55 sizeOf55 rfl hu.rd (List.getElem?_eq_getElem hkm)) dC ?_
   refine SP.U (i := 8) rfl (SU.neqSide rfl rfl) (SP.nil (ST.thenN ?_))
   refine SC.ifP rfl (fun hd => ?_) (fun hd => ?_)
   ·refine SC.seq (SC.region (SL.A rfl (SL.nil (ST.thenN (SC.ret (ST.blockR (ST.thenR (ST.thenR (ST.blockR (ST.thenR ?_))))))))))
    exact ST.ret1 (.inl rfl) results100 rfl ⟨by have : l ≠ m := fun e => hd (by simp [e]); simp [this], rfl, rfl⟩
   ·refine SC.skip (ST.blockN (ST.thenN (SC.region (SL.U (SU.add rfl rfl oM) (SL.M rfl (SL.nil ?_))))))
    exact ST.again (k + 1) ⟨rfl, rfl, rfl, rfl, trivial⟩ rfl rfl ⟨oM, take_eq_succ hkl hkm heq (Decidable.of_not_not hd)⟩ oM
  ·refine SC.exit (ST.thenX (ST.thenX (ST.blockX (ST.thenN (SC.seq (SC.region (SL.A rfl (SL.nil (ST.thenN (SC.ret ?_))))))))))
   have hkk : k = l.length := oM
   subst hkk
   have : l = m := take_eq_all hlen heq
   exact ST.ret1 (.inl rfl) results100 rfl ⟨by simp [this], rfl, rfl⟩
theorem cl_eq {x y : Cl} : x = y ↔ x.id = y.id ∧ x.dim = y.dim ∧ x.sides = y.sides := by
 cases x; cases y; simp
theorem same_spec (E : World) (g : PH) (s : Own) (a b : Cl) (ra rb : Rc) (ha : CellR g a ra) (hb : CellR g b rb) (hl : a.sides.length < 1099511627776) :
  Ctr Tryz.prog E 69 #[.agg (encCell.enc ra).toArray, .agg (encCell.enc rb).toArray] g s (fun r g' s' => r = vb (decide (a = b)) ∧ g = g' ∧ s = s') := by
 obtain ⟨i1, d1, ⟨p1, n1, c1⟩⟩ := ra
 obtain ⟨i2, d2, ⟨p2, n2, c2⟩⟩ := rb
 obtain ⟨rfl, rfl, hs1⟩ := ha
 obtain ⟨rfl, rfl, hs2⟩ := hb
 refine Ctr.of (args := [.agg (encCell.enc ⟨a.id, a.dim, ⟨p1, n1, c1⟩⟩).toArray, .agg (encCell.enc ⟨b.id, b.dim, ⟨p2, n2, c2⟩⟩).toArray]) func69 rfl ntmps69 (Nat.le_of_ble_eq_true rfl) ?_
 refine SC.seq (SC.region (SL.W (SO.box rfl) ?_))
 rintro _ _ _ ⟨b2, rfl, rfl, rfl⟩
 refine SL.W (SO.box rfl) ?_
 rintro _ _ _ ⟨b3, rfl, rfl, rfl⟩
 refine SL.A rfl (SL.nil (ST.thenN ?_))
 refine SC.cutB 4 (decide (a = b)) ?_ ?_
 ·refine SC.region (SL.U (SU.fieldAddr underlying51 rfl sizeOf3 rfl) (SL.K (SQ.load isAgg3 rfl (CellAt.own 1 rfl rfl)) (SL.U (SU.fieldAddr underlying51 rfl sizeOf3 rfl) (SL.K (SQ.load isAgg3 rfl (CellAt.own 0 rfl rfl)) (SL.U (SU.eql rfl rfl) (SL.M rfl ?_))))))
  refine SL.split ?_ ?_
  ·intro h10
   refine SL.Y rfl rfl rfl (SU.fieldAddr underlying51 rfl sizeOf3 rfl) (SL.gq (Gd.onT rfl rfl rfl dC) (SQ.load isAgg3 rfl (CellAt.own 1 rfl rfl)) dC (SL.Y rfl rfl rfl (SU.fieldAddr underlying51 rfl sizeOf3 rfl) (SL.gq (Gd.onT rfl rfl rfl dC) (SQ.load isAgg3 rfl (CellAt.own 0 rfl rfl)) dC (SL.Y rfl rfl rfl (SU.eql rfl rfl) (SL.U (SU.pickT rfl rfl) (SL.M rfl ?_))))))
   refine SL.split ?_ ?_
   ·intro h17
    refine SL.Y rfl rfl rfl (SU.fieldAddr underlying51 rfl sizeOf49 rfl) (SL.gq (Gd.onT rfl rfl rfl dC) (SQ.load isAgg49 rfl (CellAt.own 1 rfl rfl)) dC (SL.Y rfl rfl rfl (SU.fieldAddr underlying51 rfl sizeOf49 rfl) (SL.gq (Gd.onT rfl rfl rfl dC) (SQ.load isAgg49 rfl (CellAt.own 0 rfl rfl)) dC (SL.go (Gd.onT rfl rfl rfl dC) (SO.call call100 rfl (equalSides E g _ _ _ a.sides b.sides hs1 hs2 hl)) dC ?_))))
    rintro _ _ _ ⟨rfl, rfl, rfl⟩
    refine SL.U (SU.pickT rfl rfl) (SL.A rfl (SL.nil ?_))
    exact ST.mid1 (by simp_all [get?, cl_eq]) mI
   ·intro h17
    refine SL.Z rfl rfl rfl (SL.Z rfl rfl rfl (SL.Z rfl rfl rfl (SL.Z rfl rfl rfl (SL.Z rfl rfl rfl (SL.U (SU.pickF rfl rfl) (SL.A rfl (SL.nil ?_)))))))
    exact ST.mid1 (by simp_all [get?, cl_eq]) mI
  ·intro h10
   refine SL.Z rfl rfl rfl (SL.Z rfl rfl rfl (SL.Z rfl rfl rfl (SL.Z rfl rfl rfl (SL.Z rfl rfl rfl (SL.U (SU.pickF rfl rfl) (SL.M rfl (SL.Z rfl rfl rfl (SL.Z rfl rfl rfl (SL.Z rfl rfl rfl (SL.Z rfl rfl rfl (SL.Z rfl rfl rfl (SL.U (SU.pickF rfl rfl) (SL.A rfl (SL.nil ?_))))))))))))))
   exact ST.mid1 (by simp_all [get?, cl_eq]) mI
 refine SC.ret (ST.drop (s' := s) (.cons _ (.cons _ (.refl _))) ?_)
 exact ST.ret1 (.inl rfl) results69 rfl ⟨rfl, rfl, rfl⟩
theorem canonC_fits {l : List Cl} (h : Fits l) : Fits (canonC l) := by
 refine ⟨by simp [canonC, sortBy_length]; exact h.1, fun c hc => ?_⟩
 simp only [canonC, List.mem_map] at hc
 obtain ⟨c0, h0, rfl⟩ := hc
 simp only [normC, sortBy_length]
 exact h.2 c0 ((sortBy_mem l c0).1 h0)
theorem Tryz.mty86 : MTy Tryz.prog 86 3 51 (.agg #[vi 0, vi 0, .slice none 0 0]) := ⟨underlying86, underlying3, zeroValue51⟩
def addC (acc : List Cl) (c : Cl) : List Cl := if acc.any (fun x => x.id == c.id) then acc else acc ++ [c]
theorem addC_old {acc : List Cl} {c : Cl} (h : acc.any (fun x => x.id == c.id) = true) : addC acc c = acc := if_pos h
theorem addC_new {acc : List Cl} {c : Cl} (h : acc.any (fun x => x.id == c.id) = false) : addC acc c = acc ++ [c] := if_neg (by rw [h]; simp)
def tabC (l : List Cl) : List Cl := (canonC l).foldl addC []
def rcv (r : Rc) : Value := .agg (encCell.enc r).toArray
def rcPair (r : Rc) : Int × Value := (r.id, rcv r)
def TabR (R : Cl → Rc → Prop) (g : PH) (v : Value) (tl : List Cl) : Prop :=
 ∃ b m iv rs, v = pp b 0 ∧ g b = some (.cells #[.map (some m), iv] 88 (0, 0)) ∧ Mp g m (rs.map rcPair) ∧ Ints g iv (tl.map Cl.id) ∧ All2 R tl rs
def Tab (g : PH) (v : Value) (tl : List Cl) : Prop := TabR (CellR g) g v tl
theorem TabR.mono {R R' : Cl → Rc → Prop} {g g' : PH} {v : Value} {tl : List Cl} (h : TabR R g v tl) (hl : Le g g') (hr : ∀ c r, R c r → R' c r) : TabR R' g' v tl := by
 obtain ⟨b, m, iv, rs, h1, h2, h3, h4, h5⟩ := h
 exact ⟨b, m, iv, rs, h1, hl _ _ h2, h3.mono hl, h4.mono hl, h5.mono hr⟩
theorem Tab.mono {g g' : PH} {v : Value} {tl : List Cl} (h : Tab g v tl) (hl : Le g g') : Tab g' v tl := by
 obtain ⟨b, m, iv, rs, h1, h2, h3, h4, h5⟩ := h
 exact ⟨b, m, iv, rs, h1, hl _ _ h2, h3.mono hl, h4.mono hl, h5.mono fun _ _ => CellR.mono hl⟩
theorem mget_pairs (rs : List Rc) (k : Int) : mget (rs.map rcPair) k = (rs.find? (fun r => r.id == k)).map rcv := by
 induction rs with
 | nil => rfl
 | cons r t ih =>
  simp only [List.map_cons, rcPair, mget_cons, List.find?_cons]
  by_cases h : k = r.id
  ·subst h; simp
  ·have : (r.id == k) = false := by simpa using fun e => h e.symm
   rw [this, if_neg h, ← ih]
theorem all2_any {g : PH} {tl : List Cl} {rs : List Rc} (h : All2 (CellR g) tl rs) (k : Int) : tl.any (fun x => x.id == k) = rs.any (fun r => r.id == k) := by
 induction tl generalizing rs with
 | nil => cases rs with | nil => rfl | cons _ _ => exact h.elim
 | cons c t ih =>
  cases rs with
  | nil => exact h.elim
  | cons r rs => simp only [List.any_cons, h.1.1, ih h.2]
theorem all2_ids {g : PH} {tl : List Cl} {rs : List Rc} (h : All2 (CellR g) tl rs) : tl.map Cl.id = rs.map Rc.id := by
 induction tl generalizing rs with
 | nil => cases rs with | nil => rfl | cons _ _ => exact h.elim
 | cons c t ih =>
  cases rs with
  | nil => exact h.elim
  | cons r rs => simp only [List.map_cons, h.1.1, ih h.2]
theorem foldl_add_length (l : List Cl) : ∀ acc : List Cl, (l.foldl addC acc).length ≤ acc.length + l.length := by
 induction l with
 | nil => intro acc; simp
 | cons c r ih =>
  intro acc
  simp only [List.foldl_cons]
  have h1 := ih (addC acc c)
  have h2 : (addC acc c).length ≤ acc.length + 1 := by unfold addC; split <;> simp
  simp only [List.length_cons]
  omega
theorem Tryz.build88 (x : Value) (h : x.cells = #[x]) (w : World) : (Instr.build 88 #[(0, x)]).run Tryz.prog w = .ok (.agg #[x, .slice none 0 0]) w := by
 have hz : (Value.agg #[Value.map none, Value.slice none 0 0]).cells = #[.map none, .slice none 0 0] := rfl
 simp [Instr.build, Instr.fill, h, hz]
theorem of_new (E : World) (g : PH) (s : Own) (v : Value) (l : List Cl) (hv : Cells g v l) (hf : Fits l) :
  Ctr Tryz.prog E 50 #[.agg #[v]] g s (fun r g' s' => s = s' ∧ Le g g' ∧ TabR (CellK (mns g' g)) g' r (tabC l)) := by
 have hfc := canonC_fits hf
 refine Ctr.of (args := [.agg #[v]]) func50 rfl ntmps50 (Nat.le_of_ble_eq_true rfl) ?_
 refine SC.seq (SC.region (SL.W (SO.box rfl) ?_))
 rintro _ _ _ ⟨b1, rfl, rfl, rfl⟩
 refine SL.A rfl (SL.nil (ST.thenN (SC.seq (SC.region (SL.W (SO.mkMap) ?_)))))
 rintro _ _ _ ⟨m, rfl, rfl, rfl⟩
 refine SL.U (SU.build rfl (build88 _ rfl)) (SL.W (SO.box rfl) ?_)
 rintro _ _ _ ⟨b10, rfl, rfl, rfl⟩
 refine SL.A rfl (SL.nil (ST.thenN (SC.seq (SC.seq (SC.region (SL.K (SQ.loadVarK 2 isAgg27 sizeOf27 rfl rfl rfl) (SL.W (SO.call call30 rfl (canon_new E g _ v l hv hf)) ?_)))))))
 rintro _ g1 _ ⟨rfl, hle, u, rfl, hc⟩
 obtain ⟨rs, hrsK, hall⟩ := hc
 have hrs := hrsK.sl.mono (mns_le _ _)
 obtain ⟨p, c, rfl⟩ := hrs.form
 refine SL.U (SU.field underlying27 rfl isAgg25 rfl rfl) (SL.U (SU.lenN underlying25 rfl) (SL.M rfl (SL.nil (ST.thenN (SC.block ?_)))))
 have hlen := hall.length
 have hfl := hfc.1
 refine SC.nilRow 3 1 ?_
 refine SC.loop (ι := Value × Nat × List Rc) (fun i => [(3, pp b10 0), (13, .slice p rs.length c), (14, vi rs.length), (15, vi i.2.1)]) (fun _ => g1)
  (fun i => rowA encInt 3 i.1 (i.2.2.map Rc.id) :: pt b10 (.cells #[.map (some m), i.1] 88 (0, 0)) :: mp m (i.2.2.map rcPair) :: pt b1 (.cells #[v] 27 (0, 0)) :: s)
  (fun i => i.2.1 ≤ rs.length ∧ All2 (CellK (mns g1 g)) (((canonC l).take i.2.1).foldl addC []) i.2.2) (fun i => rs.length - i.2.1) (.slice none 0 0, 0, [])
  ⟨rfl, rfl, rfl, rfl, trivial⟩ rfl rfl ⟨Nat.zero_le _, by simp [All2]⟩ ?_
 rintro ⟨iv, k, acc⟩ ⟨hk, hacc⟩
 dsimp only at hk hacc ⊢
 refine SC.seq (SC.region (SL.U (SU.lss rfl rfl) (SL.nil (ST.thenN (SC.seq ?_)))))
 refine SC.ifP rfl (fun hlt => ?_) (fun hlt => ?_)
 ·have hkr : k < rs.length := oM
  have hkl : k < (canonC l).length := oM
  have hb1 := hrs.based oM
  have hcr := hall.get (List.getElem?_eq_getElem hkl) (List.getElem?_eq_getElem hkr)
  have hany := all2_any (hacc.mono fun _ _ => CellK.cr (mns_le _ _)) (canonC l)[k].id
  have htake : ((canonC l).take (k + 1)).foldl addC [] = addC (((canonC l).take k).foldl addC []) (canonC l)[k] := by
   rw [List.take_succ_eq_append_getElem hkl, List.foldl_append]; rfl
  have hal := hacc.length
  have hal2 := foldl_add_length ((canonC l).take k) []
  simp only [List.length_take, List.length_nil] at hal2
  generalize hcl : (canonC l)[k] = cx at *
  generalize hrx : rs[k] = x at *
  have hgx : rs[((k : Nat) : Int).toNat]? = some x := by rw [← hrx]; exact List.getElem?_eq_getElem hkr
  cases hget : acc.find? (fun r => r.id == x.id) with
  | some y =>
   refine SC.skip (ST.thenN (SC.seq (SC.block (SC.seq (SC.region (SL.U (SU.indexAddr underlying25 sizeOf51 rfl rfl hb1 oM sL) (SL.K (SQ.elemA isAgg51 sizeOf51 rfl hrs.rd hgx) (SL.W (SO.alloc zeroValue51) ?_))))))))
   rintro _ _ _ ⟨b5, rfl, rfl, rfl⟩
   refine SL.on (SO.storeAllK 0 sizeOf51 rfl rfl rfl rfl rfl (by exact ⟨rfl, rfl, rfl, trivial⟩)) ?_
   rintro _ _ _ ⟨rfl, rfl⟩
   refine SL.nil (ST.thenN (SC.seq ?_))
   refine SC.draw [] [(0, 2), (1, 2), (2, 2), (3, 1), (4, 2), (5, 1), (6, 1), (7, 2), (8, 2), (9, 2), (10, 0), (11, 0), (12, 2)] Tryz.mixed (by kernel_rfl) ?_
   refine SP.U (i := 0) rfl (SU.move rfl) (SP.U (i := 1) rfl (SU.nilCheck rfl) (SP.U (i := 2) rfl (SU.fieldAddr underlying88 rfl sizeOf86 rfl) (SP.K (i := 3) rfl (SQ.load isAgg86 rfl (CellAt.own 2 rfl rfl)) (SP.U (i := 4) rfl (SU.fieldAddr underlying51 rfl sizeOf3 rfl) (SP.K (i := 5) rfl (SQ.load isAgg3 rfl (CellAt.own 0 rfl rfl)) (SP.K (i := 6) rfl (SQ.eq (SQ.lookupOk mty86 rfl rfl (MapAt.own 3 rfl)) (by (rw [mget_pairs, hget]; done))) ?_))))))
   refine SP.U (i := 7) rfl (SU.move rfl) (SP.U (i := 8) rfl (SU.extract rfl rfl) (SP.U (i := 9) rfl (SU.extract rfl rfl) (SP.o (i := 10) rfl (SO.alloc zeroValue51) dC (.inr (by rintro _ _ _ ⟨b6, rfl, rfl, rfl⟩; exact ⟨by exact Le.refl _, (by exact .cons _ (.refl _))⟩)) ?_)))
   rintro _ _ _ ⟨b6, rfl, rfl, rfl⟩
   refine SP.on (i := 11) rfl (SO.storeAllK 0 sizeOf51 rfl rfl rfl rfl rfl (by exact ⟨rfl, rfl, rfl, trivial⟩)) (.inr (by rintro _ _ _ ⟨rfl, rfl⟩; exact ⟨by exact Le.refl _, (by exact .cons _ (.refl _))⟩)) ?_
   rintro _ _ _ ⟨rfl, rfl⟩
   refine SP.U (i := 12) rfl (SU.assign rfl) (SP.nil (ST.thenN (SC.seq (SC.region (SL.M rfl (SL.U (SU.not rfl) (SL.nil (ST.thenN (SC.condF rfl (SC.skip (ST.blockN (ST.thenN (SC.region (SL.U (SU.add rfl rfl oM) (SL.M rfl (SL.nil (ST.drop (s' := rowA encInt 3 iv (acc.map Rc.id) :: pt b10 (.cells #[.map (some m), iv] 88 (0, 0)) :: mp m (acc.map rcPair) :: pt b1 (.cells #[v] 27 (0, 0)) :: s) (.cons _ (.cons _ (.refl _))) ?_)))))))))))))))))
   have h1 : acc.any (fun r => r.id == cx.id) = true := by
    rw [List.any_eq_true]
    exact ⟨y, List.mem_of_find?_eq_some hget, by have := List.find?_some hget; rw [← hcr.1]; exact this⟩
   exact ST.again (iv, k + 1, acc) ⟨rfl, rfl, rfl, rfl, trivial⟩ rfl rfl ⟨lN, by dsimp only; rw [htake, addC_old (hany.trans h1)]; exact hacc⟩ lN
  | none =>
   refine SC.skip (ST.thenN (SC.seq (SC.block (SC.seq (SC.region (SL.U (SU.indexAddr underlying25 sizeOf51 rfl rfl hb1 oM sL) (SL.K (SQ.elemA isAgg51 sizeOf51 rfl hrs.rd hgx) (SL.W (SO.alloc zeroValue51) ?_))))))))
   rintro _ _ _ ⟨b5, rfl, rfl, rfl⟩
   refine SL.on (SO.storeAllK 0 sizeOf51 rfl rfl rfl rfl rfl (by exact ⟨rfl, rfl, rfl, trivial⟩)) ?_
   rintro _ _ _ ⟨rfl, rfl⟩
   refine SL.nil (ST.thenN (SC.seq ?_))
   refine SC.draw [] [(0, 2), (1, 2), (2, 2), (3, 1), (4, 2), (5, 1), (6, 1), (7, 2), (8, 2), (9, 2), (10, 0), (11, 0), (12, 2)] Tryz.mixed (by kernel_rfl) ?_
   refine SP.U (i := 0) rfl (SU.move rfl) (SP.U (i := 1) rfl (SU.nilCheck rfl) (SP.U (i := 2) rfl (SU.fieldAddr underlying88 rfl sizeOf86 rfl) (SP.K (i := 3) rfl (SQ.load isAgg86 rfl (CellAt.own 2 rfl rfl)) (SP.U (i := 4) rfl (SU.fieldAddr underlying51 rfl sizeOf3 rfl) (SP.K (i := 5) rfl (SQ.load isAgg3 rfl (CellAt.own 0 rfl rfl)) (SP.K (i := 6) rfl (SQ.eq (SQ.lookupOk mty86 rfl rfl (MapAt.own 3 rfl)) (by (rw [mget_pairs, hget]; done))) ?_))))))
   refine SP.U (i := 7) rfl (SU.move rfl) (SP.U (i := 8) rfl (SU.extract rfl rfl) (SP.U (i := 9) rfl (SU.extract rfl rfl) (SP.o (i := 10) rfl (SO.alloc zeroValue51) dC (.inr (by rintro _ _ _ ⟨b6, rfl, rfl, rfl⟩; exact ⟨by exact Le.refl _, (by exact .cons _ (.refl _))⟩)) ?_)))
   rintro _ _ _ ⟨b6, rfl, rfl, rfl⟩
   refine SP.on (i := 11) rfl (SO.storeAllK 0 sizeOf51 rfl rfl rfl rfl rfl (by exact ⟨rfl, rfl, rfl, trivial⟩)) (.inr (by rintro _ _ _ ⟨rfl, rfl⟩; exact ⟨by exact Le.refl _, (by exact .cons _ (.refl _))⟩)) ?_
   rintro _ _ _ ⟨rfl, rfl⟩
   refine SP.U (i := 12) rfl (SU.assign rfl) (SP.nil (ST.thenN (SC.seq (SC.region (SL.M rfl (SL.U (SU.not rfl) (SL.nil (ST.thenN (SC.condT rfl (SC.seq ?_))))))))))
   refine SC.draw [7] [(0, 2), (1, 2), (2, 2), (3, 1), (4, 2), (5, 1), (6, 1), (7, 0)] Tryz.mixed (by kernel_rfl) ?_
   refine SP.U (i := 0) rfl (SU.move rfl) (SP.U (i := 1) rfl (SU.nilCheck rfl) (SP.U (i := 2) rfl (SU.fieldAddr underlying88 rfl sizeOf86 rfl) (SP.K (i := 3) rfl (SQ.load isAgg86 rfl (CellAt.own 3 rfl rfl)) (SP.U (i := 4) rfl (SU.fieldAddr underlying51 rfl sizeOf3 rfl) (SP.K (i := 5) rfl (SQ.load isAgg3 rfl (CellAt.own 1 rfl rfl)) (SP.K (i := 6) rfl (SQ.loadVarK 1 isAgg51 sizeOf51 rfl rfl rfl) (SP.on (i := 7) rfl (SO.mapUpdate 4 mty86 rfl rfl rfl rfl) (.inl dC) ?_)))))))
   rintro _ _ _ ⟨rfl, rfl⟩
   refine SP.nil (ST.thenN ?_)
   refine SC.draw [8, 9, 10, 11] [(0, 2), (1, 2), (2, 2), (3, 2), (4, 1), (5, 2), (6, 1), (7, 0), (8, 0), (9, 0), (10, 0), (11, 0)] Tryz.mixed (by kernel_rfl) ?_
   refine SP.U (i := 0) rfl (SU.move rfl) (SP.U (i := 1) rfl (SU.move rfl) (SP.U (i := 2) rfl (SU.nilCheck rfl) (SP.U (i := 3) rfl (SU.fieldAddr underlying88 rfl sizeOf45 rfl) (SP.K (i := 4) rfl (SQ.load isAgg45 rfl (CellAt.own 3 rfl rfl)) (SP.U (i := 5) rfl (SU.fieldAddr underlying51 rfl sizeOf3 rfl) (SP.K (i := 6) rfl (SQ.load isAgg3 rfl (CellAt.own 1 rfl rfl)) (SP.o (i := 7) rfl (SO.buildSlice sty45 rfl rfl rfl (szs_mk (by exact ⟨rfl, trivial⟩)) dC) dC (.inr (by rintro _ _ _ ⟨b45, rfl, rfl, rfl⟩; exact ⟨by exact Le.refl _, (by exact .cons _ (.refl _))⟩)) ?_)))))))
   rintro _ _ _ ⟨b45, rfl, rfl, rfl⟩
   refine SP.o (i := 8) rfl (SO.app1 2 (((acc ++ [x]).map Rc.id).flatMap encInt.enc) ((acc ++ [x]).map Rc.id).length sty45 rfl rfl rfl rfl rfl ⟨rfl, trivial⟩ (by simp [encInt]; rfl) (by simp) (by simp; omega) (by simp; omega)) dC (.inl dC) ?_
   rintro iv' _ _ ⟨rfl, rfl⟩
   refine SP.facts fun ⟨w0, hw0⟩ => ?_
   obtain ⟨q', d', rfl⟩ := rowA_form (e := encInt) (l := (acc ++ [x]).map Rc.id) (i := 2) hw0 rfl
   clear hw0 w0
   refine SP.ou (i := 9) rfl (SU.nilCheck rfl) dC (.inl dC) (SP.ou (i := 10) rfl (SU.fieldAddr underlying88 rfl sizeOf45 rfl) dC (.inl dC) (SP.on (i := 11) rfl (SO.store1 3 sizeOf45 rfl rfl rfl rfl (Nat.le_of_ble_eq_true rfl) (by rfl)) (.inl dC) ?_))
   rintro _ _ _ ⟨rfl, rfl⟩
   refine SP.nil (ST.blockN (ST.thenN (SC.region (SL.U (SU.add rfl rfl oM) (SL.M rfl (SL.nil ?_))))))
   have h1 : acc.any (fun r => r.id == cx.id) = false := by
    rw [List.any_eq_false]
    intro y hy
    have := List.find?_eq_none.1 hget y hy
    rw [← hcr.1]; exact this
   have hmp : mput (acc.map rcPair) x.id (rcv x) = (acc ++ [x]).map rcPair := by
    rw [mput_none _ _ _ (fun q hq => by
     obtain ⟨y, hy, rfl⟩ := List.mem_map.1 hq
     have := List.find?_eq_none.1 hget y hy
     simpa [rcPair] using this)]
    simp [rcPair]
   refine ST.drop (s' := rowA encInt 3 (.slice q' ((acc ++ [x]).map Rc.id).length d') ((acc ++ [x]).map Rc.id) :: pt b10 (.cells #[.map (some m), .slice q' ((acc ++ [x]).map Rc.id).length d'] 88 (0, 0)) :: mp m ((acc ++ [x]).map rcPair) :: pt b1 (.cells #[v] 27 (0, 0)) :: s) ?_ ?_
   ·rw [← hmp]; exact .cons _ (.cons _ (.refl _))
   exact ST.again (.slice q' ((acc ++ [x]).map Rc.id).length d', k + 1, acc ++ [x]) ⟨rfl, rfl, rfl, rfl, trivial⟩ rfl rfl ⟨lN, by dsimp only; rw [htake, addC_new (hany.trans h1)]; exact hacc.append ⟨hcr, trivial⟩⟩ lN
 ·refine SC.exit (ST.thenX (ST.thenX (ST.blockX (ST.thenN (SC.seq (SC.region (SL.M rfl (SL.A rfl (SL.nil (ST.thenN (SC.ret ?_)))))))))))
  have hkk : k = rs.length := oM
  have htk : (canonC l).take k = canonC l := List.take_of_length_le oM
  rw [htk] at hacc
  refine ST.freezeRow fun g2 h2 hrow => ?_
  refine ST.freeze fun g3 h3 hb => ?_
  refine ST.freezeMap fun g4 h4 hm => ?_
  refine ST.drop (s' := s) (.cons _ (.refl _)) ?_
  have hI : Ints g4 iv ((tabC l).map Cl.id) := by
   rw [show (tabC l).map Cl.id = acc.map Rc.id from all2_ids (hacc.mono fun _ _ => CellK.cr (mns_le _ _))]
   exact Sl.mono hrow (h3.trans h4)
  exact ST.ret1 (.inl rfl) results50 rfl ⟨rfl, hle.trans (h2.trans (h3.trans h4)), b10, m, iv, acc, rfl, h4 _ _ hb, hm, hI, hacc.mono fun _ _ => CellK.mono (mns_mono (h2.trans (h3.trans h4)))⟩
theorem of_spec (E : World) (g : PH) (s : Own) (v : Value) (l : List Cl) (hv : Cells g v l) (hf : Fits l) :
  Ctr Tryz.prog E 50 #[.agg #[v]] g s (fun r g' s' => s = s' ∧ Le g g' ∧ Tab g' r (tabC l)) :=
 (of_new E g s v l hv hf).mono fun _ _ _ ⟨h1, h2, h3⟩ => ⟨h1, h2, h3.mono (Le.refl _) fun _ _ => CellK.cr (mns_le _ _)⟩
theorem nodup_addC {acc : List Cl} {c : Cl} (h : (acc.map Cl.id).Nodup) : ((addC acc c).map Cl.id).Nodup := by
 unfold addC
 split
 ·exact h
 ·rename_i hc
  rw [List.map_append, List.nodup_append]
  refine ⟨h, by simp, fun a ha b hb e => ?_⟩
  simp at hb
  subst hb
  obtain ⟨x, hx, hxe⟩ := List.mem_map.1 ha
  apply hc
  rw [List.any_eq_true]
  exact ⟨x, hx, by simp [hxe, e]⟩
theorem nodup_foldl (l : List Cl) : ∀ acc : List Cl, (acc.map Cl.id).Nodup → ((l.foldl addC acc).map Cl.id).Nodup := by
 induction l with
 | nil => intro acc h; exact h
 | cons c r ih => intro acc h; exact ih _ (nodup_addC h)
theorem tabC_nodup (l : List Cl) : ((tabC l).map Cl.id).Nodup := nodup_foldl _ [] (by simp)
theorem mem_foldl (l : List Cl) : ∀ (acc : List Cl) (x : Cl), x ∈ l.foldl addC acc → x ∈ acc ∨ x ∈ l := by
 induction l with
 | nil => intro acc x h; exact .inl h
 | cons c r ih =>
  intro acc x h
  rcases ih _ x h with h1 | h1
  ·unfold addC at h1
   split at h1
   ·exact .inl h1
   ·rcases List.mem_append.1 h1 with h2 | h2
    ·exact .inl h2
    ·right; simp at h2; simp [h2]
  ·exact .inr (by simp [h1])
theorem tabC_mem {l : List Cl} {x : Cl} (h : x ∈ tabC l) : x ∈ canonC l := (mem_foldl _ [] x h).resolve_left (by simp)
theorem tabC_fits {l : List Cl} (h : Fits l) : Fits (tabC l) := by
 have hc := canonC_fits h
 refine ⟨?_, fun c hm => hc.2 c (tabC_mem hm)⟩
 have := foldl_add_length (canonC l) []
 unfold tabC
 have h1 := hc.1
 simp at this
 omega
theorem find_nodup {rs : List Rc} (h : (rs.map Rc.id).Nodup) {k : Nat} {r : Rc} (hk : rs[k]? = some r) : rs.find? (fun x => x.id == r.id) = some r := by
 induction rs generalizing k with
 | nil => simp at hk
 | cons y t ih =>
  simp only [List.map_cons, List.nodup_cons] at h
  cases k with
  | zero => simp at hk; subst hk; simp
  | succ k =>
   simp only [List.getElem?_cons_succ] at hk
   have hne : (y.id == r.id) = false := by
    simp only [beq_eq_false_iff_ne, ne_eq]
    intro e
    exact h.1 (by rw [e]; exact List.mem_map.2 ⟨r, List.mem_of_getElem? hk, rfl⟩)
   rw [List.find?_cons, hne]
   exact ih h.2 hk
def PredOk (E : World) (pv : Value) (p : Cl → Bool) (tl : List Cl) (g : PH) : Prop :=
 ∀ g' s c r, Le g g' → c ∈ tl → CellR g' c r → CallV Tryz.prog E pv [rcv r] g' s (fun x g'' s'' => x = vb (p c) ∧ g' = g'' ∧ s = s'')
theorem only_gen (R : Cl → Rc → Prop) (E : World) (g : PH) (s : Own) (v pv : Value) (tl : List Cl) (p : Cl → Bool) (hR : ∀ c r, R c r → CellR g c r) (hv : TabR R g v tl) (hnd : (tl.map Cl.id).Nodup) (hf : Fits tl) (hp : PredOk E pv p tl g) :
  Ctr Tryz.prog E 70 #[v, pv] g s (fun r g' s' => s = s' ∧ Le g g' ∧ ∃ u rs, r = .agg #[u] ∧ RK encCell 51 (mns g' g) u rs ∧ All2 R (tl.filter p) rs) := by
 obtain ⟨b, m, iv, rs, rfl, hb, hm, hI, hall⟩ := hv
 have hids := all2_ids (hall.mono hR)
 have hlen := hall.length
 have hfl := hf.1
 have hnr : (rs.map Rc.id).Nodup := by rw [← hids]; exact hnd
 obtain ⟨q, d, rfl⟩ := hI.form
 refine Ctr.of (args := [pp b 0, pv]) func70 rfl ntmps70 (Nat.le_of_ble_eq_true rfl) ?_
 refine SC.seq (SC.region (SL.W (SO.alloc zeroValue27) ?_))
 rintro _ _ _ ⟨b4, rfl, rfl, rfl⟩
 refine SL.nil (ST.thenN (SC.seq (SC.region (SL.W (SO.alloc zeroValue27) ?_))))
 rintro _ _ _ ⟨b5, rfl, rfl, rfl⟩
 refine SL.nil (ST.thenN (SC.seq (SC.seq (SC.region (SL.M rfl (SL.U (SU.nilCheck rfl) (SL.U (SU.fieldAddr underlying88 rfl sizeOf45 rfl) (SL.K (SQ.load isAgg45 rfl (CellAt.known hb rfl)) (SL.U (SU.lenN underlying45 rfl) (SL.M rfl (SL.nil (ST.thenN (SC.block (SC.nilRow 51 3 ?_))))))))))))))
 simp only [List.length_map] at hI hb ⊢
 refine SC.loop (ι := Value × Nat × List Rc) (fun i => [(0, pp b 0), (1, pv), (4, pp b4 0), (5, pp b5 0), (11, .slice q tl.length d), (12, vi tl.length), (13, vi i.2.1)]) (fun _ => g)
  (fun i => rowA encCell 51 i.1 i.2.2 :: pt b5 (.cells #[i.1] 27 (0, 0)) :: pt b4 (.cells #[.slice none 0 0] 27 (0, 0)) :: s)
  (fun i => i.2.1 ≤ tl.length ∧ All2 R ((tl.take i.2.1).filter p) i.2.2) (fun i => tl.length - i.2.1) (.slice none 0 0, 0, [])
  ⟨rfl, rfl, rfl, rfl, rfl, rfl, rfl, trivial⟩ rfl rfl ⟨Nat.zero_le _, by simp [All2]⟩ ?_
 rintro ⟨ov, k, acc⟩ ⟨hk, hacc⟩
 dsimp only at hk hacc ⊢
 refine SC.seq (SC.region (SL.U (SU.lss rfl rfl) (SL.nil (ST.thenN (SC.seq ?_)))))
 refine SC.ifP rfl (fun hlt => ?_) (fun hlt => ?_)
 ·have hkl : k < tl.length := oM
  have hkr : k < rs.length := oM
  have hbi := hI.based (by simp; omega)
  have hcR := hall.get (List.getElem?_eq_getElem hkl) (List.getElem?_eq_getElem hkr)
  have hcr := hR _ _ hcR
  have hmem : tl[k] ∈ tl := List.getElem_mem hkl
  have hget : mget (rs.map rcPair) tl[k].id = some (rcv rs[k]) := by
   rw [mget_pairs, ← hcr.1, find_nodup hnr (List.getElem?_eq_getElem hkr)]; rfl
  have htake : (tl.take (k + 1)).filter p = (tl.take k).filter p ++ (if p tl[k] then [tl[k]] else []) := by
   rw [List.take_succ_eq_append_getElem hkl, List.filter_append]
   simp only [List.filter_cons, List.filter_nil]
  have hgi : (tl.map Cl.id)[((k : Nat) : Int).toNat]? = some tl[k].id := by simp [hkl]
  have hal := hacc.length
  have hal2 : ((tl.take k).filter p).length ≤ k := Nat.le_trans (List.length_filter_le _ _) (by simp; omega)
  generalize htk : tl[k] = c at *
  generalize hrk : rs[k] = r at *
  refine SC.skip (ST.thenN (SC.seq (SC.block (SC.seq (SC.region (SL.U (SU.indexAddr underlying45 sizeOf3 rfl rfl hbi oM sL) (SL.K (SQ.elem1 isAgg3 rfl hI.rd hgi rfl) (SL.A rfl (SL.nil (ST.thenN (SC.seq (SC.region (SL.M rfl (SL.M rfl (SL.U (SU.nilCheck rfl) (SL.U (SU.fieldAddr underlying88 rfl sizeOf86 rfl) (SL.K (SQ.load isAgg86 rfl (CellAt.known hb rfl)) (SL.M rfl (SL.K (SQ.eq (SQ.lookup mty86 rfl rfl (MapAt.known hm)) (by (rw [hget]; done))) ?_)))))))))))))))))))
  refine SL.W (SO.callV rfl rfl (hp g _ c r (Le.refl g) hmem hcr)) ?_
  rintro _ _ _ ⟨rfl, rfl, rfl⟩
  refine SL.nil (ST.thenN ?_)
  refine SC.ifB rfl (fun hpc => ?_) (fun hpc => ?_)
  ·refine SC.draw [9, 10, 11] [(0, 2), (1, 1), (2, 2), (3, 2), (4, 2), (5, 1), (6, 2), (7, 1), (8, 0), (9, 0), (10, 0), (11, 0)] Tryz.mixed (by kernel_rfl) ?_
   refine SP.U (i := 0) rfl (SU.fieldAddr underlying27 rfl sizeOf25 rfl) (SP.K (i := 1) rfl (SQ.load isAgg25 rfl (CellAt.own 1 rfl rfl)) (SP.U (i := 2) rfl (SU.move rfl) (SP.U (i := 3) rfl (SU.nilCheck rfl) (SP.U (i := 4) rfl (SU.fieldAddr underlying88 rfl sizeOf86 rfl) (SP.K (i := 5) rfl (SQ.load isAgg86 rfl (CellAt.known hb rfl)) (SP.U (i := 6) rfl (SU.move rfl) (SP.K (i := 7) rfl (SQ.eq (SQ.lookup mty86 rfl rfl (MapAt.known hm)) (by (rw [hget]; done))) ?_)))))))
   refine SP.o (i := 8) rfl (SO.buildSlice sty25 rfl rfl rfl (szs_mk (by exact ⟨rfl, trivial⟩)) dC) dC (.inr (by rintro _ _ _ ⟨b33, rfl, rfl, rfl⟩; exact ⟨by exact Le.refl _, (by exact .cons _ (.refl _))⟩)) ?_
   rintro _ _ _ ⟨b33, rfl, rfl, rfl⟩
   refine SP.o (i := 9) rfl (SO.app1 0 ((acc ++ [r]).flatMap encCell.enc) (acc ++ [r]).length sty25 rfl rfl rfl rfl rfl ⟨rfl, rfl, rfl, trivial⟩ (by (simp [encCell]; rfl)) (by simp) lN lN) dC (.inl dC) ?_
   rintro ov' _ _ ⟨rfl, rfl⟩
   refine SP.facts fun ⟨w0, hw0⟩ => ?_
   obtain ⟨q', d', rfl⟩ := rowA_form (e := encCell) (l := acc ++ [r]) (i := 0) hw0 rfl
   clear hw0 w0
   refine SP.ou (i := 10) rfl (SU.fieldAddr underlying27 rfl sizeOf25 rfl) dC (.inl dC) (SP.on (i := 11) rfl (SO.storeAllK 1 sizeOf25 rfl rfl rfl rfl rfl (by exact ⟨rfl, trivial⟩)) (.inl dC) ?_)
   rintro _ _ _ ⟨rfl, rfl⟩
   refine SP.nil (ST.blockN (ST.thenN (SC.region (SL.U (SU.add rfl rfl oM) (SL.M rfl (SL.nil ?_))))))
   exact ST.again (.slice q' (acc ++ [r]).length d', k + 1, acc ++ [r]) ⟨rfl, rfl, rfl, rfl, rfl, rfl, rfl, trivial⟩ rfl rfl ⟨lN, by dsimp only; rw [htake, hpc]; exact hacc.append ⟨hcR, trivial⟩⟩ lN
  ·refine SC.skip (ST.blockN (ST.thenN (SC.region (SL.U (SU.add rfl rfl oM) (SL.M rfl (SL.nil ?_))))))
   exact ST.again (ov, k + 1, acc) ⟨rfl, rfl, rfl, rfl, rfl, rfl, rfl, trivial⟩ rfl rfl ⟨lN, by dsimp only; rw [htake, hpc]; simpa using hacc⟩ lN
 ·have hkk : tl.take k = tl := List.take_of_length_le oM
  rw [hkk] at hacc
  refine SC.exit (ST.thenX (ST.thenX (ST.blockX (ST.thenN (SC.seq (SC.region (SL.freezeRowK fun g2 hle2 hs2 => ?_)))))))
  obtain ⟨q2, d2, rfl⟩ := hs2.form
  refine SL.K (SQ.loadVarK 0 isAgg27 sizeOf27 rfl rfl rfl) (SL.on (SO.storeAllK 1 sizeOf27 rfl rfl rfl rfl rfl (by exact ⟨rfl, trivial⟩)) ?_)
  rintro _ _ _ ⟨rfl, rfl⟩
  refine SL.nil (ST.thenN (SC.ret ?_))
  exact ST.retCD 1 s (.inl rfl) results70 rfl isAgg27 sizeOf27 rfl rfl (.cons _ (.cons _ (.refl _))) ⟨rfl, hle2, _, acc, rfl, hs2, hacc⟩
theorem only_spec (E : World) (g : PH) (s : Own) (v pv : Value) (tl : List Cl) (p : Cl → Bool) (hv : Tab g v tl) (hnd : (tl.map Cl.id).Nodup) (hf : Fits tl) (hp : PredOk E pv p tl g) :
  Ctr Tryz.prog E 70 #[v, pv] g s (fun r g' s' => s = s' ∧ Le g g' ∧ ∃ u, r = .agg #[u] ∧ Cells g' u (tl.filter p)) :=
 (only_gen (CellR g) E g s v pv tl p (fun _ _ h => h) hv hnd hf hp).mono fun _ _ _ ⟨h1, h2, u, rs, h3, h4, h5⟩ => ⟨h1, h2, u, h3, rs, h4.sl.mono (mns_le _ _), h5.mono fun _ _ => CellR.mono h2⟩
theorem filter_fits {l : List Cl} (p : Cl → Bool) (h : Fits l) : Fits (l.filter p) :=
 ⟨Nat.lt_of_le_of_lt (List.length_filter_le _ _) h.1, fun c hc => h.2 c (List.mem_filter.1 hc).1⟩
theorem names_spec (E : World) (g : PH) (s : Own) (v pv : Value) (tl : List Cl) (p : Cl → Bool) (hv : Tab g v tl) (hnd : (tl.map Cl.id).Nodup) (hf : Fits tl) (hp : PredOk E pv p tl g) :
  Ctr Tryz.prog E 81 #[v, pv] g s (fun r g' s' => s = s' ∧ Le g g' ∧ Ints g' r ((tl.filter p).map Cl.id)) := by
 have hff := (filter_fits p hf).1
 refine Ctr.of (args := [v, pv]) func81 rfl ntmps81 (Nat.le_of_ble_eq_true rfl) ?_
 refine SC.seq (SC.region (SL.A rfl (SL.nil (ST.thenN (SC.seq (SC.region (SL.A rfl (SL.nil (ST.thenN (SC.seq (SC.seq (SC.region (SL.M rfl (SL.M rfl (SL.W (SO.call call70 rfl (only_spec E g _ v pv tl p hv hnd hf hp)) ?_)))))))))))))))
 rintro _ g1 _ ⟨rfl, hle, u, rfl, rs, hrs, hall⟩
 obtain ⟨q, d, rfl⟩ := hrs.form
 have hlen := hall.length
 refine SL.U (SU.field underlying27 rfl isAgg25 rfl rfl) (SL.U (SU.lenN underlying25 rfl) (SL.M rfl (SL.nil (ST.thenN (SC.block ?_)))))
 have hids := all2_ids hall
 refine SC.nilRow 3 1 ?_
 refine SC.loop (ι := Value × Nat) (fun i => [(5, i.1), (11, .slice q rs.length d), (12, vi rs.length), (13, vi i.2)]) (fun _ => g1)
  (fun i => rowA encInt 3 i.1 ((rs.take i.2).map Rc.id) :: s)
  (fun i => i.2 ≤ rs.length) (fun i => rs.length - i.2) (.slice none 0 0, 0)
  ⟨rfl, rfl, rfl, rfl, trivial⟩ rfl rfl (Nat.zero_le _) ?_
 rintro ⟨ov, k⟩ hk
 dsimp only at hk ⊢
 refine SC.seq (SC.region (SL.U (SU.lss rfl rfl) (SL.nil (ST.thenN (SC.seq ?_)))))
 refine SC.ifP rfl (fun hlt => ?_) (fun hlt => ?_)
 ·have hkr : k < rs.length := oM
  have hb1 := hrs.based oM
  have htake : (rs.take (k + 1)).map Rc.id = (rs.take k).map Rc.id ++ [rs[k].id] := by rw [List.take_succ_eq_append_getElem hkr, List.map_append]; rfl
  have hgx : rs[((k : Nat) : Int).toNat]? = some rs[k] := List.getElem?_eq_getElem hkr
  have htl : ((rs.take k).map Rc.id).length = k := by simp; omega
  generalize hx : rs[k] = x at *
  refine SC.skip (ST.thenN (SC.seq (SC.block (SC.seq (SC.region (SL.U (SU.indexAddr underlying25 sizeOf51 rfl rfl hb1 oM sL) (SL.K (SQ.elemA isAgg51 sizeOf51 rfl hrs.rd hgx) (SL.W (SO.alloc zeroValue51) ?_))))))))
  rintro _ _ _ ⟨b7, rfl, rfl, rfl⟩
  refine SL.on (SO.storeAllK 0 sizeOf51 rfl rfl rfl rfl rfl (by exact ⟨rfl, rfl, rfl, trivial⟩)) ?_
  rintro _ _ _ ⟨rfl, rfl⟩
  refine SL.nil (ST.thenN (SC.region (SL.M rfl (SL.U (SU.fieldAddr underlying51 rfl sizeOf3 rfl) (SL.K (SQ.load isAgg3 rfl (CellAt.own 0 rfl rfl)) (SL.W (SO.buildSlice sty45 rfl rfl rfl (szs_mk (by exact ⟨rfl, trivial⟩)) dC) ?_))))))
  rintro _ _ _ ⟨b20, rfl, rfl, rfl⟩
  refine SL.W (SO.app1 1 (((rs.take (k + 1)).map Rc.id).flatMap encInt.enc) ((rs.take (k + 1)).map Rc.id).length sty45 rfl rfl rfl rfl rfl ⟨rfl, trivial⟩ (by rw [htake]; simp [encInt]; rfl) (by rw [htake]; simp) lN lN) ?_
  rintro ov' _ _ ⟨rfl, rfl⟩
  refine SL.A rfl (SL.nil (ST.blockN (ST.thenN (SC.region (SL.U (SU.add rfl rfl oM) (SL.M rfl (SL.nil (ST.drop (s' := rowA encInt 3 ov' ((rs.take (k + 1)).map Rc.id) :: s) (.cons _ (.refl _)) ?_))))))))
  exact ST.again (ov', k + 1) ⟨rfl, rfl, rfl, rfl, trivial⟩ rfl rfl lN lN
 ·refine SC.exit (ST.thenX (ST.thenX (ST.blockX (ST.thenN (SC.seq (SC.region (SL.M rfl (SL.A rfl (SL.nil (ST.thenN (SC.ret ?_)))))))))))
  have hkk : rs.take k = rs := List.take_of_length_le oM
  rw [hkk]
  refine ST.freezeRow fun g2 h2 hrow => ?_
  exact ST.ret1 (.inl rfl) results81 rfl ⟨rfl, hle.trans h2, by rw [hids]; exact hrow⟩
def PredS (E : World) (pv : Value) (q : Side → Bool) (g : PH) : Prop :=
 ∀ g' s a, Le g g' → CallV Tryz.prog E pv [.agg (encSide.enc a).toArray] g' s (fun x g'' s'' => x = vb (q a) ∧ g' = g'' ∧ s = s'')
theorem indexFuncS (E : World) (g : PH) (s : Own) (v : Value) (kn : FuncId) (kc : Array Value) (l : List Side) (q : Side → Bool) (hv : SlA encSide g v l) (hl : l.length < 1099511627776) (hp : PredS E (.func (.func kn) #[] kc) q g) :
  Ctr Tryz.prog E 136 #[v, .func (.func kn) #[] kc] g s (fun r g' s' => (∃ n : Int, r = vi n ∧ decide (n ≥ 0) = l.any q) ∧ g = g' ∧ s = s') := by
 obtain ⟨p, c, rfl⟩ := hv.form
 refine Ctr.of (args := [.slice p l.length c, .func (.func kn) #[] kc]) func136 rfl ntmps136 (Nat.le_of_ble_eq_true rfl) ?_
 refine SC.seq (SC.region (SL.A rfl (SL.nil (ST.thenN (SC.seq (SC.seq (SC.region (SL.M rfl (SL.U (SU.lenN underlying49 rfl) (SL.M rfl (SL.nil (ST.thenN (SC.block ?_)))))))))))))
 refine SC.loop (ι := Nat) (fun k => [(0, .slice p l.length c), (1, .func (.func kn) #[] kc), (7, vi l.length), (8, vi k)]) (fun _ => g) (fun _ => s) (fun k => k ≤ l.length ∧ (l.take k).any q = false) (fun k => l.length - k) 0
  ⟨rfl, rfl, rfl, rfl, trivial⟩ rfl rfl ⟨Nat.zero_le _, by simp⟩ ?_
 rintro k ⟨hk, hno⟩
 refine SC.seq (SC.region (SL.U (SU.lss rfl rfl) (SL.nil (ST.thenN (SC.seq ?_)))))
 refine SC.ifP rfl (fun hlt => ?_) (fun hlt => ?_)
 ·have hkl : k < l.length := oM
  have hb1 := hv.based oM
  refine SC.skip (ST.thenN (SC.seq (SC.block (SC.seq (SC.region (SL.M rfl (SL.A rfl (SL.nil (ST.thenN (SC.seq (SC.region (SL.M rfl (SL.M rfl (SL.M rfl (SL.U (SU.indexAddr underlying49 sizeOf55 rfl rfl hb1 oM sL) ?_)))))))))))))))
  refine SL.q (SQ.elemA isAgg55 sizeOf55 rfl hv.rd (List.getElem?_eq_getElem hkl)) dC ?_
  refine SL.W (SO.callV rfl rfl (hp g _ l[k] (Le.refl g))) ?_
  rintro _ _ _ ⟨rfl, rfl, rfl⟩
  refine SL.nil (ST.thenN ?_)
  refine SC.ifB rfl (fun hq => ?_) (fun hq => ?_)
  ·refine SC.seq (SC.region (SL.M rfl (SL.A rfl (SL.nil (ST.thenN (SC.ret (ST.blockR (ST.thenR (ST.thenR (ST.blockR (ST.thenR ?_)))))))))))
   have hany : l.any q = true := List.any_eq_true.2 ⟨l[k], List.getElem_mem hkl, hq⟩
   exact ST.ret1 (.inl rfl) results136 rfl ⟨⟨k, rfl, by rw [hany]; simp⟩, rfl, rfl⟩
  ·refine SC.skip (ST.blockN (ST.thenN (SC.region (SL.U (SU.add rfl rfl oM) (SL.M rfl (SL.nil ?_))))))
   exact ST.again (k + 1) ⟨rfl, rfl, rfl, rfl, trivial⟩ rfl rfl ⟨oM, by rw [List.take_succ_eq_append_getElem hkl, List.any_append, hno]; simpa using hq⟩ oM
 ·refine SC.exit (ST.thenX (ST.thenX (ST.blockX (ST.thenN (SC.seq (SC.region (SL.A rfl (SL.nil (ST.thenN (SC.ret ?_))))))))))
  have hkk : l.take k = l := List.take_of_length_le oM
  rw [hkk] at hno
  exact ST.ret1 (.inl rfl) results136 rfl ⟨⟨-1, rfl, by rw [hno]; rfl⟩, rfl, rfl⟩
theorem containsFuncS (E : World) (g : PH) (s : Own) (v : Value) (kn : FuncId) (kc : Array Value) (l : List Side) (q : Side → Bool) (hv : SlA encSide g v l) (hl : l.length < 1099511627776) (hp : PredS E (.func (.func kn) #[] kc) q g) :
  Ctr Tryz.prog E 110 #[v, .func (.func kn) #[] kc] g s (fun r g' s' => r = vb (l.any q) ∧ g = g' ∧ s = s') := by
 refine Ctr.of (args := [v, .func (.func kn) #[] kc]) func110 rfl ntmps110 (Nat.le_of_ble_eq_true rfl) ?_
 refine SC.seq (SC.region (SL.A rfl (SL.nil (ST.thenN (SC.seq (SC.region (SL.M rfl (SL.M rfl (SL.W (SO.call call136 rfl (indexFuncS E g _ v kn kc l q hv hl hp)) ?_)))))))))
 rintro _ _ _ ⟨⟨n, rfl, hn⟩, rfl, rfl⟩
 refine SL.U (SU.geq rfl rfl) (SL.A rfl (SL.nil (ST.thenN (SC.ret ?_))))
 exact ST.ret1 (.inl rfl) results110 rfl ⟨by rw [hn], rfl, rfl⟩
def hasC (c : Cl) (id : Int) : Bool := c.sides.any fun x => decide (x.cell = id)
theorem hasP (E : World) (g : PH) (b : Nat) (id : Int) (hb : g b = some (.cells #[vi id] 3 (0, 0))) : PredS E (.func (.func 111) #[] #[pp b 0]) (fun x => decide (x.cell = id)) g := by
 intro g s a hle
 refine CallV.mk (cap := [pp b 0]) call111 ?_
 have hb' := hle _ _ hb
 refine Ctr.of (args := [.agg (encSide.enc a).toArray, pp b 0]) func111 rfl ntmps111 (Nat.le_of_ble_eq_true rfl) ?_
 refine SC.seq (SC.region (SL.W (SO.box rfl) ?_))
 rintro _ _ _ ⟨b2, rfl, rfl, rfl⟩
 refine SL.A rfl (SL.nil (ST.thenN (SC.seq (SC.region (SL.U (SU.fieldAddr underlying55 rfl sizeOf3 rfl) (SL.K (SQ.load isAgg3 rfl (CellAt.own 0 rfl rfl)) (SL.K (SQ.load isAgg3 rfl (CellAt.known hb' rfl)) (SL.U (SU.eql rfl rfl) (SL.A rfl (SL.nil (ST.thenN (SC.ret (ST.drop (s' := s) (.cons _ (.refl _)) ?_)))))))))))))
 exact ST.ret1 (.inl rfl) results111 rfl ⟨rfl, rfl, rfl⟩
theorem has_spec (E : World) (g : PH) (s : Own) (c : Cl) (r : Rc) (id : Int) (hc : CellR g c r) (hl : c.sides.length < 1099511627776) :
  Ctr Tryz.prog E 84 #[rcv r, vi id] g s (fun r g' s' => r = vb (hasC c id) ∧ g = g' ∧ s = s') := by
 refine Ctr.of (args := [rcv r, vi id]) func84 rfl ntmps84 (Nat.le_of_ble_eq_true rfl) ?_
 refine SC.seq (SC.region (SL.W (SO.box rfl) ?_))
 rintro _ _ _ ⟨b2, rfl, rfl, rfl⟩
 refine SL.W (SO.box rfl) ?_
 rintro _ _ _ ⟨b3, rfl, rfl, rfl⟩
 refine SL.freeze fun g1 hle hb => ?_
 refine SL.A rfl (SL.nil (ST.thenN (SC.seq (SC.region (SL.U (SU.fieldAddr underlying51 rfl sizeOf49 rfl) (SL.K (SQ.load isAgg49 rfl (CellAt.own 0 rfl rfl)) (SL.U (SU.mkFunc rfl) (SL.W (SO.call call110 rfl (containsFuncS E g1 _ _ 111 #[pp b3 0] c.sides _ (hc.2.2.mono hle) hl (hasP E g1 b3 id hb))) ?_))))))))
 rintro _ _ _ ⟨rfl, rfl, rfl⟩
 refine SL.A rfl (SL.nil (ST.thenN (SC.ret ?_)))
 refine ST.drop (s' := s) (.cons _ (.refl _)) (ST.less hle ?_)
 exact ST.ret1 (.inl rfl) results84 rfl ⟨rfl, rfl, rfl⟩
theorem aboveP (E : World) (g : PH) (b : Nat) (id : Int) (tl : List Cl) (hf : Fits tl) (hb : g b = some (.cells #[vi id] 3 (0, 0))) : PredOk E (.func (.func 83) #[] #[pp b 0]) (fun c => hasC c id) tl g := by
 intro g s c r hle hm hc
 refine CallV.mk (cap := [pp b 0]) call83 ?_
 have hb' := hle _ _ hb
 refine Ctr.of (args := [rcv r, pp b 0]) func83 rfl ntmps83 (Nat.le_of_ble_eq_true rfl) ?_
 refine SC.seq (SC.region (SL.W (SO.box rfl) ?_))
 rintro _ _ _ ⟨b2, rfl, rfl, rfl⟩
 refine SL.A rfl (SL.nil (ST.thenN (SC.seq (SC.region (SL.K (SQ.loadVarK 0 isAgg51 sizeOf51 rfl rfl rfl) (SL.K (SQ.load isAgg3 rfl (CellAt.known hb' rfl)) (SL.W (SO.call call84 rfl (has_spec E g _ c r id hc (hf.2 c hm))) ?_)))))))
 rintro _ _ _ ⟨rfl, rfl, rfl⟩
 refine SL.A rfl (SL.nil (ST.thenN (SC.ret (ST.drop (s' := s) (.cons _ (.refl _)) ?_))))
 exact ST.ret1 (.inl rfl) results83 rfl ⟨rfl, rfl, rfl⟩
def aboveC (l : List Cl) (id : Int) : List Int := ((tabC l).filter fun c => hasC c id).map Cl.id
theorem above_spec (E : World) (g : PH) (s : Own) (v : Value) (l : List Cl) (id : Int) (hv : Cells g v l) (hf : Fits l) :
  Ctr Tryz.prog E 37 #[.agg #[v], vi id] g s (fun r g' s' => s = s' ∧ Le g g' ∧ Ints g' r (aboveC l id)) := by
 refine Ctr.of (args := [.agg #[v], vi id]) func37 rfl ntmps37 (Nat.le_of_ble_eq_true rfl) ?_
 refine SC.seq (SC.region (SL.W (SO.box rfl) ?_))
 rintro _ _ _ ⟨b2, rfl, rfl, rfl⟩
 refine SL.W (SO.box rfl) ?_
 rintro _ _ _ ⟨b3, rfl, rfl, rfl⟩
 refine SL.freeze fun g1 hle hb => ?_
 refine SL.A rfl (SL.nil (ST.thenN (SC.seq (SC.region (SL.K (SQ.loadVarK 0 isAgg27 sizeOf27 rfl rfl rfl) (SL.W (SO.call call50 rfl (of_spec E g1 _ v l (hv.mono hle) hf)) ?_))))))
 rintro tv g2 _ ⟨rfl, hle2, ht⟩
 refine SL.U (SU.mkFunc rfl) (SL.W (SO.call call81 rfl (names_spec E g2 _ tv _ _ _ ht (tabC_nodup l) (tabC_fits hf) (aboveP E g2 b3 id _ (tabC_fits hf) (hle2 _ _ hb)))) ?_)
 rintro r8 g3 _ ⟨rfl, hle3, hr⟩
 refine SL.A rfl (SL.nil (ST.thenN (SC.ret (ST.drop (s' := s) (.cons _ (.refl _)) ?_))))
 exact ST.ret1 (.inl rfl) results37 rfl ⟨rfl, hle.trans (hle2.trans hle3), hr⟩
theorem Tryz.mty96 : MTy Tryz.prog 96 3 4 (vb false) := ⟨underlying96, underlying3, zeroValue4⟩
def zeroR : Rc := ⟨0, 0, none, 0, 0⟩
def zeroC : Cl := ⟨0, 0, []⟩
theorem all2_findG {R : Cl → Rc → Prop} (hR : ∀ c r, R c r → r.id = c.id) {tl : List Cl} {rs : List Rc} (h : All2 R tl rs) (k : Int) : (tl.find? (fun c => decide (c.id = k)) = none ∧ mget (rs.map rcPair) k = none) ∨ ∃ c r, tl.find? (fun c => decide (c.id = k)) = some c ∧ mget (rs.map rcPair) k = some (rcv r) ∧ R c r := by
 induction tl generalizing rs with
 | nil => cases rs with | nil => exact .inl ⟨rfl, rfl⟩ | cons _ _ => exact h.elim
 | cons c t ih =>
  cases rs with
  | nil => exact h.elim
  | cons r rs =>
   simp only [List.map_cons, rcPair, mget_cons, List.find?_cons]
   by_cases hk : c.id = k
   ·right
    have : k = r.id := by rw [hR _ _ h.1, hk]
    exact ⟨c, r, by simp [hk], by rw [if_pos this], h.1⟩
   ·have hk2 : ¬ k = r.id := by rw [hR _ _ h.1]; exact fun e => hk e.symm
    simp only [hk, decide_false, if_neg hk2]
    exact ih h.2
theorem all2_find {g : PH} {tl : List Cl} {rs : List Rc} (h : All2 (CellR g) tl rs) (k : Int) : (tl.find? (fun c => decide (c.id = k)) = none ∧ mget (rs.map rcPair) k = none) ∨ ∃ c r, tl.find? (fun c => decide (c.id = k)) = some c ∧ mget (rs.map rcPair) k = some (rcv r) ∧ CellR g c r := all2_findG (fun _ _ h => h.1) h k
theorem all2_look {g : PH} {tl : List Cl} {rs : List Rc} (h : All2 (CellR g) tl rs) (hw : ∀ g, CellR g zeroC zeroR) (k : Int) : ∃ r, (mget (rs.map rcPair) k).getD (.agg #[vi 0, vi 0, .slice none 0 0]) = rcv r ∧ (mget (rs.map rcPair) k).isSome = (tl.find? (fun c => decide (c.id = k))).isSome ∧ CellR g ((tl.find? (fun c => decide (c.id = k))).getD zeroC) r := by
 rcases all2_find h k with ⟨h1, h2⟩ | ⟨c, r, h1, h2, h3⟩
 ·exact ⟨zeroR, by rw [h2]; rfl, by rw [h1, h2]; rfl, by rw [h1]; exact hw g⟩
 ·exact ⟨r, by rw [h2]; rfl, by rw [h1, h2]; rfl, by rw [h1]; exact h3⟩
theorem zeroCR (g : PH) : CellR g zeroC zeroR := ⟨rfl, rfl, Sl.nil g _⟩
theorem zeroCK (g : PH) : CellK g zeroC zeroR := ⟨rfl, rfl, RK.nil _ _ g⟩
theorem all2_lookK {g : PH} {tl : List Cl} {rs : List Rc} (h : All2 (CellK g) tl rs) (k : Int) : ∃ r, (mget (rs.map rcPair) k).getD (.agg #[vi 0, vi 0, .slice none 0 0]) = rcv r ∧ (mget (rs.map rcPair) k).isSome = (tl.find? (fun c => decide (c.id = k))).isSome ∧ CellK g ((tl.find? (fun c => decide (c.id = k))).getD zeroC) r := by
 rcases all2_findG (fun _ _ h => h.1) h k with ⟨h1, h2⟩ | ⟨c, r, h1, h2, h3⟩
 ·exact ⟨zeroR, by rw [h2]; rfl, by rw [h1, h2]; rfl, by rw [h1]; exact zeroCK g⟩
 ·exact ⟨r, by rw [h2]; rfl, by rw [h1, h2]; rfl, by rw [h1]; exact h3⟩
def findC (l : List Cl) (id : Int) : Option Cl := (tabC l).find? fun c => decide (c.id = id)
theorem find_new (E : World) (g : PH) (s : Own) (v : Value) (l : List Cl) (id : Int) (hv : Cells g v l) (hf : Fits l) :
  Ctr Tryz.prog E 31 #[.agg #[v], vi id] g s (fun r g' s' => s = s' ∧ Le g g' ∧ ∃ x, r = .tuple #[rcv x, vb (findC l id).isSome] ∧ CellK (mns g' g) ((findC l id).getD zeroC) x) := by
 refine Ctr.of (args := [.agg #[v], vi id]) func31 rfl ntmps31 (Nat.le_of_ble_eq_true rfl) ?_
 refine SC.seq (SC.region (SL.W (SO.box rfl) ?_))
 rintro _ _ _ ⟨b2, rfl, rfl, rfl⟩
 refine SL.W (SO.alloc zeroValue51) ?_
 rintro _ _ _ ⟨b4, rfl, rfl, rfl⟩
 refine SL.A rfl (SL.nil (ST.thenN (SC.seq (SC.region (SL.K (SQ.loadVarK 1 isAgg27 sizeOf27 rfl rfl rfl) (SL.W (SO.call call50 rfl (of_new E g _ v l hv hf)) ?_))))))
 rintro tv g1 _ ⟨rfl, hle, ht⟩
 obtain ⟨b, m, iv, rs, rfl, hb, hm, hI, hall⟩ := ht
 obtain ⟨x, hx1, hx2, hx3⟩ := all2_lookK hall id
 refine SL.U (SU.nilCheck rfl) (SL.U (SU.fieldAddr underlying88 rfl sizeOf86 rfl) (SL.K (SQ.load isAgg86 rfl (CellAt.known hb rfl)) (SL.M rfl (SL.K (SQ.eq (v' := .tuple #[rcv x, vb (findC l id).isSome]) (SQ.lookupOk mty86 rfl rfl (MapAt.known hm)) (by rw [hx1, hx2]; rfl)) ?_))))
 refine SL.M rfl (SL.U (SU.extract rfl rfl) (SL.U (SU.extract rfl rfl) (SL.W (SO.alloc zeroValue51) ?_)))
 rintro _ _ _ ⟨b6, rfl, rfl, rfl⟩
 refine SL.on (SO.storeAllK 0 sizeOf51 rfl rfl rfl rfl rfl (by exact ⟨rfl, rfl, rfl, trivial⟩)) ?_
 rintro _ _ _ ⟨rfl, rfl⟩
 refine SL.A rfl (SL.nil (ST.thenN (SC.seq (SC.region (SL.K (SQ.loadVarK 0 isAgg51 sizeOf51 rfl rfl rfl) (SL.M rfl (SL.on (SO.storeAllK 1 sizeOf51 rfl rfl rfl rfl rfl (by exact ⟨rfl, rfl, rfl, trivial⟩)) ?_)))))))
 rintro _ _ _ ⟨rfl, rfl⟩
 refine SL.A rfl (SL.nil (ST.thenN (SC.ret ?_)))
 exact ST.retCD1 1 s (.inl rfl) results31 rfl rfl isAgg51 sizeOf51 rfl rfl (.cons _ (.cons _ (.cons _ (.refl _)))) ⟨rfl, hle, x, rfl, hx3⟩
theorem find_spec (E : World) (g : PH) (s : Own) (v : Value) (l : List Cl) (id : Int) (hv : Cells g v l) (hf : Fits l) :
  Ctr Tryz.prog E 31 #[.agg #[v], vi id] g s (fun r g' s' => s = s' ∧ Le g g' ∧ ∃ x, r = .tuple #[rcv x, vb (findC l id).isSome] ∧ CellR g' ((findC l id).getD zeroC) x) :=
 (find_new E g s v l id hv hf).mono fun _ _ _ ⟨h1, h2, x, h3, h4⟩ => ⟨h1, h2, x, h3, h4.cr (mns_le _ _)⟩
def sideOf (tl : List Cl) (k : Int) : Bool := tl.any fun c => hasC c k
def topsC (l : List Cl) : List Int := ((tabC l).filter fun c => !sideOf (tabC l) c.id).map Cl.id
theorem topsP (E : World) (g : PH) (b m : Nat) (sm : List (Int × Value)) (q : Int → Bool) (tl : List Cl) (hb : g b = some (.cells #[.map (some m)] 96 (0, 0))) (hm : Mp g m sm) (hs : SetI sm q) : PredOk E (.func (.func 82) #[] #[pp b 0]) (fun c => !q c.id) tl g := by
 intro g s c r hle hmem hc
 refine CallV.mk (cap := [pp b 0]) call82 ?_
 have hb' := hle _ _ hb
 have hm' := hm.mono hle
 refine Ctr.of (args := [rcv r, pp b 0]) func82 rfl ntmps82 (Nat.le_of_ble_eq_true rfl) ?_
 refine SC.seq (SC.region (SL.W (SO.box rfl) ?_))
 rintro _ _ _ ⟨b2, rfl, rfl, rfl⟩
 refine SL.A rfl (SL.nil (ST.thenN (SC.seq (SC.region (SL.K (SQ.load isAgg96 rfl (CellAt.known hb' rfl)) (SL.U (SU.fieldAddr underlying51 rfl sizeOf3 rfl) (SL.K (SQ.load isAgg3 rfl (CellAt.own 0 rfl rfl)) (SL.K (SQ.eq (v' := vb (q c.id)) (SQ.lookup mty96 rfl rfl (MapAt.known hm')) (by rw [← hc.1]; exact hs.get _)) ?_))))))))
 refine SL.U (SU.not rfl) (SL.A rfl (SL.nil (ST.thenN (SC.ret (ST.drop (s' := s) (.cons _ (.refl _)) ?_)))))
 exact ST.ret1 (.inl rfl) results82 rfl ⟨rfl, rfl, rfl⟩
theorem all2_mem {g : PH} {tl : List Cl} {rs : List Rc} (h : All2 (CellR g) tl rs) {r : Rc} (hr : r ∈ rs) : ∃ c, c ∈ tl ∧ CellR g c r := by
 obtain ⟨i, hi, rfl⟩ := List.getElem_of_mem hr
 have hl := h.length
 have hi' : i < tl.length := oM
 exact ⟨tl[i], List.getElem_mem hi', h.get (List.getElem?_eq_getElem hi') (List.getElem?_eq_getElem hi)⟩
theorem nodup_id {tl : List Cl} (h : (tl.map Cl.id).Nodup) {a b : Cl} (ha : a ∈ tl) (hb : b ∈ tl) (e : a.id = b.id) : a = b := by
 induction tl with
 | nil => simp at ha
 | cons c t ih =>
  simp only [List.map_cons, List.nodup_cons] at h
  rcases List.mem_cons.1 ha with rfl | ha' <;> rcases List.mem_cons.1 hb with rfl | hb'
  ·rfl
  ·exact absurd (List.mem_map.2 ⟨b, hb', e.symm⟩) h.1
  ·exact absurd (List.mem_map.2 ⟨a, ha', e⟩) h.1
  ·exact ih h.2 ha' hb'
theorem perm_of_ids {vc tl : List Cl} (hs : ∀ c ∈ vc, c ∈ tl) (hp : (vc.map Cl.id).Perm (tl.map Cl.id)) (hn : (tl.map Cl.id).Nodup) : vc.Perm tl := by
 have hn2 : (vc.map Cl.id).Nodup := hp.symm.nodup hn
 refine (List.perm_ext_iff_of_nodup (List.Pairwise.of_map Cl.id (fun a b hab e => hab (by rw [e])) hn2) (List.Pairwise.of_map Cl.id (fun a b hab e => hab (by rw [e])) hn)).2 fun c => ⟨hs c, fun hc => ?_⟩
 obtain ⟨c', h1, h2⟩ := List.mem_map.1 (hp.symm.subset (List.mem_map.2 ⟨c, hc, rfl⟩))
 rw [← nodup_id hn (hs c' h1) hc h2]
 exact h1
theorem visited_perm {g : PH} {vl : List (Int × Value)} {rs : List Rc} {vc tl : List Cl} (hv : vl.map Prod.fst = vc.map Cl.id) (hs : ∀ c ∈ vc, c ∈ tl) (hn : (tl.map Cl.id).Nodup) (hall : All2 (CellR g) tl rs) (hp : vl.Perm (rs.map rcPair)) : vc.Perm tl := by
 refine perm_of_ids hs ?_ hn
 have h1 := hp.map Prod.fst
 rw [hv, List.map_map] at h1
 rw [all2_ids hall]
 exact h1
theorem sideOf_perm {vc tl : List Cl} (h : vc.Perm tl) (k : Int) : sideOf vc k = sideOf tl k := by
 unfold sideOf
 rw [Bool.eq_iff_iff, List.any_eq_true, List.any_eq_true]
 exact ⟨fun ⟨x, h1, h2⟩ => ⟨x, h.subset h1, h2⟩, fun ⟨x, h1, h2⟩ => ⟨x, h.symm.subset h1, h2⟩⟩
theorem tops_spec (E : World) (g : PH) (s : Own) (v : Value) (l : List Cl) (hv : Cells g v l) (hf : Fits l) :
  Ctr Tryz.prog E 36 #[.agg #[v]] g s (fun r g' s' => s = s' ∧ Le g g' ∧ Ints g' r (topsC l)) := by
 have hft := tabC_fits hf
 refine Ctr.of (args := [.agg #[v]]) func36 rfl ntmps36 (Nat.le_of_ble_eq_true rfl) ?_
 refine SC.seq (SC.region (SL.W (SO.box rfl) ?_))
 rintro _ _ _ ⟨b1, rfl, rfl, rfl⟩
 refine SL.A rfl (SL.nil (ST.thenN (SC.seq (SC.region (SL.K (SQ.loadVarK 0 isAgg27 sizeOf27 rfl rfl rfl) (SL.W (SO.call call50 rfl (of_spec E g _ v l hv hf)) ?_))))))
 rintro tv g1 _ ⟨rfl, hle, ht⟩
 have htab := ht
 obtain ⟨b, m, iv, rs, rfl, hb, hm, hI, hall⟩ := ht
 obtain ⟨es, clk, hes, hmi⟩ := hm
 refine SL.A rfl (SL.nil (ST.thenN (SC.seq (SC.region (SL.W (SO.mkMap) ?_)))))
 rintro _ _ _ ⟨sm, rfl, rfl, rfl⟩
 refine SL.W (SO.alloc zeroValue96) ?_
 rintro _ _ _ ⟨b4, rfl, rfl, rfl⟩
 refine SL.on (SO.storeAllK 0 sizeOf96 rfl rfl rfl rfl rfl (by exact ⟨rfl, trivial⟩)) ?_
 rintro _ _ _ ⟨rfl, rfl⟩
 refine SL.nil (ST.thenN (SC.seq (SC.seq (SC.region (SL.M rfl (SL.U (SU.nilCheck rfl) (SL.U (SU.fieldAddr underlying88 rfl sizeOf86 rfl) (SL.K (SQ.load isAgg86 rfl (CellAt.known hb rfl)) (SL.W (SO.range underlying86 rfl hes) ?_)))))))))
 rintro _ _ _ ⟨it, rfl, rfl, rfl⟩
 refine SL.nil (ST.thenN (SC.block ?_))
 refine SC.loop (ι := List MapEntry × List (Int × Value) × List Cl × List (Int × Value)) (fun _ => [(3, pp b 0), (4, pp b4 0), (16, pp it 0)]) (fun _ => g1)
  (fun i => iter it m es clk i.1 :: pt b4 (.cells #[.map (some sm)] 96 (0, 0)) :: mp sm i.2.2.2 :: pt b1 (.cells #[v] 27 (0, 0)) :: s)
  (fun i => RVis (rs.map rcPair) es i.1 i.2.1 ∧ SetI i.2.2.2 (sideOf i.2.2.1) ∧ (∀ c ∈ i.2.2.1, c ∈ tabC l) ∧ i.2.1.map Prod.fst = i.2.2.1.map Cl.id) (fun i => rs.length - i.2.1.length)
  ([], [], [], []) ⟨rfl, rfl, rfl, trivial⟩ rfl rfl ⟨RVis.nil _ _, SetI.nil, by simp, rfl⟩ ?_
 rintro ⟨vis, vl, vc, sl⟩ ⟨hrv, hset, hvs, hvl⟩
 dsimp only at hrv hset hvs hvl ⊢
 have hvle := hrv.len hmi
 simp only [List.length_map] at hvle
 refine SC.seq (SC.region (SL.W (SO.nextP 0 rfl rfl hes hmi hrv) ?_))
 rintro _ _ _ ⟨rfl, hcase⟩
 rcases hcase with ⟨rfl, rfl, hperm⟩ | ⟨e, pr, he, hp1, hk1, hv1, hrv2, rfl, rfl⟩
 ·refine SL.U (SU.extract rfl rfl) (SL.nil (ST.thenN (SC.seq (SC.condF rfl (SC.exit (ST.thenX (ST.thenX (ST.blockX (ST.thenN (SC.seq (SC.region (SL.drop (.cons _ (.refl _)) (SL.freeze fun g2 h2 hb4 => ?_)))))))))))))
  refine SL.freezeMap fun g3 h3 hsm => ?_
  refine SL.M rfl (SL.U (SU.mkFunc rfl) (SL.W (SO.call call81 rfl (names_spec E g3 _ _ _ _ _ (htab.mono (h2.trans h3)) (tabC_nodup l) hft (topsP E g3 b4 sm sl (sideOf (tabC l)) _ (h3 _ _ hb4) hsm (hset.congr fun k => sideOf_perm (visited_perm hvl hvs (tabC_nodup l) hall hperm) k)))) ?_))
  rintro r34 g4 _ ⟨rfl, hle4, hr⟩
  refine SL.A rfl (SL.nil (ST.thenN (SC.ret (ST.drop (s' := s) (.cons _ (.refl _)) ?_))))
  exact ST.ret1 (.inl rfl) results36 rfl ⟨rfl, hle.trans (h2.trans (h3.trans hle4)), hr⟩
 ·obtain ⟨x, hx, rfl⟩ := List.mem_map.1 hp1
  obtain ⟨cx, hcm, hcx⟩ := all2_mem hall hx
  have hsl : cx.sides.length < 1099511627776 := hft.2 cx hcm
  obtain ⟨xi, xd, xp, xn, xc⟩ := x
  have hxs := hcx.2.2
  have hxn : xn = cx.sides.length := Sl.slen hxs
  dsimp only at hxs
  subst hxn
  refine SL.U (SU.extract rfl rfl) (SL.nil (ST.thenN (SC.seq (SC.condT rfl (SC.skip (ST.thenN (SC.block (SC.seq (SC.region (SL.K (SQ.entryP 0 rfl rfl hes hmi he hk1 hv1) (SL.U (SU.extract rfl rfl) (SL.W (SO.alloc zeroValue51) ?_))))))))))))
  rintro _ _ _ ⟨b6, rfl, rfl, rfl⟩
  refine SL.on (SO.storeAllK 0 sizeOf51 rfl rfl rfl rfl rfl (by exact ⟨rfl, rfl, rfl, trivial⟩)) ?_
  rintro _ _ _ ⟨rfl, rfl⟩
  refine SL.nil (ST.thenN (SC.seq (SC.region (SL.U (SU.fieldAddr underlying51 rfl sizeOf49 rfl) (SL.K (SQ.load isAgg49 rfl (CellAt.own 0 rfl rfl)) (SL.U (SU.lenN underlying49 rfl) (SL.M rfl (SL.nil (ST.thenN (SC.block (SC.drop (s' := iter it m es clk (vis ++ [e]) :: pt b4 (.cells #[.map (some sm)] 96 (0, 0)) :: mp sm sl :: pt b1 (.cells #[v] 27 (0, 0)) :: s) (.cons _ (.refl _)) ?_)))))))))))
  refine SC.loop (ι := Nat × List (Int × Value)) (fun i => [(3, pp b 0), (4, pp b4 0), (16, pp it 0), (22, .slice xp cx.sides.length xc), (23, vi cx.sides.length), (24, vi i.1)]) (fun _ => g1)
   (fun i => iter it m es clk (vis ++ [e]) :: pt b4 (.cells #[.map (some sm)] 96 (0, 0)) :: mp sm i.2 :: pt b1 (.cells #[v] 27 (0, 0)) :: s)
   (fun i => i.1 ≤ cx.sides.length ∧ SetI i.2 (fun k => (cx.sides.take i.1).any (fun y => decide (y.cell = k)) || sideOf vc k)) (fun i => cx.sides.length - i.1)
   (0, sl) ⟨rfl, rfl, rfl, rfl, rfl, rfl, trivial⟩ rfl (by rfl) ⟨Nat.zero_le _, hset.congr fun k => by simp⟩ ?_
  rintro ⟨j, sj⟩ ⟨hj, hsj⟩
  dsimp only at hj hsj ⊢
  refine SC.seq (SC.region (SL.U (SU.lss rfl rfl) (SL.nil (ST.thenN (SC.seq ?_)))))
  refine SC.ifP rfl (fun hlt => ?_) (fun hlt => ?_)
  ·have hjl : j < cx.sides.length := oM
   have hb1 := hxs.based oM
   refine SC.skip (ST.thenN (SC.seq (SC.block (SC.seq (SC.region (SL.U (SU.indexAddr underlying49 sizeOf55 rfl rfl hb1 oM sL) ?_))))))
   refine SL.q (SQ.elemA isAgg55 sizeOf55 rfl hxs.rd (List.getElem?_eq_getElem hjl)) dC ?_
   refine SL.W (SO.alloc zeroValue55) ?_
   rintro _ _ _ ⟨b8, rfl, rfl, rfl⟩
   refine SL.on (SO.storeAllK 0 sizeOf55 rfl rfl rfl rfl rfl (by exact ⟨rfl, rfl, trivial⟩)) ?_
   rintro _ _ _ ⟨rfl, rfl⟩
   refine SL.nil (ST.thenN (SC.region (SL.K (SQ.load isAgg96 rfl (CellAt.own 2 rfl rfl)) (SL.U (SU.fieldAddr underlying55 rfl sizeOf3 rfl) (SL.K (SQ.load isAgg3 rfl (CellAt.own 0 rfl rfl)) (SL.on (SO.mapUpdate 3 mty96 rfl rfl rfl rfl) ?_))))))
   rintro _ _ _ ⟨rfl, rfl⟩
   refine SL.nil (ST.blockN (ST.thenN (SC.region (SL.U (SU.add rfl rfl oM) (SL.M rfl (SL.nil (ST.drop (s' := iter it m es clk (vis ++ [e]) :: pt b4 (.cells #[.map (some sm)] 96 (0, 0)) :: mp sm (mput sj cx.sides[j].cell (vb true)) :: pt b1 (.cells #[v] 27 (0, 0)) :: s) (.cons _ (.refl _)) ?_)))))))
   exact ST.again (j + 1, mput sj cx.sides[j].cell (vb true)) ⟨rfl, rfl, rfl, rfl, rfl, rfl, trivial⟩ rfl rfl ⟨lN, (hsj.put _).congr fun k => by
    rw [List.take_succ_eq_append_getElem hjl, List.any_append]
    simp [Bool.or_comm, Bool.or_left_comm, Bool.or_assoc, eq_comm]⟩ lN
  ·refine SC.exit (ST.thenX (ST.thenX (ST.blockX (ST.blockN ?_))))
   have hjj : cx.sides.take j = cx.sides := List.take_of_length_le oM
   rw [hjj] at hsj
   exact ST.again (vis ++ [e], vl ++ [rcPair ⟨xi, xd, xp, cx.sides.length, xc⟩], vc ++ [cx], sj) ⟨rfl, rfl, rfl, trivial⟩ rfl rfl ⟨hrv2, hsj.congr fun k => by simp [sideOf, hasC, Bool.or_comm], fun c hc => by
    rcases List.mem_append.1 hc with h | h
    ·exact hvs c h
    ·simp at h; rw [h]; exact hcm, by rw [List.map_append, List.map_append, hvl]; simp [rcPair]; exact hcx.1⟩ (by
    have := hrv2.len hmi
    simp only [List.length_map, List.length_append, List.length_singleton] at this ⊢
    omega)
def eulC (l : List Cl) : Int := ((tabC l).map fun c => if c.dim.tmod 2 = 0 then 1 else -1).sum
theorem eul_bound (l : List Cl) : (l.map fun c => if c.dim.tmod 2 = 0 then (1 : Int) else -1).sum ≤ l.length ∧ -(l.length : Int) ≤ (l.map fun c => if c.dim.tmod 2 = 0 then (1 : Int) else -1).sum := by
 induction l with
 | nil => simp
 | cons c t ih =>
  simp only [List.map_cons, List.sum_cons, List.length_cons]
  split <;> omega
theorem perm_sum {l m : List Int} (h : l.Perm m) : l.sum = m.sum := by
 induction h with
 | nil => rfl
 | cons x _ ih => simp [ih]
 | swap x y l => simp; omega
 | trans _ _ h1 h2 => exact h1.trans h2
theorem get_vi {f : Fr} {t : Nat} {a b : Int} (h : get? f t = some (vi a)) (e : a = b) : get? f t = some (vi b) := e ▸ h
theorem euler_spec (E : World) (g : PH) (s : Own) (v : Value) (l : List Cl) (hv : Cells g v l) (hf : Fits l) :
  Ctr Tryz.prog E 19 #[.agg #[v]] g s (fun r g' s' => r = vi (eulC l) ∧ g = g' ∧ s = s') := by
 have hft := tabC_fits hf
 have hfl := hft.1
 refine Ctr.of (args := [.agg #[v]]) func19 rfl ntmps19 (Nat.le_of_ble_eq_true rfl) ?_
 refine SC.seq (SC.region (SL.W (SO.box rfl) ?_))
 rintro _ _ _ ⟨b1, rfl, rfl, rfl⟩
 refine SL.A rfl (SL.nil (ST.thenN (SC.seq (SC.region (SL.A rfl (SL.nil (ST.thenN (SC.seq (SC.seq (SC.region (SL.K (SQ.loadVarK 0 isAgg27 sizeOf27 rfl rfl rfl) (SL.W (SO.call call50 rfl (of_spec E g _ v l hv hf)) ?_))))))))))))
 rintro tv g1 _ ⟨rfl, hle, ht⟩
 have htab := ht
 obtain ⟨b, m, iv, rs, rfl, hb, hm, hI, hall⟩ := ht
 obtain ⟨es, clk, hes, hmi⟩ := hm
 refine SL.U (SU.nilCheck rfl) (SL.U (SU.fieldAddr underlying88 rfl sizeOf86 rfl) (SL.K (SQ.load isAgg86 rfl (CellAt.known hb rfl)) (SL.W (SO.range underlying86 rfl hes) ?_)))
 rintro _ _ _ ⟨it, rfl, rfl, rfl⟩
 refine SL.nil (ST.thenN (SC.block ?_))
 have hlen := hall.length
 refine SC.loop (ι := List MapEntry × List (Int × Value) × List Cl) (fun i => [(3, vi (i.2.2.map fun c => if c.dim.tmod 2 = 0 then (1 : Int) else -1).sum), (11, pp it 0)]) (fun _ => g1)
  (fun i => iter it m es clk i.1 :: pt b1 (.cells #[v] 27 (0, 0)) :: s)
  (fun i => RVis (rs.map rcPair) es i.1 i.2.1 ∧ (∀ c ∈ i.2.2, c ∈ tabC l) ∧ i.2.1.map Prod.fst = i.2.2.map Cl.id) (fun i => rs.length - i.2.1.length)
  ([], [], []) ⟨rfl, rfl, trivial⟩ rfl rfl ⟨RVis.nil _ _, by simp, rfl⟩ ?_
 rintro ⟨vis, vl, vc⟩ ⟨hrv, hvs, hvl⟩
 dsimp only at hrv hvs hvl ⊢
 have hvle := hrv.len hmi
 simp only [List.length_map] at hvle
 have hvcl : vl.length = vc.length := by have := congrArg List.length hvl; simpa using this
 have hbd := eul_bound vc
 refine SC.seq (SC.region (SL.W (SO.nextP 0 rfl rfl hes hmi hrv) ?_))
 rintro _ _ _ ⟨rfl, hcase⟩
 rcases hcase with ⟨rfl, rfl, hperm⟩ | ⟨e, pr, he, hp1, hk1, hv1, hrv2, rfl, rfl⟩
 ·have hp := visited_perm hvl hvs (tabC_nodup l) hall hperm
  refine SL.U (SU.extract rfl rfl) (SL.nil (ST.thenN (SC.seq (SC.condF rfl (SC.exit (ST.thenX (ST.thenX (ST.blockX (ST.thenN (SC.seq (SC.region (SL.M rfl (SL.A rfl (SL.nil (ST.thenN (SC.ret ?_))))))))))))))))
  refine ST.drop (s' := s) (.cons _ (.cons _ (.refl _))) (ST.less hle ?_)
  exact ST.ret1 (.inl rfl) results19 rfl ⟨by rw [perm_sum (hp.map _)]; rfl, rfl, rfl⟩
 ·obtain ⟨x, hx, rfl⟩ := List.mem_map.1 hp1
  obtain ⟨cx, hcm, hcx⟩ := all2_mem hall hx
  have hvs2 : ∀ c ∈ vc ++ [cx], c ∈ tabC l := fun c hc => by
   rcases List.mem_append.1 hc with h | h
   ·exact hvs c h
   ·simp at h; rw [h]; exact hcm
  have hvl2 : (vl ++ [rcPair x]).map Prod.fst = (vc ++ [cx]).map Cl.id := by rw [List.map_append, List.map_append, hvl]; simp [rcPair, hcx.1]
  have hm2 := hrv2.len hmi
  simp only [List.length_map, List.length_append, List.length_singleton] at hm2
  refine SL.U (SU.extract rfl rfl) (SL.nil (ST.thenN (SC.seq (SC.condT rfl (SC.skip (ST.thenN (SC.block (SC.seq (SC.region (SL.K (SQ.entryP 0 rfl rfl hes hmi he hk1 hv1) (SL.U (SU.extract rfl rfl) (SL.W (SO.alloc zeroValue51) ?_))))))))))))
  rintro _ _ _ ⟨b5, rfl, rfl, rfl⟩
  refine SL.on (SO.storeAllK 0 sizeOf51 rfl rfl rfl rfl rfl (by exact ⟨rfl, rfl, rfl, trivial⟩)) ?_
  rintro _ _ _ ⟨rfl, rfl⟩
  refine SL.nil (ST.thenN (SC.seq (SC.region (SL.U (SU.fieldAddr underlying51 rfl sizeOf3 rfl) (SL.K (SQ.load isAgg3 rfl (CellAt.own 0 rfl rfl)) (SL.U (SU.rem rfl rfl dC) (SL.U (SU.eql rfl rfl) (SL.nil (ST.thenN ?_)))))))))
  refine SC.ifP rfl (fun hev => ?_) (fun hev => ?_)
  ·refine SC.region (SL.M rfl (SL.U (SU.add rfl rfl oM) (SL.A rfl (SL.nil (ST.blockN (ST.drop (s' := iter it m es clk (vis ++ [e]) :: pt b1 (.cells #[v] 27 (0, 0)) :: s) (.cons _ (.refl _)) ?_))))))
   exact ST.again (vis ++ [e], vl ++ [rcPair x], vc ++ [cx]) ⟨get_vi rfl (by rw [hcx.2.1] at hev; simp [hev]), rfl, trivial⟩ rfl rfl ⟨hrv2, hvs2, hvl2⟩ lN
  ·refine SC.region (SL.M rfl (SL.U (SU.sub rfl rfl oM) (SL.A rfl (SL.nil (ST.blockN (ST.drop (s' := iter it m es clk (vis ++ [e]) :: pt b1 (.cells #[v] 27 (0, 0)) :: s) (.cons _ (.refl _)) ?_))))))
   exact ST.again (vis ++ [e], vl ++ [rcPair x], vc ++ [cx]) ⟨get_vi rfl (by rw [hcx.2.1] at hev; simp [hev]; omega), rfl, trivial⟩ rfl rfl ⟨hrv2, hvs2, hvl2⟩ lN
theorem set_self {α : Type} {s : List α} {i : Nat} {a : α} (h : s[i]? = some a) : s.set i a = s := by
 apply List.ext_getElem?
 intro j
 rw [List.getElem?_set]
 split
 ·rename_i e
  subst e
  split
  ·exact h.symm
  ·rename_i h2
   rw [List.getElem?_eq_none oM]
 ·rfl
def findT (tl : List Cl) (id : Int) : Option Cl := tl.find? fun c => decide (c.id = id)
def reachF (tl : List Cl) : Nat → Int → List Int → List Int
 | 0, _, vis => vis
 | n + 1, id, vis =>
  match findT tl id with
  | none => vis
  | some c => if vis.contains id then vis else c.sides.foldl (fun v x => reachF tl n x.cell v) (vis ++ [id])
theorem reachF_succ (tl : List Cl) (n : Nat) (id : Int) (vis : List Int) : reachF tl (n + 1) id vis = (match findT tl id with
  | none => vis
  | some c => if vis.contains id then vis else c.sides.foldl (fun v x => reachF tl n x.cell v) (vis ++ [id])) := rfl
def cntF (tl : List Cl) (vis : List Int) : Nat := (tl.filter fun c => !vis.contains c.id).length
def closF (tl : List Cl) (ids : List Int) : List Int := ids.foldl (fun v id => reachF tl (tl.length + 1) id v) []
theorem reachF_sub (tl : List Cl) : ∀ (n : Nat) (id : Int) (vis : List Int) (x : Int), x ∈ vis → x ∈ reachF tl n id vis
 | 0, _, _, _, h => h
 | n + 1, id, vis, x, h => by
  unfold reachF
  split
  ·exact h
  ·split
   ·exact h
   ·rename_i c _ _
    have : ∀ (l : List Side) (v : List Int), x ∈ v → x ∈ l.foldl (fun v y => reachF tl n y.cell v) v := by
     intro l
     induction l with
     | nil => intro v hv; exact hv
     | cons y t ih => intro v hv; exact ih _ (reachF_sub tl n y.cell v x hv)
    exact this _ _ (by simp [h])
theorem cntF_mono {tl : List Cl} {v v' : List Int} (h : ∀ x ∈ v, x ∈ v') : cntF tl v' ≤ cntF tl v := by
 unfold cntF
 rw [← List.countP_eq_length_filter, ← List.countP_eq_length_filter]
 apply List.countP_mono_left
 intro c _ hp
 simp at hp ⊢
 exact fun e => hp (h _ e)
theorem cntF_lt {tl : List Cl} {v : List Int} {c : Cl} (hc : c ∈ tl) (hn : v.contains c.id = false) : cntF tl (v ++ [c.id]) < cntF tl v := by
 induction tl with
 | nil => simp at hc
 | cons d t ih =>
  have hm : cntF t (v ++ [c.id]) ≤ cntF t v := cntF_mono (fun x hx => by simp [hx])
  have e1 : ∀ u : List Int, cntF (d :: t) u = (if u.contains d.id then 0 else 1) + cntF t u := fun u => by
   unfold cntF
   rw [List.filter_cons]
   cases u.contains d.id <;> simp <;> omega
  rw [e1, e1]
  rcases List.mem_cons.1 hc with rfl | hc'
  ·have : (v ++ [c.id]).contains c.id = true := by simp
   rw [this, hn]
   simp
   omega
  ·have := ih hc'
   cases h1 : v.contains d.id
   ·cases h2 : (v ++ [c.id]).contains d.id <;> simp <;> omega
   ·have h2 : (v ++ [c.id]).contains d.id = true := by simp at h1 ⊢; exact .inl h1
    rw [h2]
    simp
    exact this
def setP (vis : List Int) : List (Int × Value) := vis.map fun k => (k, vb true)
theorem setP_set (vis : List Int) : SetI (setP vis) (fun k => vis.contains k) := by
 intro k
 induction vis with
 | nil => rfl
 | cons a t ih =>
  simp only [setP, List.map_cons, mget_cons] at ih ⊢
  by_cases h : k = a
  ·simp [h]
  ·have h2 : (k == a) = false := by simpa using h
   rw [if_neg h, ih]
   simp [h]
theorem setP_put {vis : List Int} {id : Int} (h : vis.contains id = false) : mput (setP vis) id (vb true) = setP (vis ++ [id]) := by
 rw [mput_none _ _ _ (fun p hp => by
  obtain ⟨a, ha, rfl⟩ := List.mem_map.1 hp
  intro e
  simp at h
  exact h (by rw [← e]; exact ha))]
 simp [setP]
theorem findT_mem {tl : List Cl} {id : Int} {c : Cl} (h : findT tl id = some c) : c ∈ tl ∧ c.id = id := ⟨List.mem_of_find?_eq_some h, by simpa using List.find?_some h⟩
theorem take_succ_of {α : Type} {l : List α} {j : Nat} {y : α} (h : l[j]? = some y) : l.take (j + 1) = l.take j ++ [y] := by
 obtain ⟨h1, h2⟩ := List.getElem?_eq_some_iff.1 h
 rw [List.take_succ_eq_append_getElem h1, h2]
theorem get_set {α : Type} {s : List α} {i : Nat} {a : α} (h : s[i]? = some a) (b : α) : (s.set i b)[i]? = some b := by
 have := (List.getElem?_eq_some_iff.1 h).1
 simp [this]
theorem reach_spec (E : World) (g : PH) (bt bm bf m : Nat) (tv : Value) (tl : List Cl) (hv : Tab g tv tl) (hf : Fits tl) (h2 : g bt = some (.cells #[tv] 75 (0, 0))) (h5 : g bm = some (.cells #[.map (some m)] 96 (0, 0)))
  (h6 : g bf = some (.cells #[.func (.func 101) #[] #[pp bt 0, pp bm 0, pp bf 0]] 119 (0, 0))) : ∀ (n : Nat) (id : Int) (vis : List Int) (s : Own) (i : Nat), cntF tl vis < n → s[i]? = some (mp m (setP vis)) →
  Ctr Tryz.prog E 101 #[vi id, pp bt 0, pp bm 0, pp bf 0] g s (fun _ g' s' => g = g' ∧ s' = s.set i (mp m (setP (reachF tl n id vis)))) := by
 intro n
 induction n with
 | zero => intro id vis s i h; omega
 | succ n ih =>
 intro id vis s i hcnt hi
 have hv' := hv
 obtain ⟨b, mt, iv, rs, rfl, hb, hm, hI, hall⟩ := hv'
 obtain ⟨x, hx1, hx2, hx3⟩ := all2_look hall zeroCR id
 obtain ⟨xi, xd, xp, xn, xc⟩ := x
 have hxs : SlA encSide g (.slice xp xn xc) ((findT tl id).getD zeroC).sides := hx3.2.2
 have hxn : xn = ((findT tl id).getD zeroC).sides.length := Sl.slen hxs
 subst hxn
 refine Ctr.of (args := [vi id, pp bt 0, pp bm 0, pp bf 0]) func101 rfl ntmps101 (Nat.le_of_ble_eq_true rfl) ?_
 refine SC.seq (SC.region (SL.K (SQ.load isAgg75 rfl (CellAt.known h2 rfl)) (SL.U (SU.nilCheck rfl) (SL.U (SU.fieldAddr underlying88 rfl sizeOf86 rfl) (SL.K (SQ.load isAgg86 rfl (CellAt.known hb rfl)) (SL.M rfl (SL.K (SQ.eq (v' := .tuple #[rcv ⟨xi, xd, xp, ((findT tl id).getD zeroC).sides.length, xc⟩, vb (decide ((findT tl id).isSome = true))]) (SQ.lookupOk mty86 rfl rfl (MapAt.known hm)) (by rw [hx1, hx2, Bool.decide_eq_true]; rfl)) ?_)))))))
 refine SL.M rfl (SL.U (SU.extract rfl rfl) (SL.U (SU.extract rfl rfl) (SL.W (SO.alloc zeroValue51) ?_)))
 rintro _ _ _ ⟨b5, rfl, rfl, rfl⟩
 refine SL.on (SO.storeAllK 0 sizeOf51 rfl rfl rfl rfl rfl (by exact ⟨rfl, rfl, rfl, trivial⟩)) ?_
 rintro _ _ _ ⟨rfl, rfl⟩
 refine SL.A rfl (SL.nil (ST.thenN (SC.seq ?_)))
 refine SC.cutB 24 (!(findT tl id).isSome || vis.contains id) ?_ ?_
 ·refine SC.region (SL.M rfl (SL.U (SU.notP rfl) (SL.M rfl ?_)))
  refine SL.split ?_ ?_
  ·intro h20
   refine SL.Z rfl rfl rfl (SL.Z rfl rfl rfl (SL.Z rfl rfl rfl (SL.U (SU.pickT rfl rfl) (SL.nil ?_))))
   exact ST.mid1 (by simp_all [get?]) mI
  ·intro h20
   refine SL.gq (Gd.onT rfl rfl rfl dC) (SQ.load isAgg96 rfl (CellAt.known h5 rfl)) dC (SL.Y rfl rfl rfl (SU.move rfl) (SL.gq (Gd.onT rfl rfl rfl dC) (SQ.eq (v' := vb (decide (vis.contains id = true))) (SQ.lookup mty96 rfl rfl (MapAt.own (i + 1) hi)) (by rw [(setP_set vis).get id]; simp)) dC ?_))
   refine SL.U (SU.pickF rfl rfl) (SL.nil ?_)
   exact ST.mid1 (by simp_all [get?]) mI
 refine SC.ifB rfl (fun hstop => ?_) (fun hstop => ?_)
 ·refine SC.ret (ST.thenR (ST.drop (s' := s) (.cons _ (.refl _)) ?_))
  have hr : reachF tl (n + 1) id vis = vis := by
   unfold reachF
   cases h : findT tl id with
   | none => rfl
   | some c =>
    rw [h] at hstop
    simp only [Option.isSome_some, Bool.not_true, Bool.false_or] at hstop
    simp only [hstop, if_true]
  exact ST.ret0 (.inl rfl) results101 ⟨rfl, by rw [hr, set_self hi]⟩
 ·obtain ⟨c, hc⟩ : ∃ c, findT tl id = some c := by
   cases h : findT tl id with
   | none => rw [h] at hstop; simp at hstop
   | some c => exact ⟨c, rfl⟩
  obtain ⟨hcm, hcid⟩ := findT_mem hc
  have hnv : vis.contains id = false := by rw [hc] at hstop; simpa using hstop
  have hcl := hf.2 c hcm
  have hcnt2 : cntF tl (vis ++ [id]) < n := by
   have := cntF_lt hcm (by rw [hcid]; exact hnv)
   rw [hcid] at this
   omega
  simp only [hc, Option.getD_some] at hxs ⊢
  refine SC.skip (ST.thenN (SC.seq (SC.region (SL.K (SQ.load isAgg96 rfl (CellAt.known h5 rfl)) (SL.M rfl (SL.on (SO.mapUpdate (i + 1) mty96 rfl rfl rfl hi) ?_))))))
  rintro _ _ _ ⟨rfl, rfl⟩
  rw [setP_put hnv]
  refine SL.nil (ST.thenN (SC.seq (SC.region (SL.U (SU.fieldAddr underlying51 rfl sizeOf49 rfl) (SL.K (SQ.load isAgg49 rfl (CellAt.own 0 rfl rfl)) (SL.U (SU.lenN underlying49 rfl) (SL.M rfl (SL.nil (ST.thenN (SC.block (SC.drop (s' := s.set i (mp m (setP (vis ++ [id])))) (.cons _ (.refl _)) ?_)))))))))))
  refine SC.loop (ι := Nat × List Int) (fun q => [(3, pp bf 0), (28, .slice xp c.sides.length xc), (29, vi c.sides.length), (30, vi q.1)]) (fun _ => g)
   (fun q => s.set i (mp m (setP q.2))) (fun q => q.1 ≤ c.sides.length ∧ q.2 = (c.sides.take q.1).foldl (fun v x => reachF tl n x.cell v) (vis ++ [id]) ∧ cntF tl q.2 < n) (fun q => c.sides.length - q.1)
   (0, vis ++ [id]) ⟨rfl, rfl, rfl, rfl, trivial⟩ rfl rfl ⟨Nat.zero_le _, by simp, hcnt2⟩ ?_
  rintro ⟨j, vj⟩ ⟨hj, hvj, hcj⟩
  dsimp only at hj hvj hcj ⊢
  refine SC.seq (SC.region (SL.U (SU.lss rfl rfl) (SL.nil (ST.thenN (SC.seq ?_)))))
  refine SC.ifP rfl (fun hlt => ?_) (fun hlt => ?_)
  ·have hjl : j < c.sides.length := oM
   have hb1 := hxs.based oM
   have hjx : c.sides[((j : Nat) : Int).toNat]? = some c.sides[j] := List.getElem?_eq_getElem hjl
   generalize c.sides[j] = y at *
   refine SC.skip (ST.thenN (SC.seq (SC.block (SC.seq (SC.region (SL.U (SU.indexAddr underlying49 sizeOf55 rfl rfl hb1 oM sL) (SL.K (SQ.elemA isAgg55 sizeOf55 rfl hxs.rd hjx) (SL.W (SO.alloc zeroValue55) ?_))))))))
   rintro _ _ _ ⟨b8, rfl, rfl, rfl⟩
   refine SL.on (SO.storeAllK 0 sizeOf55 rfl rfl rfl rfl rfl (by exact ⟨rfl, rfl, trivial⟩)) ?_
   rintro _ _ _ ⟨rfl, rfl⟩
   refine SL.nil (ST.thenN (SC.region (SL.K (SQ.load isAgg119 rfl (CellAt.known h6 rfl)) (SL.U (SU.fieldAddr underlying55 rfl sizeOf3 rfl) (SL.K (SQ.load isAgg3 rfl (CellAt.own 0 rfl rfl)) (SL.W (SO.callV rfl rfl (CallV.mk (cap := [pp bt 0, pp bm 0, pp bf 0]) call101 (ih y.cell vj _ (i + 1) hcj (get_set hi _)))) ?_))))))
   rintro _ _ _ ⟨rfl, rfl⟩
   refine SL.nil (ST.blockN (ST.thenN (SC.region (SL.U (SU.add rfl rfl oM) (SL.M rfl (SL.nil (ST.drop (s' := s.set i (mp m (setP (reachF tl n y.cell vj)))) (by rw [List.set_cons_zero, List.set_cons_succ, List.set_set]; exact .cons _ (.refl _)) ?_)))))))
   exact ST.again (j + 1, reachF tl n y.cell vj) ⟨rfl, rfl, rfl, rfl, trivial⟩ rfl rfl ⟨lN, by
    rw [take_succ_of (j := j) hjx, List.foldl_append, ← hvj]; rfl, Nat.lt_of_le_of_lt (cntF_mono fun x hx => reachF_sub tl n _ _ x hx) hcj⟩ lN
  ·refine SC.exit (ST.thenX (ST.thenX (ST.blockX ?_)))
   have hjj : c.sides.take j = c.sides := List.take_of_length_le oM
   have hr : reachF tl (n + 1) id vis = vj := by
    rw [hjj] at hvj
    rw [hvj, reachF_succ, hc]
    simp only [hnv, Bool.false_eq_true, if_false]
   exact ST.ret0 (.inr rfl) results101 ⟨rfl, by rw [hr]⟩
theorem cntF_le (tl : List Cl) (v : List Int) : cntF tl v ≤ tl.length := List.length_filter_le _ _
theorem closure_spec (E : World) (g : PH) (s : Own) (v iv : Value) (tl : List Cl) (ids : List Int) (hv : Tab g v tl) (hf : Fits tl) (hi : Ints g iv ids) (hl : ids.length < 1099511627776) :
  Ctr Tryz.prog E 72 #[v, iv] g s (fun r g' s' => ∃ m, r = .map (some m) ∧ Le g g' ∧ s' = mp m (setP (closF tl ids)) :: s) := by
 obtain ⟨p, c, rfl⟩ := SlA.form hi
 have hvc : v.cells = #[v] := by obtain ⟨b, _, _, _, rfl, _⟩ := hv; rfl
 refine Ctr.of (args := [v, .slice p ids.length c]) func72 rfl ntmps72 (Nat.le_of_ble_eq_true rfl) ?_
 refine SC.seq (SC.region (SL.W (SO.box rfl) ?_))
 rintro _ _ _ ⟨b2, rfl, rfl, rfl⟩
 refine SL.freeze fun g1 hle hb2 => ?_
 rw [hvc] at hb2
 refine SL.A rfl (SL.nil (ST.thenN (SC.seq (SC.region (SL.W (SO.mkMap) ?_)))))
 rintro _ _ _ ⟨m, rfl, rfl, rfl⟩
 refine SL.W (SO.alloc zeroValue96) ?_
 rintro _ _ _ ⟨b5, rfl, rfl, rfl⟩
 refine SL.on (SO.storeAllK 0 sizeOf96 rfl rfl rfl rfl rfl ⟨rfl, trivial⟩) ?_
 rintro _ _ _ ⟨rfl, rfl⟩
 refine SL.freeze fun g2 hle2 hb5 => ?_
 refine SL.nil (ST.thenN (SC.seq (SC.region (SL.W (SO.alloc zeroValue119) ?_))))
 rintro _ _ _ ⟨b6, rfl, rfl, rfl⟩
 refine SL.nil (ST.thenN (SC.seq (SC.region (SL.U (SU.mkFunc rfl) (SL.on (SO.storeAllK 0 sizeOf119 rfl rfl rfl rfl rfl ⟨rfl, trivial⟩) ?_)))))
 rintro _ _ _ ⟨rfl, rfl⟩
 refine SL.freeze fun g3 hle3 hb6 => ?_
 refine SL.nil (ST.thenN (SC.seq (SC.seq (SC.region (SL.M rfl (SL.U (SU.lenN underlying45 rfl) (SL.M rfl (SL.nil (ST.thenN (SC.block ?_))))))))))
 have hv3 := hv.mono (hle.trans (hle2.trans hle3))
 have hi3 := hi.mono (hle.trans (hle2.trans hle3))
 refine SC.loop (ι := Nat × List Int) (fun q => [(5, pp b5 0), (6, pp b6 0), (11, .slice p ids.length c), (12, vi ids.length), (13, vi q.1)]) (fun _ => g3)
  (fun q => mp m (setP q.2) :: s) (fun q => q.1 ≤ ids.length ∧ q.2 = (ids.take q.1).foldl (fun v id => reachF tl (tl.length + 1) id v) []) (fun q => ids.length - q.1)
  (0, []) ⟨rfl, rfl, rfl, rfl, rfl, trivial⟩ rfl rfl ⟨Nat.zero_le _, by simp⟩ ?_
 rintro ⟨j, vj⟩ ⟨hj, hvj⟩
 dsimp only at hj hvj ⊢
 refine SC.seq (SC.region (SL.U (SU.lss rfl rfl) (SL.nil (ST.thenN (SC.seq ?_)))))
 refine SC.ifP rfl (fun hlt => ?_) (fun hlt => ?_)
 ·have hjl : j < ids.length := oM
  have hb1 := SlA.based hi oM
  have hjx : ids[((j : Nat) : Int).toNat]? = some ids[j] := List.getElem?_eq_getElem hjl
  generalize ids[j] = y at *
  refine SC.skip (ST.thenN (SC.seq (SC.block (SC.seq (SC.region (SL.U (SU.indexAddr underlying45 sizeOf3 rfl rfl hb1 oM sL) (SL.K (SQ.elem1 isAgg3 rfl (SlA.rd hi3) hjx rfl) (SL.A rfl (SL.nil (ST.thenN (SC.region (SL.K (SQ.load isAgg119 rfl (CellAt.known hb6 rfl)) (SL.M rfl (SL.W (SO.callV rfl rfl (CallV.mk (cap := [pp b2 0, pp b5 0, pp b6 0]) call101 (reach_spec E g3 b2 b5 b6 m v tl hv3 hf ((hle2.trans hle3) _ _ hb2) (hle3 _ _ hb5) hb6 (tl.length + 1) y vj _ 0 (Nat.lt_succ_of_le (cntF_le _ _)) rfl))) ?_))))))))))))))
  rintro _ _ _ ⟨rfl, rfl⟩
  refine SL.nil (ST.blockN (ST.thenN (SC.region (SL.U (SU.add rfl rfl oM) (SL.M rfl (SL.nil ?_))))))
  exact ST.again (j + 1, reachF tl (tl.length + 1) y vj) ⟨rfl, rfl, rfl, rfl, rfl, trivial⟩ rfl rfl ⟨lN, by rw [take_succ_of (j := j) hjx, List.foldl_append, ← hvj]; rfl⟩ lN
 ·refine SC.exit (ST.thenX (ST.thenX (ST.blockX (ST.thenN (SC.seq (SC.region (SL.K (SQ.load isAgg96 rfl (CellAt.known (hle3 _ _ hb5) rfl)) (SL.A rfl (SL.nil (ST.thenN (SC.ret ?_)))))))))))
  have hjj : ids.take j = ids := List.take_of_length_le oM
  rw [hjj] at hvj
  exact ST.ret1 (.inl rfl) results72 rfl ⟨m, rfl, hle.trans (hle2.trans hle3), by rw [hvj]; rfl⟩
open Go Go.Sy Go.Pl Go.Proofs Go.Shelf Go.Sort
def lays189_ren : Ren :=
 {
  f := fun x =>
   match x with
   | 189 => 40
   | 125 => 86
   | 257 => 85
   | 128 => 120
   | 129 => 121
   | 294 => 112
   | 295 => 113
   | 296 => 114
   | 297 => 115
   | 298 => 116
   | 299 => 117
   | 216 => 94
   | 300 => 118
   | 301 => 119
   | 328 => 137
   | 329 => 138
   | 330 => 139
   | 331 => 140
   | 332 => 141
   | 215 => 130
   | 343 => 149
   | n => n,
  t := fun x =>
   match x with
   | 28 => 45
   | 3 => 3
   | 46 => 113
   | 0 => 0
   | 51 => 138
   | 53 => 140
   | 4 => 4
   | 183 => 132
   | 182 => 131
   | 131 => 72
   | 5 => 5
   | 9 => 9
   | 218 => 151
   | 222 => 155
   | 228 => 163
   | 229 => 164
   | n => n,
  g := fun x =>
   have n := x;
   n }
theorem Tryz.lays189 : Lays.n189 Tryz.prog lays189_ren :=
  {
  mixed := Eq.refl true, f125 := Eq.trans func86 (congrArg some (by kernel_rfl)),
  f128 := Eq.trans func120 (congrArg some (by kernel_rfl)),
  f129 := Eq.trans func121 (congrArg some (by kernel_rfl)),
  f189 := Eq.trans func40 (congrArg some (by kernel_rfl)),
  f215 := Eq.trans func130 (congrArg some (by kernel_rfl)),
  f216 := Eq.trans func94 (congrArg some (by kernel_rfl)),
  f257 := Eq.trans func85 (congrArg some (by kernel_rfl)),
  f294 := Eq.trans func112 (congrArg some (by kernel_rfl)),
  f295 := Eq.trans func113 (congrArg some (by kernel_rfl)),
  f296 := Eq.trans func114 (congrArg some (by kernel_rfl)),
  f297 := Eq.trans func115 (congrArg some (by kernel_rfl)),
  f298 := Eq.trans func116 (congrArg some (by kernel_rfl)),
  f299 := Eq.trans func117 (congrArg some (by kernel_rfl)),
  f300 := Eq.trans func118 (congrArg some (by kernel_rfl)),
  f301 := Eq.trans func119 (congrArg some (by kernel_rfl)),
  f328 := Eq.trans func137 (congrArg some (by kernel_rfl)),
  f329 := Eq.trans func138 (congrArg some (by kernel_rfl)),
  f330 := Eq.trans func139 (congrArg some (by kernel_rfl)),
  f331 := Eq.trans func140 (congrArg some (by kernel_rfl)),
  f332 := Eq.trans func141 (congrArg some (by kernel_rfl)),
  f343 := Eq.trans func149 (congrArg some (by kernel_rfl)), t0 := underlying0,
  a0 := isAgg0, z0 := sizeOf0, v0 := zeroValue0, t3 := underlying3, a3 := isAgg3,
  z3 := sizeOf3, v3 := zeroValue3, t4 := underlying4, a4 := isAgg4, z4 := sizeOf4,
  v4 := zeroValue4, t5 := underlying5, a5 := isAgg5, z5 := sizeOf5, v5 := zeroValue5,
  t9 := underlying9, a9 := isAgg9, z9 := sizeOf9, v9 := zeroValue9, t28 := underlying45,
  a28 := isAgg45, z28 := sizeOf45, v28 := zeroValue45, t46 := underlying113, a46 := isAgg113,
  z46 := sizeOf113, v46 := zeroValue113, t51 := underlying138, a51 := isAgg138,
  z51 := sizeOf138, v51 := zeroValue138, t53 := underlying140, a53 := isAgg140,
  z53 := sizeOf140, v53 := zeroValue140, t131 := underlying72, a131 := isAgg72,
  z131 := sizeOf72, v131 := zeroValue72, t182 := underlying131, a182 := isAgg131,
  z182 := sizeOf131, v182 := zeroValue131, t183 := underlying132, a183 := isAgg132,
  z183 := sizeOf132, v183 := zeroValue132, t218 := underlying151, a218 := isAgg151,
  z218 := sizeOf151, v218 := zeroValue151, t222 := underlying155, a222 := isAgg155,
  z222 := sizeOf155, v222 := zeroValue155, t228 := underlying163, a228 := isAgg163,
  z228 := sizeOf163, v228 := zeroValue163, t229 := underlying164, a229 := isAgg164,
  z229 := sizeOf164, v229 := zeroValue164 }
def sortI (l : List Int) : List Int := l.mergeSort fun x y => decide (x ≤ y)
theorem sortI_length (l : List Int) : (sortI l).length = l.length := List.length_mergeSort ..
theorem sortI_perm (l : List Int) : (sortI l).Perm l := List.mergeSort_perm ..
theorem flat_ints (l : List Int) : l.flatMap encInt.enc = l.map (Value.int .i64) := by
 induction l with
 | nil => rfl
 | cons a t ih => simp only [List.flatMap_cons, List.map_cons, ih]; rfl
theorem sortInts_spec (E : World) (g : PH) (s : Own) (v : Value) (l : List Int) (i : Nat) (hi : s[i]? = some (rowA encInt 3 v l)) (hl : l.length < 17592186044416) :
  Ctr Tryz.prog E 40 #[v] g s (fun _ g' s' => g = g' ∧ s' = s.set i (rowA encInt 3 v (sortI l))) := by
 intro w hw
 obtain ⟨h1, h2⟩ := row_is hw hi
 rcases h2 with ⟨p, rfl, hn⟩ | ⟨b, cap, cur, rfl, hb, hle, hcm, hcs, ht⟩
 ·have hl0 : l = [] := List.eq_nil_of_length_eq_zero hn
  subst hl0
  refine (Any.slices_Sort_int_none lays189 p 0 w).mono ?_
  rintro e w' ⟨rfl, rfl⟩
  refine ⟨_, g, s, rfl, hw, rfl, ?_⟩
  have : sortI [] = [] := by simp [sortI]
  rw [this]
  exact (set_self hi).symm
 ·have ht' : cur.toList.take l.length = l.map (Value.int .i64) := by rw [← flat_ints]; simpa using ht
  refine (Any.slices_Sort_int lays189 b 0 (cap + 1) l w (holds_of_blockI hb ht') (Array.getElem?_eq_some_iff.1 hb).1 oM).mono ?_
  rintro e w' ⟨rfl, n, os, rfl⟩
  have hfr := hw.fresh _ (List.mem_of_getElem? hi) b rfl
  refine ⟨_, g, _, rfl, ?_, rfl, rfl⟩
  obtain ⟨q1, q2, q3, q4, q5⟩ := grownBy_sortedI (w := w) (g := b) (n := n) (os := os) (sortI l).toArray
  refine hw.turn hi rfl ⟨rfl, (by exact Nat.le_add_right _ _)⟩ rfl q4 (fun k hk hne => q5 k hk hne) ?_ ?_
  ·have h5 := heap_sortedI (n := n) (os := os) (sortI l).toArray hb
   have hlen := sortI_length l
   have := row_holds (w := grow (putRow (Value.int .i64) (Sort.ahead w n) b 0 (sortI l).toArray) os) (T := 3) (k := 1) (n := (sortI l).length) (b := b) (cap := cap) (xs := (sortI l).flatMap encInt.enc) (by rw [encInt.length]) h5 oM hcm (by simp [putCells]; simpa using hcs) (by
    rw [flat_ints, Nat.mul_one]
    exact take_putCellsI cur (sortI l) (by rw [hlen, hcs]; omega))
   rw [hlen] at this
   rw [show rowA encInt 3 (.slice (some ⟨b, 0, none⟩) l.length (cap + 1)) (sortI l) = row 3 1 (.slice (some ⟨b, 0, none⟩) l.length (cap + 1)) l.length ((sortI l).flatMap encInt.enc) by simp only [rowA, hlen]]
   exact this
  ·intro b' hb'
   simp only [rowA, row, rblk, Option.some.injEq] at hb'
   subst hb'
   exact ⟨Nat.lt_of_lt_of_le (Array.getElem?_eq_some_iff.1 hb).1 q4, .inl rfl⟩
end Go.Proofs.YtkdibcicncjpdaaGreat
