/- Uni2 Uni3 SyR Mee1 Mee2 Mee3 -/
import Derived.Test.YtkdibcicncjpdaaGreatUn14
import Derived.Test.YtkdibcicncjpdaaGreatUn07
import Derived.Test.YtkdibcicncjpdaaGreatUn05
import Derived.Test.YtkdibcicncjpdaaGreatUn12
set_option linter.unusedSimpArgs false
set_option linter.unusedVariables false
namespace Go.Proofs.YtkdibcicncjpdaaGreat
open _root_.Go.Proofs.Tryz _root_.Go.Proofs.YtkdibcicncjpdaaGreat.Tryz
open Go Go.Sy Go.Pl Go.Proofs
set_option maxRecDepth 100000
set_option maxHeartbeats 1000000
def unionC2 (A B : List Cl) : List Cl × Bool := if A.any (clash B) then ([], false) else (canonC (A ++ B.filter (isNew A)), true)
theorem find_self {A : List Cl} (h : (A.map Cl.id).Nodup) {x : Cl} (hx : x ∈ A) : findT A x.id = some x := by
 induction A with
 | nil => simp at hx
 | cons c t ih =>
  simp only [List.map_cons, List.nodup_cons] at h
  unfold findT
  rcases List.mem_cons.1 hx with rfl | hx
  ·simp
  ·have hne : ¬ c.id = x.id := fun e => h.1 (by rw [e]; exact List.mem_map.2 ⟨x, hx, rfl⟩)
   rw [List.find?_cons]
   simp only [hne, decide_false]
   exact ih h.2 hx
theorem clash_any {A B : List Cl} (hA : (A.map Cl.id).Nodup) (hB : (B.map Cl.id).Nodup) (h : A.any (clash B) = true) : B.any (clash A) = true := by
 obtain ⟨x, hx, hc⟩ := List.any_eq_true.1 h
 unfold clash at hc
 cases hf : findT B x.id with
 | none => rw [hf] at hc; cases hc
 | some y =>
  rw [hf] at hc
  obtain ⟨hy, hid⟩ := findT_mem hf
  refine List.any_eq_true.2 ⟨y, hy, ?_⟩
  unfold clash
  rw [hid, find_self hA hx]
  have hne : ¬ y = x := by simpa using hc
  simpa using fun e => hne e.symm
theorem unionC2_eq {A B : List Cl} (hA : (A.map Cl.id).Nodup) (hB : (B.map Cl.id).Nodup) : unionC2 A B = unionC A B := by
 have : A.any (clash B) = B.any (clash A) := by
  rw [Bool.eq_iff_iff]
  exact ⟨clash_any hA hB, clash_any hB hA⟩
 unfold unionC2 unionC
 rw [this]
theorem union_spec (E : World) (g : PH) (s : Own) (v u : Value) (a b : List Cl) (hv : Cells g v a) (hu : Cells g u b) (ha : Fits a) (hb : Fits b) (hab : a.length + b.length < 1099511627776) :
  Ctr Tryz.prog E 23 #[.agg #[v], .agg #[u]] g s (fun r g' s' => s = s' ∧ Le g g' ∧ ∃ x, r = .tuple #[.agg #[x], vb (unionC (tabC a) (tabC b)).2] ∧ Cells g' x (unionC (tabC a) (tabC b)).1) := by
 rw [← unionC2_eq (tabC_nodup a) (tabC_nodup b)]
 obtain ⟨vp0, vc0, hvf⟩ := hv.form
 obtain ⟨up0, uc0, huf⟩ := hu.form
 have hta := tabC_length a
 have htb := tabC_length b
 have hfa := tabC_fits ha
 have hfb := tabC_fits hb
 have hfu := union_fits hfa hfb oM
 have hnA := tabC_nodup a
 have hnB := tabC_nodup b
 refine Ctr.of (args := [.agg #[v], .agg #[u]]) func23 rfl ntmps23 (Nat.le_of_ble_eq_true rfl) ?_
 refine SC.seq (SC.region (SL.W (SO.box rfl) ?_))
 rintro _ _ _ ⟨b2, rfl, rfl, rfl⟩
 refine SL.W (SO.box rfl) ?_
 rintro _ _ _ ⟨b3, rfl, rfl, rfl⟩
 refine SL.W (SO.alloc zeroValue27) ?_
 rintro _ _ _ ⟨b4, rfl, rfl, rfl⟩
 refine SL.A rfl (SL.nil (ST.thenN (SC.seq ?_)))
 refine SC.draw [] [(0, 1), (2, 1), (1, 0), (3, 0), (4, 2), (5, 2)] Tryz.mixed (by kernel_rfl) ?_
 refine SP.K (i := 0) rfl (SQ.loadVarK 2 isAgg27 sizeOf27 rfl rfl rfl) (SP.K (i := 2) rfl (SQ.loadVarK 1 isAgg27 sizeOf27 rfl rfl rfl) (SP.o (i := 1) rfl (SO.call call50 rfl (of_spec E g _ _ a hv ha)) dC (.inr (by rintro tv g1 _ ⟨rfl, hle1, hTa0⟩; exact ⟨by assumption, (by exact .refl _)⟩)) ?_))
 rintro tv g1 _ ⟨rfl, hle1, hTa0⟩
 refine SP.o (i := 3) rfl (SO.call call50 rfl (of_spec E g1 _ _ b (hu.mono hle1) hb)) dC (.inr (by rintro uv g2 _ ⟨rfl, hle2, hTb⟩; exact ⟨by exact Le.trans (by assumption) (by assumption), (by exact .refl _)⟩)) ?_
 rintro uv g2 _ ⟨rfl, hle2, hTb⟩
 have hTa := hTa0.mono hle2
 obtain ⟨ba, ma, iva, ra, rfl, hba, hma, hIa, halla⟩ := hTa
 obtain ⟨bb, mb, ivb, rb, rfl, hbb, hmb, hIb, hallb⟩ := hTb
 obtain ⟨qa, da, rfl⟩ := hIa.form
 obtain ⟨qb, db, rfl⟩ := hIb.form
 refine SP.U (i := 4) rfl (SU.assign rfl) (SP.U (i := 5) rfl (SU.assign rfl) (SP.nil (ST.thenN (SC.seq (SC.region (SL.W (SO.alloc zeroValue27) ?_))))))
 rintro _ _ _ ⟨b8, rfl, rfl, rfl⟩
 refine SL.nil (ST.thenN (SC.seq (SC.seq (SC.region (SL.M rfl (SL.U (SU.nilCheck rfl) (SL.U (SU.fieldAddr underlying88 rfl sizeOf45 rfl) (SL.K (SQ.load (v := .slice qa ((tabC a).map Cl.id).length da) isAgg45 rfl (CellAt.known hba rfl)) (SL.U (SU.lenN underlying45 rfl) (SL.M rfl (SL.nil (ST.thenN (SC.block ?_)))))))))))))
 have eal := halla.length
 have ebl := hallb.length
 generalize tabC a = A at *
 generalize tabC b = B at *
 have hids := all2_ids halla
 have hidsB := all2_ids hallb
 have hnr : (ra.map Rc.id).Nodup := by rw [← hids]; exact hnA
 have hnrB : (rb.map Rc.id).Nodup := by rw [← hidsB]; exact hnB
 refine SC.nilRow 51 3 ?_
 simp only [List.length_map] at hIa hIb hba hbb ⊢
 refine SC.loop (ι := Value × List Rc × Nat) (fun i => [(2, pp b2 0), (3, pp b3 0), (4, pp b4 0), (5, vb false), (6, pp ba 0), (7, pp bb 0), (8, pp b8 0), (24, .slice qa A.length da), (25, vi A.length), (26, vi i.2.2)]) (fun _ => g2) (fun i => rowA encCell 51 i.1 i.2.1 :: pt b8 (.cells #[i.1] 27 (0, 0)) :: pt b4 (.cells #[.slice none 0 0] 27 (0, 0)) :: pt b3 (.cells #[u] 27 (0, 0)) :: pt b2 (.cells #[v] 27 (0, 0)) :: s)
  (fun i => i.2.2 ≤ A.length ∧ All2 (CellR g2) (A.take i.2.2) i.2.1 ∧ (A.take i.2.2).any (clash B) = false) (fun i => A.length - i.2.2)
  (.slice none 0 0, [], 0) ⟨rfl, rfl, rfl, rfl, rfl, rfl, rfl, rfl, rfl, rfl, trivial⟩ rfl rfl ⟨Nat.zero_le _, trivial, rfl⟩ ?_
 rintro ⟨ov, acc, k⟩ ⟨hk, hacc, hno⟩
 dsimp only at hk hacc hno ⊢
 have hal := hacc.length
 rw [List.length_take] at hal
 refine SC.seq (SC.region (SL.U (SU.lss rfl rfl) (SL.nil (ST.thenN (SC.seq ?_)))))
 refine SC.ifP rfl (fun hlt => ?_) (fun hlt => ?_)
 ·have hkl : k < A.length := oM
  have hkr : k < ra.length := oM
  have hbi := hIa.based (by simp; omega)
  have hcr := halla.get (List.getElem?_eq_getElem hkl) (List.getElem?_eq_getElem hkr)
  have hmem : A[k] ∈ A := List.getElem_mem hkl
  have hget : mget (ra.map rcPair) A[k].id = some (rcv ra[k]) := by
   rw [mget_pairs, ← hcr.1, find_nodup hnr (List.getElem?_eq_getElem hkr)]; rfl
  have htk : A.take (k + 1) = A.take k ++ [A[k]] := List.take_succ_eq_append_getElem hkl
  have hgi : (A.map Cl.id)[((k : Nat) : Int).toNat]? = some A[k].id := by simp [hkl]
  generalize A[k] = x at *
  have hxl := hfa.2 x hmem
  obtain ⟨xp, xc, hrx, hxs⟩ := cellR_form hcr
  rw [hrx] at hget hcr
  obtain ⟨z, hz1, hz2, hz3⟩ := all2_look hallb zeroCR x.id
  obtain ⟨zi, zd, zp, zn, zc⟩ := z
  have hz2' : (mget (rb.map rcPair) x.id).isSome = (findT B x.id).isSome := hz2
  have hz3' : CellR g2 ((findT B x.id).getD zeroC) ⟨zi, zd, zp, zn, zc⟩ := hz3
  cases hf0 : findT B x.id with
  | none =>
   have hcl : clash B x = false := by unfold clash; rw [hf0]
   refine SC.skip (ST.thenN (SC.seq (SC.block (SC.seq (SC.region (SL.U (SU.indexAddr underlying45 sizeOf3 rfl rfl hbi oM sL) (SL.K (SQ.elem1 isAgg3 rfl hIa.rd hgi rfl) (SL.A rfl (SL.nil (ST.thenN (SC.seq (SC.seq (SC.region (SL.M rfl (SL.U (SU.nilCheck rfl) (SL.U (SU.fieldAddr underlying88 rfl sizeOf86 rfl) (SL.K (SQ.load isAgg86 rfl (CellAt.known hbb rfl)) (SL.M rfl (SL.K (SQ.eq (v' := .tuple #[rcv ⟨zi, zd, zp, zn, zc⟩, vb false]) (SQ.lookupOk mty86 rfl rfl (MapAt.known hmb)) (by rw [hz1, hz2', hf0]; rfl)) ?_)))))))))))))))))))
   refine SL.M rfl (SL.U (SU.extract rfl rfl) (SL.U (SU.extract rfl rfl) (SL.W (SO.alloc zeroValue51) ?_)))
   rintro _ _ _ ⟨b11, rfl, rfl, rfl⟩
   refine SL.on (SO.storeAllK 0 sizeOf51 rfl rfl rfl rfl rfl (by exact ⟨rfl, rfl, rfl, trivial⟩)) ?_
   rintro _ _ _ ⟨rfl, rfl⟩
   refine SL.A rfl (SL.nil (ST.thenN (SC.seq ?_)))
   refine SC.draw [] [(0, 2), (1, 2), (2, 2), (3, 2), (4, 2), (5, 1), (6, 2), (7, 1), (8, 1), (9, 0), (10, 2), (11, 2)] Tryz.mixed (by kernel_rfl) ?_
   refine SP.U (i := 0) rfl (SU.move rfl) (SP.U (i := 1) rfl (SU.move rfl) (SP.off (i := 2) rfl (Gd.onF rfl rfl rfl dC) dC (SP.off (i := 3) rfl (Gd.onF rfl rfl rfl dC) dC (SP.off (i := 4) rfl (Gd.onF rfl rfl rfl dC) dC (SP.off1 (i := 5) rfl (Gd.onF rfl rfl rfl dC) dC (SP.off (i := 6) rfl (Gd.onF rfl rfl rfl dC) dC (SP.off1 (i := 7) rfl (Gd.onF rfl rfl rfl dC) dC (SP.off1 (i := 8) rfl (Gd.onF rfl rfl rfl dC) dC (SP.offo (i := 9) rfl (Gd.onF rfl rfl rfl dC) dC ⟨by exact Le.refl _, (by exact .refl _)⟩ ?_)))))))))
   refine SP.off (i := 10) rfl (Gd.onF rfl rfl rfl dC) dC (SP.U (i := 11) rfl (SU.pickF rfl rfl) (SP.nil (ST.thenN (SC.condF rfl (SC.skip (ST.thenN ?_))))))
   refine SC.draw [9, 10, 11] [(0, 2), (1, 1), (2, 2), (3, 2), (4, 2), (5, 1), (6, 2), (7, 1), (8, 0), (9, 0), (10, 0), (11, 0)] Tryz.mixed (by kernel_rfl) ?_
   refine SP.U (i := 0) rfl (SU.fieldAddr underlying27 rfl sizeOf25 rfl) (SP.K (i := 1) rfl (SQ.load (v := ov) isAgg25 rfl (CellAt.own 2 rfl rfl)) (SP.U (i := 2) rfl (SU.move rfl) (SP.U (i := 3) rfl (SU.nilCheck rfl) (SP.U (i := 4) rfl (SU.fieldAddr underlying88 rfl sizeOf86 rfl) (SP.K (i := 5) rfl (SQ.load isAgg86 rfl (CellAt.known hba rfl)) (SP.U (i := 6) rfl (SU.move rfl) (SP.K (i := 7) rfl (SQ.eq (SQ.lookup mty86 rfl rfl (MapAt.known hma)) (by (rw [hget]; done))) ?_)))))))
   refine SP.o (i := 8) rfl (SO.buildSlice sty25 rfl rfl rfl (szs_mk (by exact ⟨rfl, trivial⟩)) dC) dC (.inr (by rintro _ _ _ ⟨b60, rfl, rfl, rfl⟩; exact ⟨by exact Le.refl _, (by exact .cons _ (.refl _))⟩)) ?_
   rintro _ _ _ ⟨b60, rfl, rfl, rfl⟩
   refine SP.o (i := 9) rfl (SO.app1A (e := encCell) (l := acc) 1 ⟨x.id, x.dim, ⟨xp, x.sides.length, xc⟩⟩ sty25 rfl rfl rfl rfl rfl oM oM) dC (.inl dC) ?_
   rintro v61 _ _ ⟨rfl, rfl⟩
   refine SP.facts fun ⟨w0, hw0⟩ => ?_
   obtain ⟨q9, d9, rfl⟩ := rowA_form (i := 1) hw0 rfl
   clear hw0 w0
   refine SP.ou (i := 10) rfl (SU.fieldAddr underlying27 rfl sizeOf25 rfl) dC (.inl dC) (SP.on (i := 11) rfl (SO.storeAllK 2 sizeOf25 rfl rfl rfl rfl rfl (by exact ⟨rfl, trivial⟩)) (.inl dC) ?_)
   rintro _ _ _ ⟨rfl, rfl⟩
   refine SP.nil (ST.blockN (ST.thenN (SC.region (SL.U (SU.add rfl rfl oM) (SL.M rfl (SL.nil (ST.drop (s' := rowA encCell 51 (.slice q9 (acc ++ [(⟨x.id, x.dim, ⟨xp, x.sides.length, xc⟩⟩ : Rc)]).length d9) (acc ++ [⟨x.id, x.dim, ⟨xp, x.sides.length, xc⟩⟩]) :: pt b8 (.cells #[(.slice q9 (acc ++ [(⟨x.id, x.dim, ⟨xp, x.sides.length, xc⟩⟩ : Rc)]).length d9)] 27 (0, 0)) :: pt b4 (.cells #[.slice none 0 0] 27 (0, 0)) :: pt b3 (.cells #[u] 27 (0, 0)) :: pt b2 (.cells #[v] 27 (0, 0)) :: s) (.cons _ (.refl _)) ?_)))))))
   refine ST.again (_, acc ++ [⟨x.id, x.dim, ⟨xp, x.sides.length, xc⟩⟩], k + 1) ⟨rfl, rfl, rfl, rfl, rfl, rfl, rfl, rfl, rfl, rfl, trivial⟩ rfl rfl ⟨lN, ?_, ?_⟩ lN
   ·dsimp only
    rw [htk]
    exact hacc.append ⟨hcr, trivial⟩
   ·dsimp only
    rw [htk, List.any_append, hno]
    simp [hcl]
  | some y =>
   rw [hf0] at hz3'
   have hyr : CellR g2 y ⟨zi, zd, zp, zn, zc⟩ := hz3'
   have hcl0 : clash B x = !decide (y = x) := by unfold clash; rw [hf0]
   refine SC.skip (ST.thenN (SC.seq (SC.block (SC.seq (SC.region (SL.U (SU.indexAddr underlying45 sizeOf3 rfl rfl hbi oM sL) (SL.K (SQ.elem1 isAgg3 rfl hIa.rd hgi rfl) (SL.A rfl (SL.nil (ST.thenN (SC.seq (SC.seq (SC.region (SL.M rfl (SL.U (SU.nilCheck rfl) (SL.U (SU.fieldAddr underlying88 rfl sizeOf86 rfl) (SL.K (SQ.load isAgg86 rfl (CellAt.known hbb rfl)) (SL.M rfl (SL.K (SQ.eq (v' := .tuple #[rcv ⟨zi, zd, zp, zn, zc⟩, vb true]) (SQ.lookupOk mty86 rfl rfl (MapAt.known hmb)) (by rw [hz1, hz2', hf0]; rfl)) ?_)))))))))))))))))))
   refine SL.M rfl (SL.U (SU.extract rfl rfl) (SL.U (SU.extract rfl rfl) (SL.W (SO.alloc zeroValue51) ?_)))
   rintro _ _ _ ⟨b11, rfl, rfl, rfl⟩
   refine SL.on (SO.storeAllK 0 sizeOf51 rfl rfl rfl rfl rfl (by exact ⟨rfl, rfl, rfl, trivial⟩)) ?_
   rintro _ _ _ ⟨rfl, rfl⟩
   refine SL.A rfl (SL.nil (ST.thenN (SC.seq ?_)))
   refine SC.draw [] [(0, 2), (1, 2), (2, 2), (3, 2), (4, 2), (5, 1), (6, 2), (7, 1), (8, 1), (9, 0), (10, 2), (11, 2)] Tryz.mixed (by kernel_rfl) ?_
   refine SP.U (i := 0) rfl (SU.move rfl) (SP.U (i := 1) rfl (SU.move rfl) (SP.gu (i := 2) rfl (Gd.onT rfl rfl rfl dC) (SU.move rfl) dC (SP.gu (i := 3) rfl (Gd.onT rfl rfl rfl dC) (SU.nilCheck rfl) dC (SP.gu (i := 4) rfl (Gd.onT rfl rfl rfl dC) (SU.fieldAddr underlying88 rfl sizeOf86 rfl) dC (SP.gq (i := 5) rfl (Gd.onT rfl rfl rfl dC) (SQ.load isAgg86 rfl (CellAt.known hba rfl)) dC (SP.gu (i := 6) rfl (Gd.onT rfl rfl rfl dC) (SU.move rfl) dC (SP.gq (i := 7) rfl (Gd.onT rfl rfl rfl dC) (SQ.eq (SQ.lookup mty86 rfl rfl (MapAt.known hma)) (by (rw [hget]; done))) dC ?_)))))))
   refine SP.gq (i := 8) rfl (Gd.onT rfl rfl rfl dC) (SQ.loadVarK 0 isAgg51 sizeOf51 rfl rfl rfl) dC (SP.go (i := 9) rfl (Gd.onT rfl rfl rfl dC) (SO.call call69 rfl (same_spec E g2 _ x y ⟨x.id, x.dim, ⟨xp, x.sides.length, xc⟩⟩ ⟨zi, zd, zp, zn, zc⟩ hcr hyr hxl)) dC (.inr (by rintro _ _ _ ⟨rfl, rfl, rfl⟩; exact ⟨by exact Le.refl _, (by exact .refl _)⟩)) ?_)
   rintro _ _ _ ⟨rfl, rfl, rfl⟩
   refine SP.gu (i := 10) rfl (Gd.onT rfl rfl rfl dC) (SU.notP rfl) dC (SP.U (i := 11) rfl (SU.pickT rfl rfl) (SP.nil (ST.thenN ?_)))
   refine SC.ifP rfl (fun hne => ?_) (fun hne => ?_)
   ·have hbad : A.any (clash B) = true := List.any_eq_true.2 ⟨x, hmem, by rw [hcl0]; simpa using fun e => hne e.symm⟩
    refine SC.seq (SC.region (SL.U (SU.build rfl (buildE27)) (SL.on (SO.storeAllK 3 sizeOf27 rfl rfl rfl rfl rfl (by exact ⟨rfl, trivial⟩)) ?_)))
    rintro _ _ _ ⟨rfl, rfl⟩
    refine SL.A rfl (SL.nil (ST.thenN (SC.ret (ST.thenR (ST.blockR (ST.thenR (ST.thenR (ST.blockR (ST.thenR ?_)))))))))
    exact ST.retCD1 3 s (.inl rfl) results23 rfl rfl isAgg27 sizeOf27 rfl rfl (.cons _ (.cons _ (.cons _ (.cons _ (.cons _ (.cons _ (.refl _))))))) ⟨rfl, hle1.trans hle2, _, by unfold unionC2; rw [if_pos hbad]; rfl, by unfold unionC2; rw [if_pos hbad]; exact ⟨[], Sl.nil _ _, trivial⟩⟩
   ·have hcl : clash B x = false := by rw [hcl0, ← Decidable.of_not_not hne]; simp
    refine SC.skip (ST.thenN ?_)
    refine SC.draw [9, 10, 11] [(0, 2), (1, 1), (2, 2), (3, 2), (4, 2), (5, 1), (6, 2), (7, 1), (8, 0), (9, 0), (10, 0), (11, 0)] Tryz.mixed (by kernel_rfl) ?_
    refine SP.U (i := 0) rfl (SU.fieldAddr underlying27 rfl sizeOf25 rfl) (SP.K (i := 1) rfl (SQ.load (v := ov) isAgg25 rfl (CellAt.own 2 rfl rfl)) (SP.U (i := 2) rfl (SU.move rfl) (SP.U (i := 3) rfl (SU.nilCheck rfl) (SP.U (i := 4) rfl (SU.fieldAddr underlying88 rfl sizeOf86 rfl) (SP.K (i := 5) rfl (SQ.load isAgg86 rfl (CellAt.known hba rfl)) (SP.U (i := 6) rfl (SU.move rfl) (SP.K (i := 7) rfl (SQ.eq (SQ.lookup mty86 rfl rfl (MapAt.known hma)) (by (rw [hget]; done))) ?_)))))))
    refine SP.o (i := 8) rfl (SO.buildSlice sty25 rfl rfl rfl (szs_mk (by exact ⟨rfl, trivial⟩)) dC) dC (.inr (by rintro _ _ _ ⟨b60, rfl, rfl, rfl⟩; exact ⟨by exact Le.refl _, (by exact .cons _ (.refl _))⟩)) ?_
    rintro _ _ _ ⟨b60, rfl, rfl, rfl⟩
    refine SP.o (i := 9) rfl (SO.app1A (e := encCell) (l := acc) 1 ⟨x.id, x.dim, ⟨xp, x.sides.length, xc⟩⟩ sty25 rfl rfl rfl rfl rfl oM oM) dC (.inl dC) ?_
    rintro v61 _ _ ⟨rfl, rfl⟩
    refine SP.facts fun ⟨w0, hw0⟩ => ?_
    obtain ⟨q9, d9, rfl⟩ := rowA_form (i := 1) hw0 rfl
    clear hw0 w0
    refine SP.ou (i := 10) rfl (SU.fieldAddr underlying27 rfl sizeOf25 rfl) dC (.inl dC) (SP.on (i := 11) rfl (SO.storeAllK 2 sizeOf25 rfl rfl rfl rfl rfl (by exact ⟨rfl, trivial⟩)) (.inl dC) ?_)
    rintro _ _ _ ⟨rfl, rfl⟩
    refine SP.nil (ST.blockN (ST.thenN (SC.region (SL.U (SU.add rfl rfl oM) (SL.M rfl (SL.nil (ST.drop (s' := rowA encCell 51 (.slice q9 (acc ++ [(⟨x.id, x.dim, ⟨xp, x.sides.length, xc⟩⟩ : Rc)]).length d9) (acc ++ [⟨x.id, x.dim, ⟨xp, x.sides.length, xc⟩⟩]) :: pt b8 (.cells #[(.slice q9 (acc ++ [(⟨x.id, x.dim, ⟨xp, x.sides.length, xc⟩⟩ : Rc)]).length d9)] 27 (0, 0)) :: pt b4 (.cells #[.slice none 0 0] 27 (0, 0)) :: pt b3 (.cells #[u] 27 (0, 0)) :: pt b2 (.cells #[v] 27 (0, 0)) :: s) (.cons _ (.refl _)) ?_)))))))
    refine ST.again (_, acc ++ [⟨x.id, x.dim, ⟨xp, x.sides.length, xc⟩⟩], k + 1) ⟨rfl, rfl, rfl, rfl, rfl, rfl, rfl, rfl, rfl, rfl, trivial⟩ rfl rfl ⟨lN, ?_, ?_⟩ lN
    ·dsimp only
     rw [htk]
     exact hacc.append ⟨hcr, trivial⟩
    ·dsimp only
     rw [htk, List.any_append, hno]
     simp [hcl]
 ·have hkk : A.take k = A := List.take_of_length_le oM
  rw [hkk] at hacc hno
  have hlA : acc.length = A.length := hacc.length.symm
  clear hal
  refine SC.exit (ST.thenX (ST.thenX (ST.blockX (ST.thenN (SC.seq (SC.seq (SC.region (SL.M rfl (SL.U (SU.nilCheck rfl) (SL.U (SU.fieldAddr underlying88 rfl sizeOf45 rfl) (SL.K (SQ.load (v := .slice qb B.length db) isAgg45 rfl (CellAt.known hbb rfl)) (SL.U (SU.lenN underlying45 rfl) (SL.M rfl (SL.nil (ST.thenN (SC.block ?_))))))))))))))))
  refine SC.loop (ι := Value × List Rc × Nat) (fun i => [(2, pp b2 0), (3, pp b3 0), (4, pp b4 0), (5, vb false), (6, pp ba 0), (7, pp bb 0), (8, pp b8 0), (67, .slice qb B.length db), (68, vi B.length), (69, vi i.2.2)]) (fun _ => g2) (fun i => rowA encCell 51 i.1 i.2.1 :: pt b8 (.cells #[i.1] 27 (0, 0)) :: pt b4 (.cells #[.slice none 0 0] 27 (0, 0)) :: pt b3 (.cells #[u] 27 (0, 0)) :: pt b2 (.cells #[v] 27 (0, 0)) :: s)
   (fun i => i.2.2 ≤ B.length ∧ All2 (CellR g2) (A ++ (B.take i.2.2).filter (isNew A)) i.2.1) (fun i => B.length - i.2.2)
   (ov, acc, 0) ⟨rfl, rfl, rfl, rfl, rfl, rfl, rfl, rfl, rfl, rfl, trivial⟩ rfl rfl ⟨Nat.zero_le _, by simpa using hacc⟩ ?_
  clear hlA hacc
  rintro ⟨ov, acc, k⟩ ⟨hk, hacc⟩
  dsimp only at hk hacc ⊢
  have hal := hacc.length
  have hfl := List.length_filter_le (isNew A) (B.take k)
  rw [List.length_append] at hal
  rw [List.length_take] at hfl
  refine SC.seq (SC.region (SL.U (SU.lss rfl rfl) (SL.nil (ST.thenN (SC.seq ?_)))))
  refine SC.ifP rfl (fun hlt2 => ?_) (fun hlt2 => ?_)
  ·have hkl : k < B.length := oM
   have hkr : k < rb.length := oM
   have hbi := hIb.based (by simp; omega)
   have hcr := hallb.get (List.getElem?_eq_getElem hkl) (List.getElem?_eq_getElem hkr)
   have hget : mget (rb.map rcPair) B[k].id = some (rcv rb[k]) := by
    rw [mget_pairs, ← hcr.1, find_nodup hnrB (List.getElem?_eq_getElem hkr)]; rfl
   have htk : B.take (k + 1) = B.take k ++ [B[k]] := List.take_succ_eq_append_getElem hkl
   have hgi : (B.map Cl.id)[((k : Nat) : Int).toNat]? = some B[k].id := by simp [hkl]
   generalize B[k] = x at *
   obtain ⟨xp, xc, hrx, hxs⟩ := cellR_form hcr
   rw [hrx] at hget hcr
   obtain ⟨z, hz1, hz2, hz3⟩ := all2_look halla zeroCR x.id
   obtain ⟨zi, zd, zp, zn, zc⟩ := z
   have hz2' : (mget (ra.map rcPair) x.id).isSome = (findT A x.id).isSome := hz2
   refine SC.skip (ST.thenN (SC.seq (SC.block (SC.seq (SC.region (SL.U (SU.indexAddr underlying45 sizeOf3 rfl rfl hbi oM sL) (SL.K (SQ.elem1 isAgg3 rfl hIb.rd hgi rfl) (SL.A rfl (SL.nil (ST.thenN (SC.seq (SC.region (SL.M rfl (SL.U (SU.nilCheck rfl) (SL.U (SU.fieldAddr underlying88 rfl sizeOf86 rfl) (SL.K (SQ.load isAgg86 rfl (CellAt.known hba rfl)) (SL.M rfl (SL.K (SQ.eq (v' := .tuple #[rcv ⟨zi, zd, zp, zn, zc⟩, vb (findT A x.id).isSome]) (SQ.lookupOk mty86 rfl rfl (MapAt.known hma)) (by (rw [hz1, hz2']; done))) ?_))))))))))))))))))
   refine SL.M rfl (SL.U (SU.extract rfl rfl) (SL.U (SU.extract rfl rfl) (SL.W (SO.alloc zeroValue51) ?_)))
   rintro _ _ _ ⟨b15, rfl, rfl, rfl⟩
   refine SL.on (SO.storeAllK 0 sizeOf51 rfl rfl rfl rfl rfl (by exact ⟨rfl, rfl, rfl, trivial⟩)) ?_
   rintro _ _ _ ⟨rfl, rfl⟩
   refine SL.A rfl (SL.nil (ST.thenN (SC.seq (SC.region (SL.M rfl (SL.U (SU.not rfl) (SL.nil (ST.thenN ?_))))))))
   refine SC.ifB rfl (fun hnw => ?_) (fun hnw => ?_)
   ·have hnew : isNew A x = true := by unfold isNew; cases hf : findT A x.id with | none => rfl | some w => rw [hf] at hnw; cases hnw
    refine SC.draw [9, 10, 11] [(0, 2), (1, 1), (2, 2), (3, 2), (4, 2), (5, 1), (6, 2), (7, 1), (8, 0), (9, 0), (10, 0), (11, 0)] Tryz.mixed (by kernel_rfl) ?_
    refine SP.U (i := 0) rfl (SU.fieldAddr underlying27 rfl sizeOf25 rfl) (SP.K (i := 1) rfl (SQ.load (v := ov) isAgg25 rfl (CellAt.own 2 rfl rfl)) (SP.U (i := 2) rfl (SU.move rfl) (SP.U (i := 3) rfl (SU.nilCheck rfl) (SP.U (i := 4) rfl (SU.fieldAddr underlying88 rfl sizeOf86 rfl) (SP.K (i := 5) rfl (SQ.load isAgg86 rfl (CellAt.known hbb rfl)) (SP.U (i := 6) rfl (SU.move rfl) (SP.K (i := 7) rfl (SQ.eq (SQ.lookup mty86 rfl rfl (MapAt.known hmb)) (by (rw [hget]; done))) ?_)))))))
    refine SP.o (i := 8) rfl (SO.buildSlice sty25 rfl rfl rfl (szs_mk (by exact ⟨rfl, trivial⟩)) dC) dC (.inr (by rintro _ _ _ ⟨b92, rfl, rfl, rfl⟩; exact ⟨by exact Le.refl _, (by exact .cons _ (.refl _))⟩)) ?_
    rintro _ _ _ ⟨b92, rfl, rfl, rfl⟩
    refine SP.o (i := 9) rfl (SO.app1A (e := encCell) (l := acc) 1 ⟨x.id, x.dim, ⟨xp, x.sides.length, xc⟩⟩ sty25 rfl rfl rfl rfl rfl oM oM) dC (.inl dC) ?_
    rintro v93 _ _ ⟨rfl, rfl⟩
    refine SP.facts fun ⟨w0, hw0⟩ => ?_
    obtain ⟨q9, d9, rfl⟩ := rowA_form (i := 1) hw0 rfl
    clear hw0 w0
    refine SP.ou (i := 10) rfl (SU.fieldAddr underlying27 rfl sizeOf25 rfl) dC (.inl dC) (SP.on (i := 11) rfl (SO.storeAllK 2 sizeOf25 rfl rfl rfl rfl rfl (by exact ⟨rfl, trivial⟩)) (.inl dC) ?_)
    rintro _ _ _ ⟨rfl, rfl⟩
    refine SP.nil (ST.blockN (ST.thenN (SC.region (SL.U (SU.add rfl rfl oM) (SL.M rfl (SL.nil (ST.drop (s' := rowA encCell 51 (.slice q9 (acc ++ [(⟨x.id, x.dim, ⟨xp, x.sides.length, xc⟩⟩ : Rc)]).length d9) (acc ++ [⟨x.id, x.dim, ⟨xp, x.sides.length, xc⟩⟩]) :: pt b8 (.cells #[(.slice q9 (acc ++ [(⟨x.id, x.dim, ⟨xp, x.sides.length, xc⟩⟩ : Rc)]).length d9)] 27 (0, 0)) :: pt b4 (.cells #[.slice none 0 0] 27 (0, 0)) :: pt b3 (.cells #[u] 27 (0, 0)) :: pt b2 (.cells #[v] 27 (0, 0)) :: s) (.cons _ (.refl _)) ?_)))))))
    refine ST.again (_, acc ++ [⟨x.id, x.dim, ⟨xp, x.sides.length, xc⟩⟩], k + 1) ⟨rfl, rfl, rfl, rfl, rfl, rfl, rfl, rfl, rfl, rfl, trivial⟩ rfl rfl ⟨lN, ?_⟩ lN
    dsimp only
    rw [htk, List.filter_append, ← List.append_assoc]
    simp only [List.filter_cons, hnew, if_true, List.filter_nil]
    exact hacc.append ⟨hcr, trivial⟩
   ·have hnew : isNew A x = false := by unfold isNew; cases hf : findT A x.id with | none => rw [hf] at hnw; cases hnw | some w => rfl
    refine SC.skip (ST.blockN (ST.thenN (SC.region (SL.U (SU.add rfl rfl oM) (SL.M rfl (SL.nil (ST.drop (s' := rowA encCell 51 ov acc :: pt b8 (.cells #[ov] 27 (0, 0)) :: pt b4 (.cells #[.slice none 0 0] 27 (0, 0)) :: pt b3 (.cells #[u] 27 (0, 0)) :: pt b2 (.cells #[v] 27 (0, 0)) :: s) (.cons _ (.refl _)) ?_)))))))
    refine ST.again (ov, acc, k + 1) ⟨rfl, rfl, rfl, rfl, rfl, rfl, rfl, rfl, rfl, rfl, trivial⟩ rfl rfl ⟨lN, ?_⟩ lN
    dsimp only
    rw [htk, List.filter_append]
    simp only [List.filter_cons, hnew, List.filter_nil]
    simpa using hacc
  ·have hkk2 : B.take k = B := List.take_of_length_le oM
   rw [hkk2] at hacc
   refine SC.exit (ST.thenX (ST.thenX (ST.blockX (ST.thenN (SC.seq (SC.freezeRow fun g3 hle3 hs3 => ?_))))))
   have hov : Cells g3 ov (A ++ B.filter (isNew A)) := ⟨acc, hs3, hacc.mono fun _ _ => CellR.mono hle3⟩
   refine SC.region (SL.K (SQ.loadVarK 0 isAgg27 sizeOf27 rfl rfl rfl) (SL.W (SO.call call30 rfl (canon_spec E g3 _ _ _ hov hfu)) ?_))
   rintro _ g4 _ ⟨rfl, hle4, x4, rfl, hx4⟩
   obtain ⟨q4, d4, rfl⟩ := hx4.form
   refine SL.on (SO.storeAllK 1 sizeOf27 rfl rfl rfl rfl rfl (by exact ⟨rfl, trivial⟩)) ?_
   rintro _ _ _ ⟨rfl, rfl⟩
   refine SL.A rfl (SL.nil (ST.thenN (SC.ret ?_)))
   exact ST.retCD1 1 s (.inl rfl) results23 rfl rfl isAgg27 sizeOf27 rfl rfl (.cons _ (.cons _ (.cons _ (.cons _ (.refl _))))) ⟨rfl, hle1.trans (hle2.trans (hle3.trans hle4)), _, by unfold unionC2; rw [if_neg (by rw [hno]; simp)]; rfl, by unfold unionC2; rw [if_neg (by rw [hno]; simp)]; exact hx4⟩
theorem lawSame_spec (E : World) (g : PH) (s : Own) (v u : Value) (l m : List Cl) (hv : Cells g v l) (hu : Cells g u m) (hf : Fits l) :
  Ctr Tryz.prog E 13 #[.agg #[v], .agg #[u]] g s (fun r g' s' => r = vb (decide (l = m)) ∧ g = g' ∧ s = s') := by
 obtain ⟨ra, hra, halla⟩ := hv
 obtain ⟨rb, hrb, hallb⟩ := hu
 have eal := halla.length
 have ebl := hallb.length
 have hll := hf.1
 obtain ⟨pa, ca, rfl⟩ := hra.form
 obtain ⟨pb, cb, rfl⟩ := hrb.form
 refine Ctr.of (args := [.agg #[.slice pa ra.length ca], .agg #[.slice pb rb.length cb]]) func13 rfl ntmps13 (Nat.le_of_ble_eq_true rfl) ?_
 refine SC.seq (SC.region (SL.W (SO.box rfl) ?_))
 rintro _ _ _ ⟨b2, rfl, rfl, rfl⟩
 refine SL.W (SO.box rfl) ?_
 rintro _ _ _ ⟨b3, rfl, rfl, rfl⟩
 refine SL.A rfl (SL.nil (ST.thenN (SC.seq (SC.seq (SC.region (SL.U (SU.fieldAddr underlying27 rfl sizeOf25 rfl) (SL.K (SQ.load (v := .slice pa ra.length ca) isAgg25 rfl (CellAt.own 1 rfl rfl)) (SL.U (SU.lenN underlying25 rfl) (SL.U (SU.fieldAddr underlying27 rfl sizeOf25 rfl) (SL.K (SQ.load (v := .slice pb rb.length cb) isAgg25 rfl (CellAt.own 0 rfl rfl)) (SL.U (SU.lenN underlying25 rfl) (SL.U (SU.neq rfl rfl) (SL.nil (ST.thenN ?_))))))))))))))
 refine SC.ifP rfl (fun hne => ?_) (fun hne => ?_)
 ·refine SC.seq (SC.region (SL.A rfl (SL.nil (ST.thenN (SC.ret (ST.thenR (ST.drop (s' := s) (.cons _ (.cons _ (.refl _))) ?_)))))))
  exact ST.ret1 (.inl rfl) results13 rfl ⟨by rw [decide_eq_false (fun e : l = m => by rw [e] at eal; omega)], rfl, rfl⟩
 ·refine SC.skip (ST.thenN (SC.seq (SC.seq (SC.region (SL.A rfl (SL.nil (ST.thenN (SC.block ?_))))))))
  have hlen : l.length = m.length := oM
  refine SC.loop (ι := Nat) (fun k => [(2, pp b2 0), (3, pp b3 0), (5, vi k)]) (fun _ => g) (fun _ => pt b3 (.cells #[.slice pb rb.length cb] 27 (0, 0)) :: pt b2 (.cells #[.slice pa ra.length ca] 27 (0, 0)) :: s) (fun k => k ≤ l.length ∧ l.take k = m.take k) (fun k => l.length - k) 0
   ⟨rfl, rfl, rfl, trivial⟩ rfl rfl ⟨Nat.zero_le _, by simp⟩ ?_
  rintro k ⟨hk, heq⟩
  refine SC.seq (SC.seq (SC.region (SL.M rfl (SL.U (SU.fieldAddr underlying27 rfl sizeOf25 rfl) (SL.K (SQ.load (v := .slice pa ra.length ca) isAgg25 rfl (CellAt.own 1 rfl rfl)) (SL.U (SU.lenN underlying25 rfl) (SL.U (SU.lss rfl rfl) (SL.nil (ST.thenN ?_)))))))))
  refine SC.ifP rfl (fun hlt => ?_) (fun hlt => ?_)
  ·have hkl : k < l.length := oM
   have hkm : k < m.length := oM
   have hb1 := hra.based oM
   have hb2 := hrb.based oM
   have h1 := halla.get (List.getElem?_eq_getElem hkl) (List.getElem?_eq_getElem (show k < ra.length by omega))
   have h2 := hallb.get (List.getElem?_eq_getElem hkm) (List.getElem?_eq_getElem (show k < rb.length by omega))
   have g1 : ra[((k : Nat) : Int).toNat]? = some ra[k] := List.getElem?_eq_getElem (show k < ra.length by omega)
   have g2 : rb[((k : Nat) : Int).toNat]? = some rb[k] := List.getElem?_eq_getElem (show k < rb.length by omega)
   have hxl := hf.2 _ (List.getElem_mem hkl)
   refine SC.skip (ST.thenN (SC.seq (SC.block (SC.seq ?_))))
   refine SC.draw [] [(0, 2), (1, 1), (2, 2), (3, 2), (4, 1), (5, 2), (6, 1), (7, 2), (8, 2), (9, 1), (10, 0), (11, 2)] Tryz.mixed (by kernel_rfl) ?_
   refine SP.U (i := 0) rfl (SU.fieldAddr underlying27 rfl sizeOf25 rfl) (SP.K (i := 1) rfl (SQ.load (v := .slice pa ra.length ca) isAgg25 rfl (CellAt.own 1 rfl rfl)) (SP.U (i := 2) rfl (SU.move rfl) (SP.U (i := 3) rfl (SU.indexAddr underlying25 sizeOf51 rfl rfl hb1 oM sL) (SP.K (i := 4) rfl (SQ.elemA isAgg51 sizeOf51 rfl hra.rd g1) (SP.U (i := 5) rfl (SU.fieldAddr underlying27 rfl sizeOf25 rfl) (SP.K (i := 6) rfl (SQ.load (v := .slice pb rb.length cb) isAgg25 rfl (CellAt.own 0 rfl rfl)) (SP.U (i := 7) rfl (SU.move rfl) (SP.U (i := 8) rfl (SU.indexAddr underlying25 sizeOf51 rfl rfl hb2 oM sL) (SP.K (i := 9) rfl (SQ.elemA isAgg51 sizeOf51 rfl hrb.rd g2) (SP.o (i := 10) rfl (SO.call call53 rfl (sameCell_spec E g _ l[k] m[k] _ _ h1 h2 hxl)) dC (.inr (by rintro _ _ _ ⟨rfl, rfl, rfl⟩; exact ⟨by exact Le.refl _, (by exact .refl _)⟩)) ?_))))))))))
   rintro _ _ _ ⟨rfl, rfl, rfl⟩
   refine SP.U (i := 11) rfl (SU.notP rfl) (SP.nil (ST.thenN ?_))
   refine SC.ifP rfl (fun hd => ?_) (fun hd => ?_)
   ·refine SC.seq (SC.region (SL.A rfl (SL.nil (ST.thenN (SC.ret (ST.blockR (ST.thenR (ST.thenR (ST.blockR (ST.thenR (ST.drop (s' := s) (.cons _ (.cons _ (.refl _))) ?_)))))))))))
    exact ST.ret1 (.inl rfl) results13 rfl ⟨by rw [decide_eq_false (fun e : l = m => hd (by simp [e]))], rfl, rfl⟩
   ·refine SC.skip (ST.blockN (ST.thenN (SC.region (SL.M rfl (SL.U (SU.add rfl rfl oM) (SL.A rfl (SL.nil ?_)))))))
    exact ST.again (k + 1) ⟨rfl, rfl, rfl, trivial⟩ rfl rfl ⟨oM, by rw [List.take_succ_eq_append_getElem hkl, List.take_succ_eq_append_getElem hkm, heq, Decidable.of_not_not hd]⟩ oM
  ·refine SC.exit (ST.thenX (ST.thenX (ST.blockX (ST.thenN (SC.seq (SC.region (SL.A rfl (SL.nil (ST.thenN (SC.ret ?_))))))))))
   have heq2 : l = m := by rw [List.take_of_length_le oM, List.take_of_length_le oM] at heq; exact heq
   refine ST.drop (s' := s) (.cons _ (.cons _ (.refl _))) ?_
   exact ST.ret1 (.inl rfl) results13 rfl ⟨by rw [decide_eq_true heq2], rfl, rfl⟩
end Go.Proofs.YtkdibcicncjpdaaGreat
namespace Go.Sy
open Go
section
variable {P : Program} {N : Nat} {E : World} {f : Fr} {g : PH} {s s1 : Own} {dst : Option Tmp} {ty : TypeId} {pos : String} {af : Array Edge} {gd : Option (Nat × Bool)} {α : Type} {k : Nat} {e : Enc α k}
def que (e : Enc α k) (T : TypeId) (v : Value) (l : List α) : Ent :=
 ⟨rblk v, fun oo => (∃ p, v = .slice p 0 0 ∧ l = []) ∨
  ∃ b o cap cur, v = .slice (some ⟨b, o, none⟩) l.length (cap + 1) ∧ oo = some (.cells cur T (0, 0)) ∧ l.length ≤ cap + 1 ∧ cap + 1 ≤ maxLen ∧ cur.size = o + (cap + 1) * k ∧ (cur.toList.drop o).take (l.length * k) = l.flatMap e.enc⟩
theorem que_is {w : World} {T : TypeId} {i : Nat} {v : Value} {l : List α} (h : At E g s w) (hi : s[i]? = some (que e T v l)) : (∃ p, v = .slice p 0 0 ∧ l = []) ∨
  ∃ b o cap cur, v = .slice (some ⟨b, o, none⟩) l.length (cap + 1) ∧ w.heap[b]? = some (.cells cur T (0, 0)) ∧ l.length ≤ cap + 1 ∧ cap + 1 ≤ maxLen ∧ cur.size = o + (cap + 1) * k ∧ (cur.toList.drop o).take (l.length * k) = l.flatMap e.enc := by
 rcases h.own _ (List.mem_of_getElem? hi) with h2 | ⟨b, o, cap, cur, rfl, ho, h3⟩
 ·exact .inl h2
 ·refine .inr ⟨b, o, cap, cur, rfl, ?_, h3⟩
  simpa [que, rblk] using ho
theorem que_holds {w : World} {T : TypeId} {b o cap : Nat} {l : List α} {cur : Array Value} (hb : w.heap[b]? = some (.cells cur T (0, 0))) (hn : l.length ≤ cap + 1) (hc : cap + 1 ≤ maxLen) (hs : cur.size = o + (cap + 1) * k) (ht : (cur.toList.drop o).take (l.length * k) = l.flatMap e.enc) :
  (que e T (.slice (some ⟨b, o, none⟩) l.length (cap + 1)) l).holds ((que e T (.slice (some ⟨b, o, none⟩) l.length (cap + 1)) l).blk.bind fun b => w.heap[b]?) :=
 .inr ⟨b, o, cap, cur, rfl, by simpa [que, rblk] using hb, hn, hc, hs, ht⟩
theorem que_form {w : World} {T : TypeId} {i : Nat} {v : Value} {l : List α} (h : At E g s w) (hi : s[i]? = some (que e T v l)) : ∃ p c, v = .slice p l.length c ∧ (0 < l.length → based v = true) := by
 rcases que_is h hi with ⟨p, rfl, rfl⟩ | ⟨b, o, cap, cur, rfl, _⟩
 ·exact ⟨_, _, rfl, fun h => absurd h (by simp)⟩
 ·exact ⟨_, _, rfl, fun _ => rfl⟩
theorem At.toQue {w : World} {T : TypeId} {i : Nat} {v : Value} {l : List α} (h : At E g s w) (hi : s[i]? = some (rowA e T v l)) : At E g (s.set i (que e T v l)) w := by
 obtain ⟨hxl, hform⟩ := row_is h hi
 refine h.turn hi rfl ⟨rfl, Nat.le_refl _⟩ rfl (Nat.le_refl _) (fun _ _ _ => rfl) ?_ (fun b hb => ⟨(h.fresh _ (List.mem_of_getElem? hi) b hb).2, .inl hb⟩)
 rcases hform with ⟨q, rfl, h0⟩ | ⟨b, cap, cur, rfl, hg, hle, hcm, hcs, htake⟩
 ·exact .inl ⟨q, rfl, List.eq_nil_of_length_eq_zero h0⟩
 ·exact que_holds hg hle hcm (by rw [hcs]; omega) (by simpa using htake)
theorem At.front {w : World} {T : TypeId} {i c n : Nat} {p : Option Addr} {a : α} {l : List α} (h : At E g s w) (hi : s[i]? = some (que e T (.slice p n c) (a :: l))) : At E g (s.set i (que e T (sliced p 1 n c k) l)) w := by
 rcases que_is h hi with ⟨q, he, h0⟩ | ⟨b, o, cap, cur, he, hg, hle, hcm, hcs, htake⟩
 ·cases h0
 ·injection he with e1 e2 e3
  subst e1; subst e2; subst e3
  have hfr := h.fresh _ (List.mem_of_getElem? hi) b rfl
  cases cap with
  | zero =>
   have hl0 : l = [] := by simpa using hle
   subst hl0
   refine h.turn hi rfl ⟨rfl, Nat.le_refl _⟩ rfl (Nat.le_refl _) (fun _ _ _ => rfl) (.inl ⟨_, rfl, rfl⟩) (fun b' hb' => ?_)
   simp [que, sliced, rblk] at hb'
  | succ cap =>
   have hsl : sliced (some ⟨b, o, none⟩) 1 (a :: l).length (cap + 1 + 1) k = .slice (some ⟨b, o + k, none⟩) l.length (cap + 1) := by
    simp [sliced, Addr.add_lit]
   rw [hsl]
   refine h.turn hi rfl ⟨rfl, Nat.le_refl _⟩ rfl (Nat.le_refl _) (fun _ _ _ => rfl) ?_ (fun b' hb' => ?_)
   ·refine que_holds hg (by simpa using hle) oM (by rw [hcs, Nat.succ_mul (cap + 1)]; omega) ?_
    have h1 := congrArg (List.drop k) htake
    rw [List.flatMap_cons, List.drop_left' (e.len a), List.drop_take, List.drop_drop] at h1
    have h2 : (a :: l).length * k - k = l.length * k := by rw [List.length_cons, Nat.succ_mul]; omega
    rw [h2] at h1
    exact h1
   ·simp only [que, rblk, Option.some.injEq] at hb'
    subst hb'
    exact ⟨hfr.2, .inl rfl⟩
theorem Rd.que {T : TypeId} {v : Value} {l : List α} (i : Nat) (hi : s[i]? = some (que e T v l)) : Rd g s v (l.flatMap e.enc) := by
 intro E w hw j x hj
 rcases que_is hw hi with ⟨p, rfl, rfl⟩ | ⟨b, o, cap, cur, rfl, hb, _, _, _, ht⟩
 ·simp at hj
 ·refine ⟨⟨b, o, none⟩, l.length, cap + 1, rfl, rfl, ?_⟩
  rw [← ht, List.getElem?_take] at hj
  split at hj
  ·rw [List.getElem?_drop] at hj
   simp [World.cell?, hb]
   simpa using hj
  ·cases hj
theorem run_append_roomO (w : World) (t ty e : TypeId) (i : TypeInfo) (ht : P.underlying t = some (.slice e)) (hi : P.info? e = some i)
  (g o sLen sCap : Nat) (cur : Array Value) (hg : w.heap[g]? = some (.cells cur e (0, 0)))
  (a : Addr) (m c : Nat) (news : List Value) (hl : news.length = m * i.size) (hnews : ∀ j u, news[j]? = some u → w.cell? (a.add j) = some u) (h1 : ∀ u ∈ news, u.oneCell' = true)
  (hroom : sLen + m ≤ sCap) (hfit : o + sLen * i.size + news.length ≤ cur.size) :
  (Builtin.append_ #[t, t] ty #[.slice (some ⟨g, o, none⟩) sLen sCap, .slice (some a) m c]).run P w =
   .ok (.slice (some ⟨g, o, none⟩) (sLen + m) sCap) (w.setRow g (cur.toList.take (o + sLen * i.size) ++ news ++ cur.toList.drop (o + sLen * i.size + news.length)).toArray) := by
 have hf := run_firstCells_some (P := P) w i.size m a m c news hl hnews
 have hst := run_storeCells_at P g (o + sLen * i.size) e news 0 cur w hg (by simpa using hfit) h1
 simp only [Nat.add_zero] at hst
 simp [Builtin.append_, run_underlying ht, sizeOf, typeInfo, hi, Builtin.lenOf, hroom, hf, Addr.add_lit, hst]
theorem At.newQue {w w' : World} {T : TypeId} {i cap : Nat} {v : Value} {l : List α} {a : α} {zs : List Value} (h : At E g s w) (hi : s[i]? = some (que e T v l)) (hw' : w' = w.drew.alloc (.cells ((l.flatMap e.enc).toArray ++ (e.enc a).toArray ++ zs.toArray) T))
  (hc : l.length + 1 ≤ cap) (hcm : cap ≤ maxLen) (hz : zs.length = (cap - (l.length + 1)) * k) :
  At E g (s.set i (que e T (.slice (some ⟨w.heap.size, 0, none⟩) (l.length + 1) cap) (l ++ [a]))) w' := by
 subst hw'
 obtain ⟨cap, rfl⟩ : ∃ c, cap = c + 1 := ⟨cap - 1, oM⟩
 have hnew : (w.drew.alloc (.cells ((l.flatMap e.enc).toArray ++ (e.enc a).toArray ++ zs.toArray) T)).heap[w.heap.size]? = some (.cells ((l.flatMap e.enc).toArray ++ (e.enc a).toArray ++ zs.toArray) T (0, 0)) := heap_alloc_new w.drew _
 have hlen : l.length + 1 = (l ++ [a]).length := by simp
 rw [hlen]
 refine h.turn hi rfl ⟨rfl, (by exact Nat.le_add_right _ _)⟩ rfl (by simp) (fun k hk _ => by (first | exact heap_alloc_old w.drew _ k hk | exact heap_alloc_old w.drew _ hk)) (que_holds hnew (by simpa using hc) hcm ?_ ?_) (fun b hb => ?_)
 ·simp only [Array.size_append, List.size_toArray, e.length, e.len, hz]
  have : (cap + 1) * k = (l.length + 1) * k + (cap + 1 - (l.length + 1)) * k := by rw [← Nat.add_mul]; congr 1; omega
  rw [this, Nat.add_mul]
  omega
 ·have : (l ++ [a]).length * k = (l.flatMap e.enc ++ e.enc a).length := by simp [e.length, e.len, Nat.add_mul]
  rw [this]
  simp only [Array.toList_append, List.drop_zero]
  rw [List.take_left, List.flatMap_append]
  simp
 ·simp only [que, rblk, Option.some.injEq] at hb
  subst hb
  exact ⟨by simp, .inr (Nat.le_refl _)⟩
theorem SO.queA {bytes b : Nat} {x y : Operand} {t T : TypeId} {z v : Value} {l : List α} {cs : Array Value} (i : Nat) (a : α) (hT : STy P t T k bytes z) (hx : ev f x = some v) (hy : ev f y = some (.slice (some ⟨b, 0, none⟩) 1 1))
  (hs : s = pt b (.cells cs T (0, 0)) :: s1) (hi : s1[i]? = some (que e T v l)) (hc : cs.toList = e.enc a) (hb : (l.length + 1) * bytes ≤ 140737488355328) (hlen : l.length + 1 ≤ 4611686018427387904) :
  SO P N E ⟨dst, .call ⟨.builtin .append, #[x, y], #[t, t]⟩, ty, pos, af, gd⟩ f g s fun v' g' s' => g = g' ∧ s' = s1.set i (que e T v' (l ++ [a])) :=
 SO.of_run fun a0 w ha hw0 => by
  have hr : Rd g s (.slice (some ⟨b, 0, none⟩) 1 1) cs.toList := Rd.pt 0 (by rw [hs]; rfl)
  have hw : At E g s1 w := hw0.sublist (by rw [hs]; exact .cons _ (.refl _))
  obtain ⟨ti, ht1, ht2, ht3, ht4⟩ := hT.info
  rw [hc] at hr
  have hcells : ∀ j q, (e.enc a)[j]? = some q → w.cell? ((⟨b, 0, none⟩ : Addr).add j) = some q := fun j q hq => by
   obtain ⟨a', _, _, he, _, hc⟩ := hr E w hw0 j q hq
   cases he
   have hadd : (⟨b, 0, none⟩ : Addr).add j = ⟨b, 0 + j, none⟩ := by unfold Addr.add; split <;> simp_all
   rw [hadd]
   exact hc
  have hl1 : (e.enc a).length = 1 * k := by rw [e.len]; omega
  have hzs : ∀ c, (Builtin.zeroCells z.cells c).toList.length = c * k := fun c => by simp [size_zeroCells, hT.zs]
  have key : ∃ v' w', (Builtin.append_ #[t, t] ty #[v, .slice (some ⟨b, 0, none⟩) 1 1]).run P w = .ok v' w' ∧ At E g (s1.set i (que e T v' (l ++ [a]))) w' := by
   rcases que_is hw hi with ⟨q, rfl, rfl⟩ | ⟨bq, o, cap, cur, rfl, hg, hle, hcm, hcs, htake⟩
   ·have hge := grownCap_ge w (0 + 1) 0 T
    have hcm := grownCap_le_maxLen w (0 + 1) 0 T (by unfold maxLen; omega)
    cases q with
    | none =>
     have h5 := run_append_nil (P := P) w t ty T ti z hT.und ht1 ht2 ⟨b, 0, none⟩ 1 1 (e.enc a) (by rw [ht3]; exact hl1) hcells oM oM (by rw [ht4]; simp at hb; omega)
     have h6 := hw.newQue (e := e) (l := []) (a := a) (zs := (Builtin.zeroCells z.cells (grownCap w (0 + 1) 0 T - (0 + 1))).toList) hi rfl hge hcm (by rw [hzs]; rfl)
     refine ⟨_, _, h5, ?_⟩
     simpa using h6
    | some q =>
     have h5 := run_append_grow (P := P) w t ty T ti z hT.und ht1 ht2 q 0 0 [] (by simp) (by simp) ⟨b, 0, none⟩ 1 1 (e.enc a) (by rw [ht3]; exact hl1) hcells oM oM (by rw [ht4]; exact growslice_fits oM (by simpa using hb))
     have h6 := hw.newQue (e := e) (l := []) (a := a) (zs := (Builtin.zeroCells z.cells (grownCap w (0 + 1) 0 T - (0 + 1))).toList) hi rfl hge hcm (by rw [hzs]; rfl)
     refine ⟨_, _, h5, ?_⟩
     simpa using h6
   ·by_cases hroom : l.length + 1 ≤ cap + 1
    ·have hfit : o + l.length * k + (e.enc a).length ≤ cur.size := by
      rw [hl1, hcs, Nat.add_assoc, ← Nat.add_mul]
      exact Nat.add_le_add_left (Nat.mul_le_mul_right _ hroom) _
     have h5 := run_append_roomO (P := P) w t ty T ti hT.und ht1 bq o l.length (cap + 1) cur hg ⟨b, 0, none⟩ 1 1 (e.enc a) (by rw [ht3]; exact hl1) hcells (e.one a) hroom (by rw [ht3]; exact hfit)
     refine ⟨_, _, h5, ?_⟩
     have hfr := hw.fresh _ (List.mem_of_getElem? hi) bq rfl
     have hlen : l.length + 1 = (l ++ [a]).length := by simp
     rw [hlen]
     refine hw.turn hi rfl ⟨rfl, (by exact Nat.le_refl _)⟩ rfl (by simp) (fun k' _ hk' => setRow_other w bq k' _ (fun e1 => hk' (by simp [que, rblk, e1]))) (que_holds (setRow_heap w bq cur _ T _ hg) (by simpa using hroom) hcm ?_ ?_) (fun b' hb' => ?_)
     ·rw [ht3]
      simp only [List.size_toArray, List.length_append, List.length_take, List.length_drop, Array.length_toList]
      omega
     ·rw [ht3]
      have hsz : cur.toList.length = cur.size := by simp
      have h1 : cur.toList.take (o + l.length * k) = cur.toList.take o ++ l.flatMap e.enc := by
       rw [← htake, List.take_add]
      have h2 : (cur.toList.take o).length = o := by rw [List.length_take]; omega
      simp only [h1, List.append_assoc]
      rw [List.drop_left' h2, ← List.append_assoc]
      have h3 : (l ++ [a]).length * k = (l.flatMap e.enc ++ e.enc a).length := by simp [e.length, e.len, Nat.add_mul]
      rw [h3, List.take_left, List.flatMap_append]
      simp
     ·simp only [que, rblk, Option.some.injEq] at hb'
      subst hb'
      exact ⟨by simpa using hfr.2, .inl rfl⟩
    ·have holds : ∀ j q, (l.flatMap e.enc)[j]? = some q → w.cell? ((⟨bq, o, none⟩ : Addr).add j) = some q := fun j q hq => by
      have hadd : (⟨bq, o, none⟩ : Addr).add j = ⟨bq, o + j, none⟩ := by unfold Addr.add; split <;> simp_all
      rw [← htake, List.getElem?_take] at hq
      split at hq
      ·rw [List.getElem?_drop] at hq
       rw [hadd]; simp [World.cell?, hg]; simpa using hq
      ·cases hq
     have hge := grownCap_ge w (l.length + 1) (cap + 1) T
     have hcm' := grownCap_le_maxLen w (l.length + 1) (cap + 1) T (by unfold maxLen; omega)
     have h5 := run_append_grow (P := P) w t ty T ti z hT.und ht1 ht2 ⟨bq, o, none⟩ l.length (cap + 1) (l.flatMap e.enc) (by rw [ht3]; exact e.length l) holds ⟨b, 0, none⟩ 1 1 (e.enc a) (by rw [ht3]; exact hl1) hcells oM oM (by rw [ht4]; exact growslice_fits oM hb)
     have h6 := hw.newQue (a := a) (zs := (Builtin.zeroCells z.cells (grownCap w (l.length + 1) (cap + 1) T - (l.length + 1))).toList) hi rfl hge hcm' (by rw [hzs])
     refine ⟨_, _, h5, ?_⟩
     simpa using h6
  obtain ⟨v', w', hr1, hr2⟩ := key
  exact ⟨v', w', g, _, run_appendOp (ha.ev hx) (ha.ev hy) hr1, hr2, rfl, rfl⟩
end
end Go.Sy
namespace Go.Proofs.YtkdibcicncjpdaaGreat
open _root_.Go.Proofs.Tryz _root_.Go.Proofs.YtkdibcicncjpdaaGreat.Tryz
open Go Go.Sy Go.Pl Go.Proofs
def adjT (A : List Cl) (k : Int) : Option (List Int) := (findT A k).map fun c => c.sides.map Side.cell
theorem reachF_dfs (A : List Cl) : ∀ (n : Nat) (id : Int) (vis : List Int), reachF A n id vis = dfs (adjT A) n id vis
 | 0, _, _ => rfl
 | n + 1, id, vis => by
  rw [reachF_succ, dfs_succ]
  unfold adjT
  cases findT A id with
  | none => rfl
  | some c =>
   simp only [Option.map_some, List.foldl_map]
   congr 2
   funext v x
   exact reachF_dfs A n x.cell v
theorem adjT_some {A : List Cl} {k : Int} {l : List Int} (h : adjT A k = some l) : ∃ c, findT A k = some c ∧ c.sides.map Side.cell = l := by
 unfold adjT at h
 cases hf : findT A k with
 | none => rw [hf] at h; cases h
 | some c => rw [hf] at h; injection h with h; exact ⟨c, rfl, h⟩
theorem cntF_strict (A : List Cl) : ∀ v k l, adjT A k = some l → l ≠ [] → v.contains k = false → cntF A (v ++ [k]) < cntF A v := by
 intro v k l hl _ hv
 obtain ⟨c, hf, _⟩ := adjT_some hl
 obtain ⟨hm, rfl⟩ := findT_mem hf
 exact cntF_lt hm hv
def ClosedT (A : List Cl) (v : List Int) : Prop := ∀ x ∈ v, ∀ l, adjT A x = some l → ∀ y ∈ l, adjT A y ≠ none → y ∈ v
theorem clos_fold (A : List Cl) : ∀ (ids v : List Int), ClosedT A v → ClosedT A (ids.foldl (fun v id => reachF A (A.length + 1) id v) v) ∧ (∀ x ∈ v, x ∈ ids.foldl (fun v id => reachF A (A.length + 1) id v) v) ∧
  (∀ id ∈ ids, adjT A id ≠ none → id ∈ ids.foldl (fun v id => reachF A (A.length + 1) id v) v) ∧ ∀ x ∈ ids.foldl (fun v id => reachF A (A.length + 1) id v) v, x ∈ v ∨ ∃ id ∈ ids, Rch (adjT A) id x
 | [], v, h => ⟨h, fun _ h => h, by simp, fun _ h => .inl h⟩
 | id :: ids, v, h => by
  have hc := dfs_complete (adjT A) (cntF A) (fun v v' h => cntF_mono h) (cntF_strict A) (A.length + 1) id v (Nat.lt_succ_of_le (cntF_le _ _))
  have hs := dfs_sub (adjT A) (A.length + 1) id v
  have hd := dfs_sound (adjT A) (A.length + 1) id v
  rw [← reachF_dfs] at hc hs hd
  have hcl : ClosedT A (reachF A (A.length + 1) id v) := by
   intro x hx l hl y hy hn
   by_cases hv : x ∈ v
   ·exact hs y (h x hv l hl y hy hn)
   ·exact hc.2 x hx hv l hl y hy hn
  obtain ⟨h1, h2, h3, h4⟩ := clos_fold A ids _ hcl
  simp only [List.foldl_cons]
  refine ⟨h1, fun x hx => h2 x (hs x hx), fun q hq hn => ?_, fun x hx => ?_⟩
  ·rcases List.mem_cons.1 hq with rfl | hq
   ·exact h2 _ (hc.1 hn)
   ·exact h3 q hq hn
  ·rcases h4 x hx with h5 | ⟨q, hq, h5⟩
   ·rcases hd x h5 with h6 | h6
    ·exact .inl h6
    ·exact .inr ⟨id, by simp, h6⟩
   ·exact .inr ⟨q, by simp [hq], h5⟩
theorem mem_closF (A : List Cl) (ids : List Int) (x : Int) : x ∈ closF A ids ↔ ∃ id ∈ ids, Rch (adjT A) id x := by
 obtain ⟨h1, _, h3, h4⟩ := clos_fold A ids [] (fun x hx => absurd hx (by simp))
 refine ⟨fun h => (h4 x h).resolve_left (by simp), fun ⟨id, hid, hr⟩ => ?_⟩
 have key : ∀ a b, Rch (adjT A) a b → a ∈ closF A ids → b ∈ closF A ids := by
  intro a b hr
  induction hr with
  | refl a _ => exact fun h => h
  | step a b c l hl hb r ih => exact fun h => ih (h1 a h l hl b hb r.node)
 exact key id x hr (h3 id hid hr.node)
def costF (A : List Cl) (m : List Int) : Nat := ((A.filter fun c => !m.contains c.id).map fun c => c.sides.length).sum
theorem costF_cons (d : Cl) (A : List Cl) (m : List Int) : costF (d :: A) m = (if m.contains d.id then 0 else d.sides.length) + costF A m := by
 unfold costF
 rw [List.filter_cons]
 cases m.contains d.id <;> simp
theorem costF_mono (A : List Cl) (m : List Int) (x : Int) : costF A (m ++ [x]) ≤ costF A m := by
 induction A with
 | nil => exact Nat.le_refl _
 | cons d t ih =>
  rw [costF_cons, costF_cons]
  have : m.contains d.id = true → (m ++ [x]).contains d.id = true := fun h => by simp at h ⊢; exact .inl h
  cases h1 : m.contains d.id <;> cases h2 : (m ++ [x]).contains d.id <;> simp_all <;> omega
theorem costF_add {A : List Cl} {m : List Int} {c : Cl} (hc : c ∈ A) (hn : m.contains c.id = false) : costF A (m ++ [c.id]) + c.sides.length ≤ costF A m := by
 induction A with
 | nil => simp at hc
 | cons d t ih =>
  have hm := costF_mono t m c.id
  rw [costF_cons, costF_cons]
  rcases List.mem_cons.1 hc with rfl | hc'
  ·have : (m ++ [c.id]).contains c.id = true := by simp
   rw [this, hn]
   simp
   omega
  ·have h0 := ih hc'
   have : m.contains d.id = true → (m ++ [c.id]).contains d.id = true := fun h => by simp at h ⊢; exact .inl h
   cases h1 : m.contains d.id <;> cases h2 : (m ++ [c.id]).contains d.id <;> simp_all <;> omega
structure Wide (A : List Cl) (ids left m : List Int) : Prop where
 sound : ∀ x ∈ m, ∃ id ∈ ids, Rch (adjT A) id x
 todo : ∀ x ∈ left, adjT A x ≠ none → ∃ id ∈ ids, Rch (adjT A) id x
 start : ∀ x ∈ ids, adjT A x ≠ none → x ∈ left ∨ x ∈ m
 sides : ∀ x ∈ m, ∀ l, adjT A x = some l → ∀ y ∈ l, adjT A y ≠ none → y ∈ left ∨ y ∈ m
 few : left.length + costF A m ≤ ids.length + costF A []
theorem Wide.begin (A : List Cl) (ids : List Int) : Wide A ids ids [] := ⟨by simp, fun x hx h => ⟨x, hx, .refl x h⟩, fun x hx _ => .inl hx, by simp, Nat.le_refl _⟩
theorem Rch.snoc {adj : Int → Option (List Int)} {a b c : Int} {l : List Int} (h : Rch adj a b) (hl : adj b = some l) (hc : c ∈ l) (hn : adj c ≠ none) : Rch adj a c := by
 induction h with
 | refl a _ => exact .step a c c l hl hc (.refl c hn)
 | step a b' c' l' h' hb' _ ih => exact .step a b' c l' h' hb' (ih hl)
theorem Wide.skip {A : List Cl} {ids left m : List Int} {x : Int} (h : Wide A ids (x :: left) m) (hx : adjT A x = none ∨ x ∈ m) : Wide A ids left m := by
 refine ⟨h.sound, fun y hy => h.todo y (by simp [hy]), fun y hy hn => ?_, fun y hy l hl z hz hn => ?_, by have := h.few; simp at this; omega⟩
 ·rcases h.start y hy hn with h1 | h1
  ·rcases List.mem_cons.1 h1 with rfl | h1
   ·rcases hx with hx | hx
    ·exact absurd hx hn
    ·exact .inr hx
   ·exact .inl h1
  ·exact .inr h1
 ·rcases h.sides y hy l hl z hz hn with h1 | h1
  ·rcases List.mem_cons.1 h1 with rfl | h1
   ·rcases hx with hx | hx
    ·exact absurd hx hn
    ·exact .inr hx
   ·exact .inl h1
  ·exact .inr h1
theorem Wide.mark {A : List Cl} {ids left m : List Int} {x : Int} {c : Cl} (h : Wide A ids (x :: left) m) (hf : findT A x = some c) (hx : m.contains x = false) : Wide A ids (left ++ c.sides.map Side.cell) (m ++ [x]) := by
 have ha : adjT A x = some (c.sides.map Side.cell) := by unfold adjT; rw [hf]; rfl
 have hr : ∃ id ∈ ids, Rch (adjT A) id x := h.todo x (by simp) (by rw [ha]; simp)
 obtain ⟨hcm, hcid⟩ := findT_mem hf
 refine ⟨fun y hy => ?_, fun y hy hn => ?_, fun y hy hn => ?_, fun y hy l hl z hz hn => ?_, ?_⟩
 ·rcases List.mem_append.1 hy with hy | hy
  ·exact h.sound y hy
  ·simp at hy; subst hy; exact hr
 ·rcases List.mem_append.1 hy with hy | hy
  ·exact h.todo y (by simp [hy]) hn
  ·obtain ⟨id, hid, hr⟩ := hr
   exact ⟨id, hid, hr.snoc ha hy hn⟩
 ·rcases h.start y hy hn with h1 | h1
  ·rcases List.mem_cons.1 h1 with rfl | h1
   ·exact .inr (by simp)
   ·exact .inl (by simp [h1])
  ·exact .inr (by simp [h1])
 ·rcases List.mem_append.1 hy with hy | hy
  ·rcases h.sides y hy l hl z hz hn with h1 | h1
   ·rcases List.mem_cons.1 h1 with rfl | h1
    ·exact .inr (by simp)
    ·exact .inl (by simp [h1])
   ·exact .inr (by simp [h1])
  ·simp at hy
   subst hy
   rw [ha] at hl
   injection hl with hl
   subst hl
   exact .inl (List.mem_append.2 (.inr hz))
 ·have h1 := h.few
  have h2 := costF_add hcm (by rw [hcid]; exact hx)
  rw [hcid] at h2
  simp at h1 ⊢
  omega
theorem Wide.done {A : List Cl} {ids m : List Int} (h : Wide A ids [] m) (x : Int) : m.contains x = (closF A ids).contains x := by
 have key : ∀ a b, Rch (adjT A) a b → a ∈ m → b ∈ m := by
  intro a b hr
  induction hr with
  | refl a _ => exact fun h => h
  | step a b c l hl hb r ih => exact fun h1 => ih ((h.sides a h1 l hl b hb r.node).resolve_left (by simp))
 have : x ∈ m ↔ x ∈ closF A ids := by
  rw [mem_closF]
  exact ⟨h.sound x, fun ⟨id, hid, hr⟩ => key id x hr ((h.start id hid hr.node).resolve_left (by simp))⟩
 rw [Bool.eq_iff_iff]
 simpa using this
def inB (B : List Cl) (x : Cl) : Bool := match findT B x.id with
 | some y => decide (x = y)
 | none => false
def meetI (A B : List Cl) (id : Int) : Bool := match findT B id with
 | some y => decide ((findT A id).getD zeroC = y)
 | none => false
def meetP (A B : List Cl) (c : Cl) : Bool := (closF A [c.id]).all (meetI A B)
def meetC (A B : List Cl) : List Cl := A.filter (meetP A B)
theorem Rch.last {adj : Int → Option (List Int)} {a b : Int} (h : Rch adj a b) : adj b ≠ none := by
 induction h with
 | refl _ h => exact h
 | step _ _ _ _ _ _ _ ih => exact ih
theorem closF_in {A : List Cl} {ids : List Int} {x : Int} (h : x ∈ closF A ids) : ∃ c, findT A x = some c := by
 obtain ⟨id, _, hr⟩ := (mem_closF A ids x).1 h
 have := hr.last
 unfold adjT at this
 cases hf : findT A x with
 | none => rw [hf] at this; simp at this
 | some c => exact ⟨c, rfl⟩
theorem meetP_ref {A B : List Cl} (hA : (A.map Cl.id).Nodup) (c : Cl) : (A.all fun x => !(closF A [c.id]).contains x.id || inB B x) = meetP A B c := by
 rw [Bool.eq_iff_iff, meetP, List.all_eq_true, List.all_eq_true]
 have hx : ∀ x ∈ A, meetI A B x.id = inB B x := fun x hx => by unfold meetI inB; rw [find_self hA hx]; rfl
 constructor
 ·intro h id hid
  obtain ⟨d, hd⟩ := closF_in hid
  obtain ⟨hdm, rfl⟩ := findT_mem hd
  have := h d hdm
  rw [hx d hdm]
  simpa [hid] using this
 ·intro h x hxm
  cases hc : (closF A [c.id]).contains x.id with
  | false => rfl
  | true =>
   have := h x.id (by simpa using hc)
   rw [hx x hxm] at this
   simpa using this
set_option maxRecDepth 100000
set_option maxHeartbeats 1000000
theorem meetPred (E : World) (g0 : PH) (bt bu : Nat) (tv uv : Value) (A B : List Cl) (hT : Tab g0 tv A) (hU : Tab g0 uv B) (hA : Fits A) (hnA : (A.map Cl.id).Nodup) (h1 : g0 bt = some (.cells #[tv] 75 (0, 0))) (h2 : g0 bu = some (.cells #[uv] 75 (0, 0))) :
  PredOk E (.func (.func 71) #[] #[pp bt 0, pp bu 0]) (meetP A B) A g0 := by
 intro g s c r hle0 hmem hc
 replace hT := hT.mono hle0
 replace hU := hU.mono hle0
 replace h1 := hle0 _ _ h1
 replace h2 := hle0 _ _ h2
 obtain ⟨rp, rcap, rfl, hcs⟩ := cellR_form hc
 refine CallV.mk (cap := [pp bt 0, pp bu 0]) call71 ?_
 have hT0 := hT
 obtain ⟨ba, ma, iva, ra, rfl, hba, hma, hIa, halla⟩ := hT
 obtain ⟨bb, mb, ivb, rb, rfl, hbb, hmb, hIb, hallb⟩ := hU
 have hcl := fun id (h : id ∈ closF A [c.id]) => closF_in h
 have hmp : meetP A B c = (closF A [c.id]).all (meetI A B) := rfl
 generalize hC : closF A [c.id] = C at *
 refine Ctr.of (args := [rcv ⟨c.id, c.dim, ⟨rp, c.sides.length, rcap⟩⟩, pp bt 0, pp bu 0]) func71 rfl ntmps71 (Nat.le_of_ble_eq_true rfl) ?_
 refine SC.seq (SC.region (SL.W (SO.box rfl) ?_))
 rintro _ _ _ ⟨b3, rfl, rfl, rfl⟩
 refine SL.A rfl (SL.nil (ST.thenN (SC.seq (SC.seq (SC.region (SL.K (SQ.load isAgg75 rfl (CellAt.known h1 rfl)) (SL.U (SU.fieldAddr underlying51 rfl sizeOf3 rfl) (SL.K (SQ.load (v := vi c.id) isAgg3 rfl (CellAt.own 0 rfl rfl)) (SL.W (SO.buildSlice sty45 rfl rfl rfl (szs_mk ⟨rfl, trivial⟩) dC) ?_)))))))))
 rintro _ _ _ ⟨b11, rfl, rfl, rfl⟩
 refine SL.freeze fun g1 hle1 hb11 => ?_
 have hi1 : Ints g1 (.slice (some ⟨b11, 0, none⟩) 1 1) [c.id] := SlA.lit hb11 rfl rfl
 refine SL.W (SO.call call72 rfl (closure_spec E g1 _ _ _ A [c.id] (hT0.mono hle1) hA hi1 (by simp))) ?_
 rintro _ g2 _ ⟨m, rfl, hle2, rfl⟩
 rw [hC]
 refine SL.freezeMap fun g3 hle3 hm3 => ?_
 obtain ⟨es, clk, hes, hmi⟩ := hm3
 refine SL.W (SO.range underlying96 rfl hes) ?_
 rintro _ _ _ ⟨it, rfl, rfl, rfl⟩
 refine SL.nil (ST.thenN (SC.block ?_))
 have hle13 := hle1.trans (hle2.trans hle3)
 refine SC.loop (ι := List MapEntry × List (Int × Value)) (fun _ => [(1, pp bt 0), (2, pp bu 0), (13, pp it 0)]) (fun _ => g3)
  (fun i => iter it m es clk i.1 :: pt b3 (.cells #[vi c.id, vi c.dim, .slice rp c.sides.length rcap] 51 (0, 0)) :: s)
  (fun i => RVis (setP C) es i.1 i.2 ∧ ∀ p ∈ i.2, meetI A B p.1 = true) (fun i => C.length - i.2.length)
  ([], []) ⟨rfl, rfl, rfl, trivial⟩ rfl rfl ⟨RVis.nil _ _, by simp⟩ ?_
 rintro ⟨vis, vl⟩ ⟨hrv, hgood⟩
 dsimp only at hrv hgood ⊢
 have hvle := hrv.len hmi
 simp only [setP, List.length_map] at hvle
 refine SC.seq (SC.region (SL.W (SO.nextP 0 rfl rfl hes hmi hrv) ?_))
 rintro _ _ _ ⟨rfl, hcase⟩
 rcases hcase with ⟨rfl, rfl, hperm⟩ | ⟨e, pr, he, hp1, hk1, hv1, hrv2, rfl, rfl⟩
 ·have hall : meetP A B c = true := by
   rw [hmp, List.all_eq_true]
   intro id hid
   have : (id, vb true) ∈ setP C := List.mem_map.2 ⟨id, hid, rfl⟩
   exact hgood _ (hperm.symm.subset this)
  refine SL.U (SU.extract rfl rfl) (SL.nil (ST.thenN (SC.seq (SC.condF rfl (SC.exit (ST.thenX (ST.thenX (ST.blockX (ST.thenN (SC.seq (SC.region (SL.A rfl (SL.nil (ST.thenN (SC.ret ?_)))))))))))))))
  refine ST.drop (s' := s) (.cons _ (.cons _ (.refl _))) (ST.less hle13 ?_)
  exact ST.ret1 (.inl rfl) results71 rfl ⟨by rw [hall], rfl, rfl⟩
 ·obtain ⟨id, hid, rfl⟩ := List.mem_map.1 hp1
  have hvl2 := hrv2.len hmi
  simp only [setP, List.length_map, List.length_append, List.length_singleton] at hvl2
  obtain ⟨x, hx⟩ := hcl id hid
  obtain ⟨hxm, hxid⟩ := findT_mem hx
  have hxl := hA.2 x hxm
  obtain ⟨y, hy1, hy2, hy3⟩ := all2_look halla zeroCR id
  have hy3' : CellR g ((findT A id).getD zeroC) y := hy3
  rw [hx] at hy3'
  obtain ⟨yi, yd, yp, yn, yc⟩ := y
  obtain ⟨z, hz1, hz2, hz3⟩ := all2_look hallb zeroCR id
  obtain ⟨zi, zd, zp, zn, zc⟩ := z
  have hz2' : (mget (rb.map rcPair) id).isSome = (findT B id).isSome := hz2
  have hz3' : CellR g ((findT B id).getD zeroC) ⟨zi, zd, zp, zn, zc⟩ := hz3
  cases hf0 : findT B id with
  | none =>
   have hbad : meetP A B c = false := by
    rw [hmp, List.all_eq_false]
    exact ⟨id, hid, by unfold meetI; rw [hf0]; simp⟩
   refine SL.U (SU.extract rfl rfl) (SL.nil (ST.thenN (SC.seq (SC.condT rfl (SC.skip (ST.thenN (SC.block (SC.seq (SC.region (SL.K (SQ.entryP 0 rfl rfl hes hmi he hk1 hv1) (SL.U (SU.extract rfl rfl) (SL.A rfl (SL.nil (ST.thenN (SC.seq (SC.region (SL.K (SQ.load isAgg75 rfl (CellAt.known (hle13 _ _ h2) rfl)) (SL.U (SU.nilCheck rfl) (SL.U (SU.fieldAddr underlying88 rfl sizeOf86 rfl) (SL.K (SQ.load isAgg86 rfl (CellAt.known (hle13 _ _ hbb) rfl)) (SL.M rfl (SL.K (SQ.eq (v' := .tuple #[rcv ⟨zi, zd, zp, zn, zc⟩, vb false]) (SQ.lookupOk mty86 rfl rfl (MapAt.known (hmb.mono hle13))) (by rw [hz1, hz2', hf0]; rfl)) ?_))))))))))))))))))))))
   refine SL.M rfl (SL.U (SU.extract rfl rfl) (SL.U (SU.extract rfl rfl) (SL.W (SO.alloc zeroValue51) ?_)))
   rintro _ _ _ ⟨b6, rfl, rfl, rfl⟩
   refine SL.on (SO.storeAllK 0 sizeOf51 rfl rfl rfl rfl rfl (by exact ⟨rfl, rfl, rfl, trivial⟩)) ?_
   rintro _ _ _ ⟨rfl, rfl⟩
   refine SL.A rfl (SL.nil (ST.thenN (SC.seq ?_)))
   refine SC.draw [] [(0, 2), (1, 2), (2, 2), (3, 1), (4, 2), (5, 2), (6, 1), (7, 2), (8, 1), (9, 1), (10, 0), (11, 2), (12, 2)] Tryz.mixed (by kernel_rfl) ?_
   refine SP.U (i := 0) rfl (SU.move rfl) (SP.U (i := 1) rfl (SU.not rfl) (SP.U (i := 2) rfl (SU.move rfl) (SP.off1 (i := 3) rfl (Gd.onF rfl rfl rfl dC) dC (SP.off (i := 4) rfl (Gd.onF rfl rfl rfl dC) dC (SP.off (i := 5) rfl (Gd.onF rfl rfl rfl dC) dC (SP.off1 (i := 6) rfl (Gd.onF rfl rfl rfl dC) dC (SP.off (i := 7) rfl (Gd.onF rfl rfl rfl dC) dC (SP.off1 (i := 8) rfl (Gd.onF rfl rfl rfl dC) dC (SP.off1 (i := 9) rfl (Gd.onF rfl rfl rfl dC) dC (SP.offo (i := 10) rfl (Gd.onF rfl rfl rfl dC) dC ⟨by exact Le.refl _, (by exact .refl _)⟩ ?_))))))))))
   refine SP.off (i := 11) rfl (Gd.onF rfl rfl rfl dC) dC (SP.U (i := 12) rfl (SU.pickT rfl rfl) (SP.nil (ST.thenN (SC.condT rfl (SC.seq (SC.region (SL.A rfl (SL.nil (ST.thenN (SC.ret (ST.blockR (ST.thenR (ST.blockR (ST.thenR ?_))))))))))))))
   refine ST.drop (s' := s) (.cons _ (.cons _ (.cons _ (.refl _)))) (ST.less hle13 ?_)
   exact ST.ret1 (.inl rfl) results71 rfl ⟨by rw [hbad], rfl, rfl⟩
  | some w =>
   rw [hf0] at hz3'
   have hwr : CellR g w ⟨zi, zd, zp, zn, zc⟩ := hz3'
   have hmi0 : meetI A B id = decide (x = w) := by unfold meetI; rw [hf0, hx]; rfl
   refine SL.U (SU.extract rfl rfl) (SL.nil (ST.thenN (SC.seq (SC.condT rfl (SC.skip (ST.thenN (SC.block (SC.seq (SC.region (SL.K (SQ.entryP 0 rfl rfl hes hmi he hk1 hv1) (SL.U (SU.extract rfl rfl) (SL.A rfl (SL.nil (ST.thenN (SC.seq (SC.region (SL.K (SQ.load isAgg75 rfl (CellAt.known (hle13 _ _ h2) rfl)) (SL.U (SU.nilCheck rfl) (SL.U (SU.fieldAddr underlying88 rfl sizeOf86 rfl) (SL.K (SQ.load isAgg86 rfl (CellAt.known (hle13 _ _ hbb) rfl)) (SL.M rfl (SL.K (SQ.eq (v' := .tuple #[rcv ⟨zi, zd, zp, zn, zc⟩, vb true]) (SQ.lookupOk mty86 rfl rfl (MapAt.known (hmb.mono hle13))) (by rw [hz1, hz2', hf0]; rfl)) ?_))))))))))))))))))))))
   refine SL.M rfl (SL.U (SU.extract rfl rfl) (SL.U (SU.extract rfl rfl) (SL.W (SO.alloc zeroValue51) ?_)))
   rintro _ _ _ ⟨b6, rfl, rfl, rfl⟩
   refine SL.on (SO.storeAllK 0 sizeOf51 rfl rfl rfl rfl rfl (by exact ⟨rfl, rfl, rfl, trivial⟩)) ?_
   rintro _ _ _ ⟨rfl, rfl⟩
   refine SL.A rfl (SL.nil (ST.thenN (SC.seq ?_)))
   refine SC.draw [] [(0, 2), (1, 2), (2, 2), (3, 1), (4, 2), (5, 2), (6, 1), (7, 2), (8, 1), (9, 1), (10, 0), (11, 2), (12, 2)] Tryz.mixed (by kernel_rfl) ?_
   refine SP.U (i := 0) rfl (SU.move rfl) (SP.U (i := 1) rfl (SU.not rfl) (SP.U (i := 2) rfl (SU.move rfl) (SP.gq (i := 3) rfl (Gd.onT rfl rfl rfl dC) (SQ.load isAgg75 rfl (CellAt.known (hle13 _ _ h1) rfl)) dC (SP.gu (i := 4) rfl (Gd.onT rfl rfl rfl dC) (SU.nilCheck rfl) dC (SP.gu (i := 5) rfl (Gd.onT rfl rfl rfl dC) (SU.fieldAddr underlying88 rfl sizeOf86 rfl) dC (SP.gq (i := 6) rfl (Gd.onT rfl rfl rfl dC) (SQ.load isAgg86 rfl (CellAt.known (hle13 _ _ hba) rfl)) dC (SP.gu (i := 7) rfl (Gd.onT rfl rfl rfl dC) (SU.move rfl) dC (SP.gq (i := 8) rfl (Gd.onT rfl rfl rfl dC) (SQ.eq (v' := rcv ⟨yi, yd, yp, yn, yc⟩) (SQ.lookup mty86 rfl rfl (MapAt.known (hma.mono hle13))) (by rw [hy1])) dC ?_))))))))
   refine SP.gq (i := 9) rfl (Gd.onT rfl rfl rfl dC) (SQ.loadVarK 0 isAgg51 sizeOf51 rfl rfl rfl) dC (SP.go (i := 10) rfl (Gd.onT rfl rfl rfl dC) (SO.call call69 rfl (same_spec E g3 _ x w ⟨yi, yd, yp, yn, yc⟩ ⟨zi, zd, zp, zn, zc⟩ (hy3'.mono hle13) (hwr.mono hle13) hxl)) dC (.inr (by rintro _ _ _ ⟨rfl, rfl, rfl⟩; exact ⟨by exact Le.refl _, (by exact .refl _)⟩)) ?_)
   rintro _ _ _ ⟨rfl, rfl, rfl⟩
   refine SP.gu (i := 11) rfl (Gd.onT rfl rfl rfl dC) (SU.notP rfl) dC (SP.U (i := 12) rfl (SU.pickF rfl rfl) (SP.nil (ST.thenN ?_)))
   refine SC.ifP rfl (fun hne => ?_) (fun hne => ?_)
   ·have hbad : meetP A B c = false := by
     rw [hmp, List.all_eq_false]
     exact ⟨id, hid, by rw [hmi0]; simpa using hne⟩
    refine SC.seq (SC.region (SL.A rfl (SL.nil (ST.thenN (SC.ret (ST.blockR (ST.thenR (ST.blockR (ST.thenR ?_)))))))))
    refine ST.drop (s' := s) (.cons _ (.cons _ (.cons _ (.refl _)))) (ST.less hle13 ?_)
    exact ST.ret1 (.inl rfl) results71 rfl ⟨by rw [hbad], rfl, rfl⟩
   ·have hxw : x = w := Decidable.of_not_not hne
    refine SC.skip (ST.blockN (ST.drop (s' := iter it m es clk (vis ++ [e]) :: pt b3 (.cells #[vi c.id, vi c.dim, .slice rp c.sides.length rcap] 51 (0, 0)) :: s) (.cons _ (.refl _)) ?_))
    exact ST.again (vis ++ [e], vl ++ [(id, vb true)]) ⟨rfl, rfl, rfl, trivial⟩ rfl rfl ⟨hrv2, fun p hp => by
     rcases List.mem_append.1 hp with hp | hp
     ·exact hgood p hp
     ·simp at hp; subst hp; rw [hmi0]; simpa using hxw⟩ lN
theorem meet_spec (E : World) (g : PH) (s : Own) (v u : Value) (a b : List Cl) (hv : Cells g v a) (hu : Cells g u b) (ha : Fits a) (hb : Fits b) :
  Ctr Tryz.prog E 25 #[.agg #[v], .agg #[u]] g s (fun r g' s' => s = s' ∧ Le g g' ∧ ∃ x, r = .agg #[x] ∧ Cells g' x (meetC (tabC a) (tabC b))) := by
 obtain ⟨p1, c1, rfl⟩ := hv.form
 obtain ⟨p2, c2, rfl⟩ := hu.form
 have hfa := tabC_fits ha
 have hnA := tabC_nodup a
 refine Ctr.of (args := [.agg #[.slice p1 a.length c1], .agg #[.slice p2 b.length c2]]) func25 rfl ntmps25 (Nat.le_of_ble_eq_true rfl) ?_
 refine SC.seq (SC.region (SL.W (SO.box rfl) ?_))
 rintro _ _ _ ⟨b2, rfl, rfl, rfl⟩
 refine SL.W (SO.box rfl) ?_
 rintro _ _ _ ⟨b3, rfl, rfl, rfl⟩
 refine SL.W (SO.alloc zeroValue27) ?_
 rintro _ _ _ ⟨b4, rfl, rfl, rfl⟩
 refine SL.nil (ST.thenN ?_)
 refine SC.cut (ι := Nat × Nat × Value × Value × PH) (fun i => [(2, pp b2 0), (3, pp b3 0), (4, pp b4 0), (5, pp i.1 0), (6, pp i.2.1 0)]) (fun i => i.2.2.2.2)
  (fun i => pt i.2.1 (.cells #[i.2.2.2.1] 75 (0, 0)) :: pt i.1 (.cells #[i.2.2.1] 75 (0, 0)) :: pt b4 (.cells #[.slice none 0 0] 27 (0, 0)) :: pt b3 (.cells #[.slice p2 b.length c2] 27 (0, 0)) :: pt b2 (.cells #[.slice p1 a.length c1] 27 (0, 0)) :: s)
  (fun i => Le g i.2.2.2.2 ∧ Tab i.2.2.2.2 i.2.2.1 (tabC a) ∧ Tab i.2.2.2.2 i.2.2.2.1 (tabC b)) ?_ ?_
 ·refine SC.drawX [] Tryz.mixed (by kernel_rfl) ?_
  refine SX.q (i := 0) rfl (by kernel_rfl) (SQ.loadVarK 2 isAgg27 sizeOf27 rfl rfl rfl) dC (SX.q (i := 2) rfl (by kernel_rfl) (SQ.loadVarK 1 isAgg27 sizeOf27 rfl rfl rfl) dC ?_)
  refine SX.br3 1 4 5 (by kernel_rfl) ?_ ?_ ?_
  ·refine SB.o (i := 1) rfl (SO.call call50 rfl (of_spec E g _ _ a hv ha)) dC (.inr (by rintro tv g1 _ ⟨rfl, hle1, ht⟩; exact ⟨by assumption, (by exact .refl _)⟩)) ?_
   rintro tv g1 _ ⟨rfl, hle1, ht⟩
   obtain ⟨bt, rfl⟩ := ht.ptr
   refine SX.br3 3 4 5 (by kernel_rfl) ?_ ?_ ?_
   ·refine SB.o (i := 3) rfl (SO.call call50 rfl (of_spec E g1 _ _ b (hu.mono hle1) hb)) dC (.inr (by rintro uv g2 _ ⟨rfl, hle2, hut⟩; exact ⟨by exact Le.trans (by assumption) (by assumption), (by exact .refl _)⟩)) ?_
    rintro uv g2 _ ⟨rfl, hle2, hut⟩
    obtain ⟨bu, rfl⟩ := hut.ptr
    refine SX.br2 4 5 (by kernel_rfl) ?_ ?_
    ·refine SB.o (i := 4) rfl (SO.alloc zeroValue75) dC (.inr (by rintro _ _ _ ⟨b5, rfl, rfl, rfl⟩; exact ⟨by exact Le.trans (by assumption) (by assumption), (by exact .cons _ (.refl _))⟩)) ?_
     rintro _ _ _ ⟨b5, rfl, rfl, rfl⟩
     refine SX.br1 5 (by kernel_rfl) ?_
     ·refine SB.o (i := 5) rfl (SO.alloc zeroValue75) dC (.inr (by rintro _ _ _ ⟨b6, rfl, rfl, rfl⟩; exact ⟨by exact Le.trans (by assumption) (by assumption), (by exact .cons _ (.cons _ (.refl _)))⟩)) ?_
      rintro _ _ _ ⟨b6, rfl, rfl, rfl⟩
      refine SX.br1 6 (by kernel_rfl) ?_
      ·refine SB.on (i := 6) rfl (SO.storeAllK 1 sizeOf75 rfl rfl rfl rfl rfl (by exact ⟨rfl, trivial⟩)) (.inr (by rintro _ _ _ ⟨rfl, rfl⟩; exact ⟨by exact Le.trans (by assumption) (by assumption), (by exact .cons _ (.cons _ (.refl _)))⟩)) ?_
       rintro _ _ _ ⟨rfl, rfl⟩
       refine SX.br1 7 (by kernel_rfl) ?_
       ·refine SB.on (i := 7) rfl (SO.storeAllK 0 sizeOf75 rfl rfl rfl rfl rfl (by exact ⟨rfl, trivial⟩)) (.inr (by rintro _ _ _ ⟨rfl, rfl⟩; exact ⟨by exact Le.trans (by assumption) (by assumption), (by exact .cons _ (.cons _ (.refl _)))⟩)) ?_
        rintro _ _ _ ⟨rfl, rfl⟩
        refine SX.nil (by kernel_rfl) ?_
        first | exact ST.mid (b5, b6, pp bt 0, pp bu 0, g2) ⟨rfl, rfl, rfl, rfl, rfl, trivial⟩ rfl rfl ⟨hle1.trans hle2, ht.mono hle2, hut⟩ | (refine ST.perm (List.Perm.swap _ _ _) ?_; exact ST.mid (b5, b6, pp bt 0, pp bu 0, g2) ⟨rfl, rfl, rfl, rfl, rfl, trivial⟩ rfl rfl ⟨hle1.trans hle2, ht.mono hle2, hut⟩)
    ·refine SB.o (i := 5) rfl (SO.alloc zeroValue75) dC (.inr (by rintro _ _ _ ⟨b6, rfl, rfl, rfl⟩; exact ⟨by exact Le.trans (by assumption) (by assumption), (by exact .cons _ (.refl _))⟩)) ?_
     rintro _ _ _ ⟨b6, rfl, rfl, rfl⟩
     refine SX.br1 4 (by kernel_rfl) ?_
     ·refine SB.o (i := 4) rfl (SO.alloc zeroValue75) dC (.inr (by rintro _ _ _ ⟨b5, rfl, rfl, rfl⟩; exact ⟨by exact Le.trans (by assumption) (by assumption), (by exact .cons _ (.cons _ (.refl _)))⟩)) ?_
      rintro _ _ _ ⟨b5, rfl, rfl, rfl⟩
      refine SX.br1 6 (by kernel_rfl) ?_
      ·refine SB.on (i := 6) rfl (SO.storeAllK 0 sizeOf75 rfl rfl rfl rfl rfl (by exact ⟨rfl, trivial⟩)) (.inr (by rintro _ _ _ ⟨rfl, rfl⟩; exact ⟨by exact Le.trans (by assumption) (by assumption), (by exact .cons _ (.cons _ (.refl _)))⟩)) ?_
       rintro _ _ _ ⟨rfl, rfl⟩
       refine SX.br1 7 (by kernel_rfl) ?_
       ·refine SB.on (i := 7) rfl (SO.storeAllK 1 sizeOf75 rfl rfl rfl rfl rfl (by exact ⟨rfl, trivial⟩)) (.inr (by rintro _ _ _ ⟨rfl, rfl⟩; exact ⟨by exact Le.trans (by assumption) (by assumption), (by exact .cons _ (.cons _ (.refl _)))⟩)) ?_
        rintro _ _ _ ⟨rfl, rfl⟩
        refine SX.nil (by kernel_rfl) ?_
        first | exact ST.mid (b5, b6, pp bt 0, pp bu 0, g2) ⟨rfl, rfl, rfl, rfl, rfl, trivial⟩ rfl rfl ⟨hle1.trans hle2, ht.mono hle2, hut⟩ | (refine ST.perm (List.Perm.swap _ _ _) ?_; exact ST.mid (b5, b6, pp bt 0, pp bu 0, g2) ⟨rfl, rfl, rfl, rfl, rfl, trivial⟩ rfl rfl ⟨hle1.trans hle2, ht.mono hle2, hut⟩)
   ·refine SB.o (i := 4) rfl (SO.alloc zeroValue75) dC (.inr (by rintro _ _ _ ⟨b5, rfl, rfl, rfl⟩; exact ⟨by assumption, (by exact .cons _ (.refl _))⟩)) ?_
    rintro _ _ _ ⟨b5, rfl, rfl, rfl⟩
    refine SX.br2 3 5 (by kernel_rfl) ?_ ?_
    ·refine SB.o (i := 3) rfl (SO.call call50 rfl (of_spec E g1 _ _ b (hu.mono hle1) hb)) dC (.inr (by rintro uv g2 _ ⟨rfl, hle2, hut⟩; exact ⟨by exact Le.trans (by assumption) (by assumption), (by exact .cons _ (.refl _))⟩)) ?_
     rintro uv g2 _ ⟨rfl, hle2, hut⟩
     obtain ⟨bu, rfl⟩ := hut.ptr
     refine SX.br1 5 (by kernel_rfl) ?_
     ·refine SB.o (i := 5) rfl (SO.alloc zeroValue75) dC (.inr (by rintro _ _ _ ⟨b6, rfl, rfl, rfl⟩; exact ⟨by exact Le.trans (by assumption) (by assumption), (by exact .cons _ (.cons _ (.refl _)))⟩)) ?_
      rintro _ _ _ ⟨b6, rfl, rfl, rfl⟩
      refine SX.br1 6 (by kernel_rfl) ?_
      ·refine SB.on (i := 6) rfl (SO.storeAllK 1 sizeOf75 rfl rfl rfl rfl rfl (by exact ⟨rfl, trivial⟩)) (.inr (by rintro _ _ _ ⟨rfl, rfl⟩; exact ⟨by exact Le.trans (by assumption) (by assumption), (by exact .cons _ (.cons _ (.refl _)))⟩)) ?_
       rintro _ _ _ ⟨rfl, rfl⟩
       refine SX.br1 7 (by kernel_rfl) ?_
       ·refine SB.on (i := 7) rfl (SO.storeAllK 0 sizeOf75 rfl rfl rfl rfl rfl (by exact ⟨rfl, trivial⟩)) (.inr (by rintro _ _ _ ⟨rfl, rfl⟩; exact ⟨by exact Le.trans (by assumption) (by assumption), (by exact .cons _ (.cons _ (.refl _)))⟩)) ?_
        rintro _ _ _ ⟨rfl, rfl⟩
        refine SX.nil (by kernel_rfl) ?_
        first | exact ST.mid (b5, b6, pp bt 0, pp bu 0, g2) ⟨rfl, rfl, rfl, rfl, rfl, trivial⟩ rfl rfl ⟨hle1.trans hle2, ht.mono hle2, hut⟩ | (refine ST.perm (List.Perm.swap _ _ _) ?_; exact ST.mid (b5, b6, pp bt 0, pp bu 0, g2) ⟨rfl, rfl, rfl, rfl, rfl, trivial⟩ rfl rfl ⟨hle1.trans hle2, ht.mono hle2, hut⟩)
    ·refine SB.o (i := 5) rfl (SO.alloc zeroValue75) dC (.inr (by rintro _ _ _ ⟨b6, rfl, rfl, rfl⟩; exact ⟨by assumption, (by exact .cons _ (.cons _ (.refl _)))⟩)) ?_
     rintro _ _ _ ⟨b6, rfl, rfl, rfl⟩
     refine SX.br1 3 (by kernel_rfl) ?_
     ·refine SB.o (i := 3) rfl (SO.call call50 rfl (of_spec E g1 _ _ b (hu.mono hle1) hb)) dC (.inr (by rintro uv g2 _ ⟨rfl, hle2, hut⟩; exact ⟨by exact Le.trans (by assumption) (by assumption), (by exact .cons _ (.cons _ (.refl _)))⟩)) ?_
      rintro uv g2 _ ⟨rfl, hle2, hut⟩
      obtain ⟨bu, rfl⟩ := hut.ptr
      refine SX.br1 6 (by kernel_rfl) ?_
      ·refine SB.on (i := 6) rfl (SO.storeAllK 1 sizeOf75 rfl rfl rfl rfl rfl (by exact ⟨rfl, trivial⟩)) (.inr (by rintro _ _ _ ⟨rfl, rfl⟩; exact ⟨by exact Le.trans (by assumption) (by assumption), (by exact .cons _ (.cons _ (.refl _)))⟩)) ?_
       rintro _ _ _ ⟨rfl, rfl⟩
       refine SX.br1 7 (by kernel_rfl) ?_
       ·refine SB.on (i := 7) rfl (SO.storeAllK 0 sizeOf75 rfl rfl rfl rfl rfl (by exact ⟨rfl, trivial⟩)) (.inr (by rintro _ _ _ ⟨rfl, rfl⟩; exact ⟨by exact Le.trans (by assumption) (by assumption), (by exact .cons _ (.cons _ (.refl _)))⟩)) ?_
        rintro _ _ _ ⟨rfl, rfl⟩
        refine SX.nil (by kernel_rfl) ?_
        first | exact ST.mid (b5, b6, pp bt 0, pp bu 0, g2) ⟨rfl, rfl, rfl, rfl, rfl, trivial⟩ rfl rfl ⟨hle1.trans hle2, ht.mono hle2, hut⟩ | (refine ST.perm (List.Perm.swap _ _ _) ?_; exact ST.mid (b5, b6, pp bt 0, pp bu 0, g2) ⟨rfl, rfl, rfl, rfl, rfl, trivial⟩ rfl rfl ⟨hle1.trans hle2, ht.mono hle2, hut⟩)
   ·refine SB.o (i := 5) rfl (SO.alloc zeroValue75) dC (.inr (by rintro _ _ _ ⟨b6, rfl, rfl, rfl⟩; exact ⟨by assumption, (by exact .cons _ (.refl _))⟩)) ?_
    rintro _ _ _ ⟨b6, rfl, rfl, rfl⟩
    refine SX.br2 3 4 (by kernel_rfl) ?_ ?_
    ·refine SB.o (i := 3) rfl (SO.call call50 rfl (of_spec E g1 _ _ b (hu.mono hle1) hb)) dC (.inr (by rintro uv g2 _ ⟨rfl, hle2, hut⟩; exact ⟨by exact Le.trans (by assumption) (by assumption), (by exact .cons _ (.refl _))⟩)) ?_
     rintro uv g2 _ ⟨rfl, hle2, hut⟩
     obtain ⟨bu, rfl⟩ := hut.ptr
     refine SX.br1 4 (by kernel_rfl) ?_
     ·refine SB.o (i := 4) rfl (SO.alloc zeroValue75) dC (.inr (by rintro _ _ _ ⟨b5, rfl, rfl, rfl⟩; exact ⟨by exact Le.trans (by assumption) (by assumption), (by exact .cons _ (.cons _ (.refl _)))⟩)) ?_
      rintro _ _ _ ⟨b5, rfl, rfl, rfl⟩
      refine SX.br1 6 (by kernel_rfl) ?_
      ·refine SB.on (i := 6) rfl (SO.storeAllK 0 sizeOf75 rfl rfl rfl rfl rfl (by exact ⟨rfl, trivial⟩)) (.inr (by rintro _ _ _ ⟨rfl, rfl⟩; exact ⟨by exact Le.trans (by assumption) (by assumption), (by exact .cons _ (.cons _ (.refl _)))⟩)) ?_
       rintro _ _ _ ⟨rfl, rfl⟩
       refine SX.br1 7 (by kernel_rfl) ?_
       ·refine SB.on (i := 7) rfl (SO.storeAllK 1 sizeOf75 rfl rfl rfl rfl rfl (by exact ⟨rfl, trivial⟩)) (.inr (by rintro _ _ _ ⟨rfl, rfl⟩; exact ⟨by exact Le.trans (by assumption) (by assumption), (by exact .cons _ (.cons _ (.refl _)))⟩)) ?_
        rintro _ _ _ ⟨rfl, rfl⟩
        refine SX.nil (by kernel_rfl) ?_
        first | exact ST.mid (b5, b6, pp bt 0, pp bu 0, g2) ⟨rfl, rfl, rfl, rfl, rfl, trivial⟩ rfl rfl ⟨hle1.trans hle2, ht.mono hle2, hut⟩ | (refine ST.perm (List.Perm.swap _ _ _) ?_; exact ST.mid (b5, b6, pp bt 0, pp bu 0, g2) ⟨rfl, rfl, rfl, rfl, rfl, trivial⟩ rfl rfl ⟨hle1.trans hle2, ht.mono hle2, hut⟩)
    ·refine SB.o (i := 4) rfl (SO.alloc zeroValue75) dC (.inr (by rintro _ _ _ ⟨b5, rfl, rfl, rfl⟩; exact ⟨by assumption, (by exact .cons _ (.cons _ (.refl _)))⟩)) ?_
     rintro _ _ _ ⟨b5, rfl, rfl, rfl⟩
     refine SX.br1 3 (by kernel_rfl) ?_
     ·refine SB.o (i := 3) rfl (SO.call call50 rfl (of_spec E g1 _ _ b (hu.mono hle1) hb)) dC (.inr (by rintro uv g2 _ ⟨rfl, hle2, hut⟩; exact ⟨by exact Le.trans (by assumption) (by assumption), (by exact .cons _ (.cons _ (.refl _)))⟩)) ?_
      rintro uv g2 _ ⟨rfl, hle2, hut⟩
      obtain ⟨bu, rfl⟩ := hut.ptr
      refine SX.br1 6 (by kernel_rfl) ?_
      ·refine SB.on (i := 6) rfl (SO.storeAllK 0 sizeOf75 rfl rfl rfl rfl rfl (by exact ⟨rfl, trivial⟩)) (.inr (by rintro _ _ _ ⟨rfl, rfl⟩; exact ⟨by exact Le.trans (by assumption) (by assumption), (by exact .cons _ (.cons _ (.refl _)))⟩)) ?_
       rintro _ _ _ ⟨rfl, rfl⟩
       refine SX.br1 7 (by kernel_rfl) ?_
       ·refine SB.on (i := 7) rfl (SO.storeAllK 1 sizeOf75 rfl rfl rfl rfl rfl (by exact ⟨rfl, trivial⟩)) (.inr (by rintro _ _ _ ⟨rfl, rfl⟩; exact ⟨by exact Le.trans (by assumption) (by assumption), (by exact .cons _ (.cons _ (.refl _)))⟩)) ?_
        rintro _ _ _ ⟨rfl, rfl⟩
        refine SX.nil (by kernel_rfl) ?_
        first | exact ST.mid (b5, b6, pp bt 0, pp bu 0, g2) ⟨rfl, rfl, rfl, rfl, rfl, trivial⟩ rfl rfl ⟨hle1.trans hle2, ht.mono hle2, hut⟩ | (refine ST.perm (List.Perm.swap _ _ _) ?_; exact ST.mid (b5, b6, pp bt 0, pp bu 0, g2) ⟨rfl, rfl, rfl, rfl, rfl, trivial⟩ rfl rfl ⟨hle1.trans hle2, ht.mono hle2, hut⟩)
  ·refine SB.o (i := 4) rfl (SO.alloc zeroValue75) dC (.inr (by rintro _ _ _ ⟨b5, rfl, rfl, rfl⟩; exact ⟨by exact Le.refl _, (by exact .cons _ (.refl _))⟩)) ?_
   rintro _ _ _ ⟨b5, rfl, rfl, rfl⟩
   refine SX.br2 1 5 (by kernel_rfl) ?_ ?_
   ·refine SB.o (i := 1) rfl (SO.call call50 rfl (of_spec E g _ _ a hv ha)) dC (.inr (by rintro tv g1 _ ⟨rfl, hle1, ht⟩; exact ⟨by assumption, (by exact .cons _ (.refl _))⟩)) ?_
    rintro tv g1 _ ⟨rfl, hle1, ht⟩
    obtain ⟨bt, rfl⟩ := ht.ptr
    refine SX.br2 3 5 (by kernel_rfl) ?_ ?_
    ·refine SB.o (i := 3) rfl (SO.call call50 rfl (of_spec E g1 _ _ b (hu.mono hle1) hb)) dC (.inr (by rintro uv g2 _ ⟨rfl, hle2, hut⟩; exact ⟨by exact Le.trans (by assumption) (by assumption), (by exact .cons _ (.refl _))⟩)) ?_
     rintro uv g2 _ ⟨rfl, hle2, hut⟩
     obtain ⟨bu, rfl⟩ := hut.ptr
     refine SX.br1 5 (by kernel_rfl) ?_
     ·refine SB.o (i := 5) rfl (SO.alloc zeroValue75) dC (.inr (by rintro _ _ _ ⟨b6, rfl, rfl, rfl⟩; exact ⟨by exact Le.trans (by assumption) (by assumption), (by exact .cons _ (.cons _ (.refl _)))⟩)) ?_
      rintro _ _ _ ⟨b6, rfl, rfl, rfl⟩
      refine SX.br1 6 (by kernel_rfl) ?_
      ·refine SB.on (i := 6) rfl (SO.storeAllK 1 sizeOf75 rfl rfl rfl rfl rfl (by exact ⟨rfl, trivial⟩)) (.inr (by rintro _ _ _ ⟨rfl, rfl⟩; exact ⟨by exact Le.trans (by assumption) (by assumption), (by exact .cons _ (.cons _ (.refl _)))⟩)) ?_
       rintro _ _ _ ⟨rfl, rfl⟩
       refine SX.br1 7 (by kernel_rfl) ?_
       ·refine SB.on (i := 7) rfl (SO.storeAllK 0 sizeOf75 rfl rfl rfl rfl rfl (by exact ⟨rfl, trivial⟩)) (.inr (by rintro _ _ _ ⟨rfl, rfl⟩; exact ⟨by exact Le.trans (by assumption) (by assumption), (by exact .cons _ (.cons _ (.refl _)))⟩)) ?_
        rintro _ _ _ ⟨rfl, rfl⟩
        refine SX.nil (by kernel_rfl) ?_
        first | exact ST.mid (b5, b6, pp bt 0, pp bu 0, g2) ⟨rfl, rfl, rfl, rfl, rfl, trivial⟩ rfl rfl ⟨hle1.trans hle2, ht.mono hle2, hut⟩ | (refine ST.perm (List.Perm.swap _ _ _) ?_; exact ST.mid (b5, b6, pp bt 0, pp bu 0, g2) ⟨rfl, rfl, rfl, rfl, rfl, trivial⟩ rfl rfl ⟨hle1.trans hle2, ht.mono hle2, hut⟩)
    ·refine SB.o (i := 5) rfl (SO.alloc zeroValue75) dC (.inr (by rintro _ _ _ ⟨b6, rfl, rfl, rfl⟩; exact ⟨by assumption, (by exact .cons _ (.cons _ (.refl _)))⟩)) ?_
     rintro _ _ _ ⟨b6, rfl, rfl, rfl⟩
     refine SX.br1 3 (by kernel_rfl) ?_
     ·refine SB.o (i := 3) rfl (SO.call call50 rfl (of_spec E g1 _ _ b (hu.mono hle1) hb)) dC (.inr (by rintro uv g2 _ ⟨rfl, hle2, hut⟩; exact ⟨by exact Le.trans (by assumption) (by assumption), (by exact .cons _ (.cons _ (.refl _)))⟩)) ?_
      rintro uv g2 _ ⟨rfl, hle2, hut⟩
      obtain ⟨bu, rfl⟩ := hut.ptr
      refine SX.br1 6 (by kernel_rfl) ?_
      ·refine SB.on (i := 6) rfl (SO.storeAllK 1 sizeOf75 rfl rfl rfl rfl rfl (by exact ⟨rfl, trivial⟩)) (.inr (by rintro _ _ _ ⟨rfl, rfl⟩; exact ⟨by exact Le.trans (by assumption) (by assumption), (by exact .cons _ (.cons _ (.refl _)))⟩)) ?_
       rintro _ _ _ ⟨rfl, rfl⟩
       refine SX.br1 7 (by kernel_rfl) ?_
       ·refine SB.on (i := 7) rfl (SO.storeAllK 0 sizeOf75 rfl rfl rfl rfl rfl (by exact ⟨rfl, trivial⟩)) (.inr (by rintro _ _ _ ⟨rfl, rfl⟩; exact ⟨by exact Le.trans (by assumption) (by assumption), (by exact .cons _ (.cons _ (.refl _)))⟩)) ?_
        rintro _ _ _ ⟨rfl, rfl⟩
        refine SX.nil (by kernel_rfl) ?_
        first | exact ST.mid (b5, b6, pp bt 0, pp bu 0, g2) ⟨rfl, rfl, rfl, rfl, rfl, trivial⟩ rfl rfl ⟨hle1.trans hle2, ht.mono hle2, hut⟩ | (refine ST.perm (List.Perm.swap _ _ _) ?_; exact ST.mid (b5, b6, pp bt 0, pp bu 0, g2) ⟨rfl, rfl, rfl, rfl, rfl, trivial⟩ rfl rfl ⟨hle1.trans hle2, ht.mono hle2, hut⟩)
   ·refine SB.o (i := 5) rfl (SO.alloc zeroValue75) dC (.inr (by rintro _ _ _ ⟨b6, rfl, rfl, rfl⟩; exact ⟨by exact Le.refl _, (by exact .cons _ (.cons _ (.refl _)))⟩)) ?_
    rintro _ _ _ ⟨b6, rfl, rfl, rfl⟩
    refine SX.br1 1 (by kernel_rfl) ?_
    ·refine SB.o (i := 1) rfl (SO.call call50 rfl (of_spec E g _ _ a hv ha)) dC (.inr (by rintro tv g1 _ ⟨rfl, hle1, ht⟩; exact ⟨by assumption, (by exact .cons _ (.cons _ (.refl _)))⟩)) ?_
     rintro tv g1 _ ⟨rfl, hle1, ht⟩
     obtain ⟨bt, rfl⟩ := ht.ptr
     refine SX.br1 3 (by kernel_rfl) ?_
     ·refine SB.o (i := 3) rfl (SO.call call50 rfl (of_spec E g1 _ _ b (hu.mono hle1) hb)) dC (.inr (by rintro uv g2 _ ⟨rfl, hle2, hut⟩; exact ⟨by exact Le.trans (by assumption) (by assumption), (by exact .cons _ (.cons _ (.refl _)))⟩)) ?_
      rintro uv g2 _ ⟨rfl, hle2, hut⟩
      obtain ⟨bu, rfl⟩ := hut.ptr
      refine SX.br1 6 (by kernel_rfl) ?_
      ·refine SB.on (i := 6) rfl (SO.storeAllK 1 sizeOf75 rfl rfl rfl rfl rfl (by exact ⟨rfl, trivial⟩)) (.inr (by rintro _ _ _ ⟨rfl, rfl⟩; exact ⟨by exact Le.trans (by assumption) (by assumption), (by exact .cons _ (.cons _ (.refl _)))⟩)) ?_
       rintro _ _ _ ⟨rfl, rfl⟩
       refine SX.br1 7 (by kernel_rfl) ?_
       ·refine SB.on (i := 7) rfl (SO.storeAllK 0 sizeOf75 rfl rfl rfl rfl rfl (by exact ⟨rfl, trivial⟩)) (.inr (by rintro _ _ _ ⟨rfl, rfl⟩; exact ⟨by exact Le.trans (by assumption) (by assumption), (by exact .cons _ (.cons _ (.refl _)))⟩)) ?_
        rintro _ _ _ ⟨rfl, rfl⟩
        refine SX.nil (by kernel_rfl) ?_
        first | exact ST.mid (b5, b6, pp bt 0, pp bu 0, g2) ⟨rfl, rfl, rfl, rfl, rfl, trivial⟩ rfl rfl ⟨hle1.trans hle2, ht.mono hle2, hut⟩ | (refine ST.perm (List.Perm.swap _ _ _) ?_; exact ST.mid (b5, b6, pp bt 0, pp bu 0, g2) ⟨rfl, rfl, rfl, rfl, rfl, trivial⟩ rfl rfl ⟨hle1.trans hle2, ht.mono hle2, hut⟩)
  ·refine SB.o (i := 5) rfl (SO.alloc zeroValue75) dC (.inr (by rintro _ _ _ ⟨b6, rfl, rfl, rfl⟩; exact ⟨by exact Le.refl _, (by exact .cons _ (.refl _))⟩)) ?_
   rintro _ _ _ ⟨b6, rfl, rfl, rfl⟩
   refine SX.br2 1 4 (by kernel_rfl) ?_ ?_
   ·refine SB.o (i := 1) rfl (SO.call call50 rfl (of_spec E g _ _ a hv ha)) dC (.inr (by rintro tv g1 _ ⟨rfl, hle1, ht⟩; exact ⟨by assumption, (by exact .cons _ (.refl _))⟩)) ?_
    rintro tv g1 _ ⟨rfl, hle1, ht⟩
    obtain ⟨bt, rfl⟩ := ht.ptr
    refine SX.br2 3 4 (by kernel_rfl) ?_ ?_
    ·refine SB.o (i := 3) rfl (SO.call call50 rfl (of_spec E g1 _ _ b (hu.mono hle1) hb)) dC (.inr (by rintro uv g2 _ ⟨rfl, hle2, hut⟩; exact ⟨by exact Le.trans (by assumption) (by assumption), (by exact .cons _ (.refl _))⟩)) ?_
     rintro uv g2 _ ⟨rfl, hle2, hut⟩
     obtain ⟨bu, rfl⟩ := hut.ptr
     refine SX.br1 4 (by kernel_rfl) ?_
     ·refine SB.o (i := 4) rfl (SO.alloc zeroValue75) dC (.inr (by rintro _ _ _ ⟨b5, rfl, rfl, rfl⟩; exact ⟨by exact Le.trans (by assumption) (by assumption), (by exact .cons _ (.cons _ (.refl _)))⟩)) ?_
      rintro _ _ _ ⟨b5, rfl, rfl, rfl⟩
      refine SX.br1 6 (by kernel_rfl) ?_
      ·refine SB.on (i := 6) rfl (SO.storeAllK 0 sizeOf75 rfl rfl rfl rfl rfl (by exact ⟨rfl, trivial⟩)) (.inr (by rintro _ _ _ ⟨rfl, rfl⟩; exact ⟨by exact Le.trans (by assumption) (by assumption), (by exact .cons _ (.cons _ (.refl _)))⟩)) ?_
       rintro _ _ _ ⟨rfl, rfl⟩
       refine SX.br1 7 (by kernel_rfl) ?_
       ·refine SB.on (i := 7) rfl (SO.storeAllK 1 sizeOf75 rfl rfl rfl rfl rfl (by exact ⟨rfl, trivial⟩)) (.inr (by rintro _ _ _ ⟨rfl, rfl⟩; exact ⟨by exact Le.trans (by assumption) (by assumption), (by exact .cons _ (.cons _ (.refl _)))⟩)) ?_
        rintro _ _ _ ⟨rfl, rfl⟩
        refine SX.nil (by kernel_rfl) ?_
        first | exact ST.mid (b5, b6, pp bt 0, pp bu 0, g2) ⟨rfl, rfl, rfl, rfl, rfl, trivial⟩ rfl rfl ⟨hle1.trans hle2, ht.mono hle2, hut⟩ | (refine ST.perm (List.Perm.swap _ _ _) ?_; exact ST.mid (b5, b6, pp bt 0, pp bu 0, g2) ⟨rfl, rfl, rfl, rfl, rfl, trivial⟩ rfl rfl ⟨hle1.trans hle2, ht.mono hle2, hut⟩)
    ·refine SB.o (i := 4) rfl (SO.alloc zeroValue75) dC (.inr (by rintro _ _ _ ⟨b5, rfl, rfl, rfl⟩; exact ⟨by assumption, (by exact .cons _ (.cons _ (.refl _)))⟩)) ?_
     rintro _ _ _ ⟨b5, rfl, rfl, rfl⟩
     refine SX.br1 3 (by kernel_rfl) ?_
     ·refine SB.o (i := 3) rfl (SO.call call50 rfl (of_spec E g1 _ _ b (hu.mono hle1) hb)) dC (.inr (by rintro uv g2 _ ⟨rfl, hle2, hut⟩; exact ⟨by exact Le.trans (by assumption) (by assumption), (by exact .cons _ (.cons _ (.refl _)))⟩)) ?_
      rintro uv g2 _ ⟨rfl, hle2, hut⟩
      obtain ⟨bu, rfl⟩ := hut.ptr
      refine SX.br1 6 (by kernel_rfl) ?_
      ·refine SB.on (i := 6) rfl (SO.storeAllK 0 sizeOf75 rfl rfl rfl rfl rfl (by exact ⟨rfl, trivial⟩)) (.inr (by rintro _ _ _ ⟨rfl, rfl⟩; exact ⟨by exact Le.trans (by assumption) (by assumption), (by exact .cons _ (.cons _ (.refl _)))⟩)) ?_
       rintro _ _ _ ⟨rfl, rfl⟩
       refine SX.br1 7 (by kernel_rfl) ?_
       ·refine SB.on (i := 7) rfl (SO.storeAllK 1 sizeOf75 rfl rfl rfl rfl rfl (by exact ⟨rfl, trivial⟩)) (.inr (by rintro _ _ _ ⟨rfl, rfl⟩; exact ⟨by exact Le.trans (by assumption) (by assumption), (by exact .cons _ (.cons _ (.refl _)))⟩)) ?_
        rintro _ _ _ ⟨rfl, rfl⟩
        refine SX.nil (by kernel_rfl) ?_
        first | exact ST.mid (b5, b6, pp bt 0, pp bu 0, g2) ⟨rfl, rfl, rfl, rfl, rfl, trivial⟩ rfl rfl ⟨hle1.trans hle2, ht.mono hle2, hut⟩ | (refine ST.perm (List.Perm.swap _ _ _) ?_; exact ST.mid (b5, b6, pp bt 0, pp bu 0, g2) ⟨rfl, rfl, rfl, rfl, rfl, trivial⟩ rfl rfl ⟨hle1.trans hle2, ht.mono hle2, hut⟩)
   ·refine SB.o (i := 4) rfl (SO.alloc zeroValue75) dC (.inr (by rintro _ _ _ ⟨b5, rfl, rfl, rfl⟩; exact ⟨by exact Le.refl _, (by exact .cons _ (.cons _ (.refl _)))⟩)) ?_
    rintro _ _ _ ⟨b5, rfl, rfl, rfl⟩
    refine SX.br1 1 (by kernel_rfl) ?_
    ·refine SB.o (i := 1) rfl (SO.call call50 rfl (of_spec E g _ _ a hv ha)) dC (.inr (by rintro tv g1 _ ⟨rfl, hle1, ht⟩; exact ⟨by assumption, (by exact .cons _ (.cons _ (.refl _)))⟩)) ?_
     rintro tv g1 _ ⟨rfl, hle1, ht⟩
     obtain ⟨bt, rfl⟩ := ht.ptr
     refine SX.br1 3 (by kernel_rfl) ?_
     ·refine SB.o (i := 3) rfl (SO.call call50 rfl (of_spec E g1 _ _ b (hu.mono hle1) hb)) dC (.inr (by rintro uv g2 _ ⟨rfl, hle2, hut⟩; exact ⟨by exact Le.trans (by assumption) (by assumption), (by exact .cons _ (.cons _ (.refl _)))⟩)) ?_
      rintro uv g2 _ ⟨rfl, hle2, hut⟩
      obtain ⟨bu, rfl⟩ := hut.ptr
      refine SX.br1 6 (by kernel_rfl) ?_
      ·refine SB.on (i := 6) rfl (SO.storeAllK 0 sizeOf75 rfl rfl rfl rfl rfl (by exact ⟨rfl, trivial⟩)) (.inr (by rintro _ _ _ ⟨rfl, rfl⟩; exact ⟨by exact Le.trans (by assumption) (by assumption), (by exact .cons _ (.cons _ (.refl _)))⟩)) ?_
       rintro _ _ _ ⟨rfl, rfl⟩
       refine SX.br1 7 (by kernel_rfl) ?_
       ·refine SB.on (i := 7) rfl (SO.storeAllK 1 sizeOf75 rfl rfl rfl rfl rfl (by exact ⟨rfl, trivial⟩)) (.inr (by rintro _ _ _ ⟨rfl, rfl⟩; exact ⟨by exact Le.trans (by assumption) (by assumption), (by exact .cons _ (.cons _ (.refl _)))⟩)) ?_
        rintro _ _ _ ⟨rfl, rfl⟩
        refine SX.nil (by kernel_rfl) ?_
        first | exact ST.mid (b5, b6, pp bt 0, pp bu 0, g2) ⟨rfl, rfl, rfl, rfl, rfl, trivial⟩ rfl rfl ⟨hle1.trans hle2, ht.mono hle2, hut⟩ | (refine ST.perm (List.Perm.swap _ _ _) ?_; exact ST.mid (b5, b6, pp bt 0, pp bu 0, g2) ⟨rfl, rfl, rfl, rfl, rfl, trivial⟩ rfl rfl ⟨hle1.trans hle2, ht.mono hle2, hut⟩)
 rintro ⟨b5, b6, tv, uv, g2⟩ ⟨hle, ht, hut⟩
 dsimp only at hle ht hut ⊢
 refine SC.freeze fun g3 hl3 hb6 => ?_
 refine SC.freeze fun g4 hl4 hb5 => ?_
 have hle4 := hle.trans (hl3.trans hl4)
 have ht4 := ht.mono (hl3.trans hl4)
 have hut4 := hut.mono (hl3.trans hl4)
 refine SC.seq (SC.region (SL.K (SQ.load isAgg75 rfl (CellAt.known hb5 rfl)) (SL.U (SU.mkFunc rfl) (SL.W (SO.call call70 rfl (only_spec E g4 _ _ _ (tabC a) (meetP (tabC a) (tabC b)) ht4 hnA hfa (meetPred E g4 b5 b6 _ _ _ _ ht4 hut4 hfa hnA hb5 (hl4 _ _ hb6)))) ?_))))
 rintro _ g5 _ ⟨rfl, hle5, x, rfl, hx⟩
 obtain ⟨q, d, rfl⟩ := hx.form
 refine SL.on (SO.storeAllK 0 sizeOf27 rfl rfl rfl rfl rfl (by exact ⟨rfl, trivial⟩)) ?_
 rintro _ _ _ ⟨rfl, rfl⟩
 refine SL.nil (ST.thenN (SC.ret ?_))
 exact ST.retCD 0 s (.inl rfl) results25 rfl isAgg27 sizeOf27 rfl rfl (.cons _ (.cons _ (.cons _ (.refl _)))) ⟨rfl, hle4.trans hle5, _, rfl, hx⟩
theorem Tryz.sty99 : STy Tryz.prog 99 4 1 1 (vb false) := ⟨underlying99, ⟨t4, by kernel_rfl, by kernel_rfl, by kernel_rfl, by kernel_rfl⟩, rfl, by decide⟩
def encBool : Enc Bool 1 := ⟨fun n => [vb n], fun _ => rfl, fun _ u hu => by simp at hu; subst hu; rfl, by decide⟩
def flags (A : List Cl) (m : List Int) : List Bool := A.map fun c => m.contains c.id
theorem flags_nil (A : List Cl) : flags A [] = List.replicate A.length false := by
 unfold flags
 induction A with
 | nil => rfl
 | cons d t ih => simp [List.replicate_succ] at ih ⊢; exact ih
theorem flags_get {A : List Cl} {m : List Int} {k : Nat} {c : Cl} (h : A[k]? = some c) : (flags A m)[k]? = some (m.contains c.id) := by simp [flags, h]
theorem flags_set {A : List Cl} {m : List Int} {k : Nat} {c : Cl} (hn : (A.map Cl.id).Nodup) (h : A[k]? = some c) : (flags A m).set k true = flags A (m ++ [c.id]) := by
 obtain ⟨hk, hc⟩ := List.getElem?_eq_some_iff.1 h
 apply List.ext_getElem?
 intro q
 rw [List.getElem?_set]
 unfold flags
 simp only [List.getElem?_map, List.length_map]
 split
 ·rename_i e
  subst e
  simp [hk, hc]
 ·rename_i hne
  cases hq : A[q]? with
  | none => rfl
  | some d =>
   obtain ⟨hq1, hq2⟩ := List.getElem?_eq_some_iff.1 hq
   have hd : ¬ d.id = c.id := fun e => by
    have h1 : (A.map Cl.id)[q]? = some c.id := by simp [hq, e]
    have h2 : (A.map Cl.id)[k]? = some c.id := by simp [h]
    obtain ⟨i1, e1⟩ := List.getElem?_eq_some_iff.1 h1
    obtain ⟨i2, e2⟩ := List.getElem?_eq_some_iff.1 h2
    rcases Nat.lt_or_gt_of_ne hne with h3 | h3
    ·exact List.pairwise_iff_getElem.1 hn k q i2 i1 h3 (e2.trans e1.symm)
    ·exact List.pairwise_iff_getElem.1 hn q k i1 i2 h3 (e1.trans e2.symm)
   simp [hd]
theorem reached_spec (E : World) (g : PH) (s : Own) (v iv : Value) (A : List Cl) (ids : List Int) (hv : Cells g v A) (hi : Ints g iv ids) (hA : Fits A) (hs : (A.map Cl.id).Pairwise (· ≤ ·)) (hn : (A.map Cl.id).Nodup) (hb : ids.length + costF A [] < 1099511627776) :
  Ctr Tryz.prog E 73 #[v, iv] g s (fun r g' s' => s = s' ∧ Le g g' ∧ SlA encBool g' r (flags A (closF A ids))) := by
 obtain ⟨rs, hrs, hall⟩ := hv
 have hv : Cells g v A := ⟨rs, hrs, hall⟩
 have hrl := hall.length
 have hAl := hA.1
 obtain ⟨vp, vc, rfl⟩ := hrs.form
 obtain ⟨ip, ic, rfl⟩ := SlA.form hi
 refine Ctr.of (args := [.slice vp rs.length vc, .slice ip ids.length ic]) func73 rfl ntmps73 (Nat.le_of_ble_eq_true rfl) ?_
 refine SC.seq (SC.region (SL.A rfl (SL.nil (ST.thenN (SC.seq (SC.region (SL.M rfl (SL.U (SU.lenN underlying25 rfl) (SL.W (SO.makeA encBool false sty99 rfl rfl rfl oM oM) ?_)))))))))
 rintro _ _ _ ⟨b5, rfl, rfl, rfl⟩
 refine SL.A rfl (SL.nil (ST.thenN (SC.seq (SC.region (SL.W (SO.buildSlice sty45 rfl rfl rfl (szs_mk trivial) dC) ?_)))))
 rintro _ _ _ ⟨b12, rfl, rfl, rfl⟩
 refine SL.drop (.cons _ (.refl _)) (SL.emptyRow 3 1 (some ⟨b12, 0, none⟩) (SL.M rfl (SL.W (SO.appA (e := encInt) (l := []) (m := ids) 0 sty45 rfl rfl rfl hi (by simp; omega) (by simp; omega)) ?_)))
 rintro v14 _ _ ⟨rfl, rfl⟩
 refine SL.A rfl (SL.nil (ST.thenN (SC.seq (SC.block ?_))))
 refine SC.to (g' := g) (s' := que encInt 3 v14 ids :: rowA encBool 4 (.slice (some ⟨b5, 0, none⟩) rs.length rs.length) (flags A []) :: s) (fun w hw => by rw [flags_nil, hrl]; exact hw.toQue (i := 0) rfl) ?_
 refine SC.loop (ι := Value × List Int × List Int) (fun i => [(0, .slice vp rs.length vc), (5, .slice (some ⟨b5, 0, none⟩) rs.length rs.length), (6, i.1)]) (fun _ => g)
  (fun i => que encInt 3 i.1 i.2.1 :: rowA encBool 4 (.slice (some ⟨b5, 0, none⟩) rs.length rs.length) (flags A i.2.2) :: s) (fun i => Wide A ids i.2.1 i.2.2) (fun i => i.2.1.length + costF A i.2.2)
  (v14, ids, []) ⟨rfl, rfl, rfl, trivial⟩ rfl rfl (Wide.begin A ids) ?_
 rintro ⟨lv, left, m⟩ hW
 dsimp only at hW ⊢
 refine SC.facts fun ⟨w0, hw0⟩ => ?_
 obtain ⟨p6, c6, rfl, hbq⟩ := que_form (i := 0) hw0 rfl
 clear hw0 w0
 refine SC.seq (SC.seq (SC.region (SL.M rfl (SL.U (SU.lenN underlying45 rfl) (SL.U (SU.gtr rfl rfl) (SL.nil (ST.thenN ?_)))))))
 refine SC.ifP rfl (fun hgt => ?_) (fun hgt => ?_)
 ·obtain ⟨x, rest, rfl⟩ : ∃ x rest, left = x :: rest := by
   cases left with
   | nil => simp at hgt
   | cons x r => exact ⟨x, r, rfl⟩
  have hb0 := hbq (by simp)
  have hfew := hW.few
  rcases at_find hs x with ⟨hf0, hat⟩ | ⟨c, k, hf0, hat, hck⟩
  ·refine SC.skip (ST.thenN (SC.block (SC.seq (SC.region (SL.M rfl (SL.M rfl (SL.U (SU.indexAddr underlying45 sizeOf3 rfl rfl hb0 dC (by simp only [slen, List.length_cons]; omega)) ?_)))))))
   refine SL.K (SQ.elem1 (e := encInt) (l := x :: rest) (a := x) isAgg3 rfl (Rd.que 0 rfl) rfl rfl) (SL.W (SO.call call62 rfl (at_spec E g _ _ A x hv oM hs)) ?_)
   rintro _ _ _ ⟨rfl, rfl, rfl⟩
   rw [hat]
   refine SL.A rfl (SL.nil (ST.thenN (SC.seq (SC.region (SL.M rfl (SL.U (SU.sliceL (l := 1) underlying45 sizeOf3 rfl rfl dC (by simp only [List.length_cons]; omega)) ?_))))))
   refine SL.A rfl (SL.nil (ST.thenN (SC.seq (SC.seq ?_))))
   refine SC.to (g' := g) (s' := que encInt 3 (sliced p6 1 (x :: rest).length c6 1) rest :: rowA encBool 4 (.slice (some ⟨b5, 0, none⟩) rs.length rs.length) (flags A m) :: s) (fun w hw => hw.front (i := 0) rfl) ?_
   refine SC.region (SL.M rfl (SL.U (SU.eq (v' := vb true) (SU.lss rfl rfl) rfl) (SL.M rfl (SL.Z rfl rfl rfl (SL.Z rfl rfl rfl (SL.Z rfl rfl rfl (SL.Z rfl rfl rfl (SL.U (SU.pickT rfl rfl) (SL.nil (ST.thenN (SC.condT rfl (SC.exit (ST.thenX (ST.blockX ?_))))))))))))))
   exact ST.again (_, rest, m) ⟨rfl, rfl, rfl, trivial⟩ rfl rfl (hW.skip (.inl (by unfold adjT; rw [hf0]; rfl))) (by simp only [List.length_cons]; omega)
  ·have hkl : k < A.length := (List.getElem?_eq_some_iff.1 hck).1
   have hkr : k < rs.length := oM
   have hcid := (findT_mem hf0).2
   have hcm := (findT_mem hf0).1
   have hgm : (flags A m)[((k : Nat) : Int).toNat]? = some (m.contains x) := by rw [← hcid]; exact flags_get hck
   have hcr := hall.get hck (List.getElem?_eq_getElem hkr)
   have hgr : rs[((k : Nat) : Int).toNat]? = some rs[k] := List.getElem?_eq_getElem hkr
   have hbv := hrs.based oM
   obtain ⟨yp, ycap, hrk, hys⟩ := cellR_form hcr
   rw [hrk] at hgr
   refine SC.skip (ST.thenN (SC.block (SC.seq (SC.region (SL.M rfl (SL.M rfl (SL.U (SU.indexAddr underlying45 sizeOf3 rfl rfl hb0 dC (by simp only [slen, List.length_cons]; omega)) ?_)))))))
   refine SL.K (SQ.elem1 (e := encInt) (l := x :: rest) (a := x) isAgg3 rfl (Rd.que 0 rfl) rfl rfl) (SL.W (SO.call call62 rfl (at_spec E g _ _ A x hv oM hs)) ?_)
   rintro _ _ _ ⟨rfl, rfl, rfl⟩
   rw [hat]
   refine SL.A rfl (SL.nil (ST.thenN (SC.seq (SC.region (SL.M rfl (SL.U (SU.sliceL (l := 1) underlying45 sizeOf3 rfl rfl dC (by simp only [List.length_cons]; omega)) ?_))))))
   refine SL.A rfl (SL.nil (ST.thenN (SC.seq (SC.seq ?_))))
   refine SC.to (g' := g) (s' := que encInt 3 (sliced p6 1 (x :: rest).length c6 1) rest :: rowA encBool 4 (.slice (some ⟨b5, 0, none⟩) rs.length rs.length) (flags A m) :: s) (fun w hw => hw.front (i := 0) rfl) ?_
   refine SC.region (SL.M rfl (SL.U (SU.eq (v' := vb false) (SU.lss rfl rfl) (congrArg vb (decide_eq_false oM))) (SL.M rfl (SL.Y rfl rfl rfl (SU.move rfl) (SL.Y rfl rfl rfl (SU.move rfl) (SL.Y rfl rfl rfl (SU.indexAddr underlying99 sizeOf4 rfl rfl rfl oM sL) (SL.gq (Gd.onT rfl rfl rfl dC) (SQ.elem1 (e := encBool) isAgg4 rfl (Rd.rowA 1 rfl) hgm rfl) dC (SL.U (SU.pickF rfl rfl) (SL.nil (ST.thenN ?_))))))))))
   refine SC.ifB rfl (fun hmk => ?_) (fun hmk => ?_)
   ·refine SC.exit (ST.thenX (ST.blockX ?_))
    exact ST.again (_, rest, m) ⟨rfl, rfl, rfl, trivial⟩ rfl rfl (hW.skip (.inr (by simpa using hmk))) (by simp only [List.length_cons]; omega)
   ·have hW2 := hW.mark hf0 hmk
    have hca := costF_add hcm (by rw [hcid]; exact hmk)
    rw [hcid] at hca
    have hfl : (flags A m).length = A.length := by simp [flags]
    have hset : (flags A m).set k true = flags A (m ++ [x]) := by rw [flags_set hn hck, hcid]
    simp only [List.length_cons] at hfew
    refine SC.skip (ST.thenN (SC.seq (SC.region (SL.M rfl (SL.M rfl (SL.U (SU.indexAddr underlying99 sizeOf4 rfl rfl rfl oM sL) (SL.on (SO.setA (e := encBool) (a := true) 1 sizeOf4 rfl rfl rfl (by rw [hfl]; omega) rfl) ?_)))))))
    rintro _ _ _ ⟨rfl, rfl⟩
    refine SL.nil (ST.thenN (SC.seq (SC.region (SL.A rfl (SL.nil (ST.thenN (SC.block ?_)))))))
    refine SC.to (g' := g) (s' := que encInt 3 (sliced p6 1 (x :: rest).length c6 1) rest :: rowA encBool 4 (.slice (some ⟨b5, 0, none⟩) rs.length rs.length) (flags A (m ++ [x])) :: s) (fun w hw => by rw [← hset]; exact hw) ?_
    refine SC.loop (ι := Value × Nat) (fun i => [(0, .slice vp rs.length vc), (5, .slice (some ⟨b5, 0, none⟩) rs.length rs.length), (6, i.1), (7, vi k), (8, vi i.2)]) (fun _ => g)
     (fun i => que encInt 3 i.1 (rest ++ (c.sides.take i.2).map Side.cell) :: rowA encBool 4 (.slice (some ⟨b5, 0, none⟩) rs.length rs.length) (flags A (m ++ [x])) :: s) (fun i => i.2 ≤ c.sides.length) (fun i => c.sides.length - i.2)
     (sliced p6 1 (x :: rest).length c6 1, 0) ⟨rfl, rfl, rfl, rfl, rfl, trivial⟩ rfl (by simp only [List.take_zero, List.map_nil, List.append_nil]) (Nat.zero_le _) ?_
    rintro ⟨lv2, j⟩ hj
    dsimp only at hj ⊢
    refine SC.seq (SC.seq (SC.region (SL.M rfl (SL.M rfl (SL.M rfl (SL.U (SU.indexAddr underlying25 sizeOf51 rfl rfl hbv oM sL) (SL.U (SU.fieldAddrC underlying51 rfl sizeOf49 rfl hbv) (SL.K (SQ.partA (e := encCell) (o := 2) (u := .slice yp c.sides.length ycap) isAgg49 rfl hrs.rd hgr rfl) (SL.U (SU.lenN underlying49 rfl) (SL.U (SU.lss rfl rfl) (SL.nil (ST.thenN ?_))))))))))))
    refine SC.ifP rfl (fun hlt => ?_) (fun hlt => ?_)
    ·have hjl : j < c.sides.length := oM
     have hb2 := hys.based oM
     have hjx : c.sides[((j : Nat) : Int).toNat]? = some c.sides[j] := List.getElem?_eq_getElem hjl
     have htj : c.sides.take (j + 1) = c.sides.take j ++ [c.sides[j]] := List.take_succ_eq_append_getElem hjl
     have hql : (rest ++ (c.sides.take j).map Side.cell).length = rest.length + j := by simp; omega
     generalize c.sides[j] = z at *
     refine SC.skip (ST.thenN (SC.seq (SC.block (SC.region (SL.M rfl (SL.M rfl (SL.M rfl (SL.U (SU.indexAddr underlying25 sizeOf51 rfl rfl hbv oM sL) (SL.U (SU.fieldAddrC underlying51 rfl sizeOf49 rfl hbv) (SL.K (SQ.partA (e := encCell) (o := 2) (u := .slice yp c.sides.length ycap) isAgg49 rfl hrs.rd hgr rfl) (SL.M rfl (SL.U (SU.indexAddr underlying49 sizeOf55 rfl rfl hb2 oM sL) (SL.U (SU.fieldAddrC underlying55 rfl sizeOf3 rfl hb2) (SL.K (SQ.partA (e := encSide) (o := 0) (u := vi z.cell) isAgg3 rfl hys.rd hjx rfl) (SL.W (SO.buildSlice sty45 rfl rfl rfl (szs_mk (by exact ⟨rfl, trivial⟩)) dC) ?_)))))))))))))))
     rintro _ _ _ ⟨b56, rfl, rfl, rfl⟩
     refine SL.W (SO.queA (e := encInt) 0 z.cell sty45 rfl rfl rfl rfl rfl (by rw [hql]; omega) (by rw [hql]; omega)) ?_
     rintro v57 _ _ ⟨rfl, rfl⟩
     refine SL.A rfl (SL.nil (ST.blockN (ST.thenN (SC.region (SL.M rfl (SL.U (SU.add rfl rfl oM) (SL.A rfl (SL.nil ?_))))))))
     exact ST.again (v57, j + 1) ⟨rfl, rfl, rfl, rfl, rfl, trivial⟩ rfl (by dsimp only; rw [htj, List.map_append, ← List.append_assoc]; rfl) lN lN
    ·have hjj : c.sides.take j = c.sides := List.take_of_length_le oM
     rw [hjj]
     refine SC.exit (ST.thenX (ST.thenX (ST.blockX (ST.blockN ?_))))
     exact ST.again (lv2, rest ++ c.sides.map Side.cell, m ++ [x]) ⟨rfl, rfl, rfl, trivial⟩ rfl rfl hW2 (by simp only [List.length_append, List.length_map, List.length_cons]; omega)
 ·have hl0 : left = [] := List.eq_nil_of_length_eq_zero oM
  subst hl0
  refine SC.exit (ST.thenX (ST.thenX (ST.blockX (ST.thenN (SC.seq (SC.region (SL.M rfl (SL.A rfl (SL.nil (ST.thenN (SC.ret (ST.drop (s' := rowA encBool 4 (.slice (some ⟨b5, 0, none⟩) rs.length rs.length) (flags A m) :: s) (.cons _ (.refl _)) (ST.freezeRow fun g2 hle2 hrow => ?_)))))))))))))
  have hfe : flags A m = flags A (closF A ids) := List.map_congr_left fun c _ => hW.done c.id
  exact ST.ret1 (.inl rfl) results73 rfl ⟨rfl, hle2, by rw [← hfe]; exact hrow⟩
end Go.Proofs.YtkdibcicncjpdaaGreat
