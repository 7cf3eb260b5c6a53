/- Mee2 Rgt1 Rgt2 Rgt3 Frm2 LawS Par2 Own1 Shu -/
import Derived.Test.YtkdibcicncjpdaaGreatOw13
import Derived.Test.YtkdibcicncjpdaaGreatOw12
import Derived.Test.YtkdibcicncjpdaaGreatOw04
import Derived.Test.YtkdibcicncjpdaaGreatOw06
import Derived.Test.YtkdibcicncjpdaaGreatOw07
import Derived.Test.YtkdibcicncjpdaaGreatOw11
import Derived.Test.YtkdibcicncjpdaaGreatOw10
import Derived.SizedLaws
import Derived.Test.YtkdibcicncjpdaaGreatOw09
import Derived.Laws.Small
import Derived.Test.YtkdibcicncjpdaaGreatOw05
set_option linter.unusedSimpArgs false
set_option linter.unusedVariables false
namespace Go.Proofs.YtkdibcicncjpdaaGreat
open _root_.Go.Proofs.Tryz _root_.Go.Proofs.YtkdibcicncjpdaaGreat.Tryz
open Go Go.Sy Go.Pl Go.Proofs
set_option maxRecDepth 100000
set_option maxHeartbeats 1000000
theorem meetPred (E : World) (g0 : PH) (bt bu : Nat) (tv uv : Value) (A B : List Cl) (hT : Tab g0 tv A) (hU : Tab g0 uv B) (hA : Fits A) (hnA : (A.map Cl.id).Nodup) (h1 : g0 bt = some (.cells #[tv] 75 (0, 0))) (h2 : g0 bu = some (.cells #[uv] 75 (0, 0))) :
  PredOk E (.func (.func 71) #[] #[pp bt 0, pp bu 0]) (meetP A B) A g0 := by
 intro g s c r hle0 hmem hc
 replace hT := hT.mono hle0
 replace hU := hU.mono hle0
 replace h1 := hle0 _ _ h1
 replace h2 := hle0 _ _ h2
 obtain ⟨rp, rcap, rfl, hcs⟩ := cellR_form hc
 refine CallV.mk (cap := [pp bt 0, pp bu 0]) call71 ?_
 have hT0 := hT
 obtain ⟨ba, ma, iva, ra, rfl, hba, hma, hIa, halla⟩ := hT
 obtain ⟨bb, mb, ivb, rb, rfl, hbb, hmb, hIb, hallb⟩ := hU
 have hcl := fun id (h : id ∈ closF A [c.id]) => closF_in h
 have hmp : meetP A B c = (closF A [c.id]).all (meetI A B) := rfl
 generalize hC : closF A [c.id] = C at *
 refine Ctr.of (args := [rcv ⟨c.id, c.dim, ⟨rp, c.sides.length, rcap⟩⟩, pp bt 0, pp bu 0]) func71 rfl ntmps71 (Nat.le_of_ble_eq_true rfl) ?_
 refine SC.seq (SC.region (SL.W (SO.box rfl) ?_))
 rintro _ _ _ ⟨b3, rfl, rfl, rfl⟩
 refine SL.A rfl (SL.nil (ST.thenN (SC.seq (SC.seq (SC.region (SL.K (SQ.load isAgg75 rfl (CellAt.known h1 rfl)) (SL.U (SU.fieldAddr underlying51 rfl sizeOf3 rfl) (SL.K (SQ.load (v := vi c.id) isAgg3 rfl (CellAt.own 0 rfl rfl)) (SL.W (SO.buildSlice sty45 rfl rfl rfl (szs_mk ⟨rfl, trivial⟩) dC) ?_)))))))))
 rintro _ _ _ ⟨b11, rfl, rfl, rfl⟩
 refine SL.freeze fun g1 hle1 hb11 => ?_
 have hi1 : Ints g1 (.slice (some ⟨b11, 0, none⟩) 1 1) [c.id] := SlA.lit hb11 rfl rfl
 refine SL.W (SO.call call72 rfl (closure_spec E g1 _ _ _ A [c.id] (hT0.mono hle1) hA hi1 (by simp))) ?_
 rintro _ g2 _ ⟨m, rfl, hle2, rfl⟩
 rw [hC]
 refine SL.freezeMap fun g3 hle3 hm3 => ?_
 obtain ⟨es, clk, hes, hmi⟩ := hm3
 refine SL.W (SO.range underlying96 rfl hes) ?_
 rintro _ _ _ ⟨it, rfl, rfl, rfl⟩
 refine SL.nil (ST.thenN (SC.block ?_))
 have hle13 := hle1.trans (hle2.trans hle3)
 refine SC.loop (ι := List MapEntry × List (Int × Value)) (fun _ => [(1, pp bt 0), (2, pp bu 0), (13, pp it 0)]) (fun _ => g3)
  (fun i => iter it m es clk i.1 :: pt b3 (.cells #[vi c.id, vi c.dim, .slice rp c.sides.length rcap] 51 (0, 0)) :: s)
  (fun i => RVis (setP C) es i.1 i.2 ∧ ∀ p ∈ i.2, meetI A B p.1 = true) (fun i => C.length - i.2.length)
  ([], []) ⟨rfl, rfl, rfl, trivial⟩ rfl rfl ⟨RVis.nil _ _, by simp⟩ ?_
 rintro ⟨vis, vl⟩ ⟨hrv, hgood⟩
 dsimp only at hrv hgood ⊢
 have hvle := hrv.len hmi
 simp only [setP, List.length_map] at hvle
 refine SC.seq (SC.region (SL.W (SO.nextP 0 rfl rfl hes hmi hrv) ?_))
 rintro _ _ _ ⟨rfl, hcase⟩
 rcases hcase with ⟨rfl, rfl, hperm⟩ | ⟨e, pr, he, hp1, hk1, hv1, hrv2, rfl, rfl⟩
 ·have hall : meetP A B c = true := by
   rw [hmp, List.all_eq_true]
   intro id hid
   have : (id, vb true) ∈ setP C := List.mem_map.2 ⟨id, hid, rfl⟩
   exact hgood _ (hperm.symm.subset this)
  refine SL.U (SU.extract rfl rfl) (SL.nil (ST.thenN (SC.seq (SC.condF rfl (SC.exit (ST.thenX (ST.thenX (ST.blockX (ST.thenN (SC.seq (SC.region (SL.A rfl (SL.nil (ST.thenN (SC.ret ?_)))))))))))))))
  refine ST.drop (s' := s) (.cons _ (.cons _ (.refl _))) (ST.less hle13 ?_)
  exact ST.ret1 (.inl rfl) results71 rfl ⟨by rw [hall], rfl, rfl⟩
 ·obtain ⟨id, hid, rfl⟩ := List.mem_map.1 hp1
  have hvl2 := hrv2.len hmi
  simp only [setP, List.length_map, List.length_append, List.length_singleton] at hvl2
  obtain ⟨x, hx⟩ := hcl id hid
  obtain ⟨hxm, hxid⟩ := findT_mem hx
  have hxl := hA.2 x hxm
  obtain ⟨y, hy1, hy2, hy3⟩ := all2_look halla zeroCR id
  have hy3' : CellR g ((findT A id).getD zeroC) y := hy3
  rw [hx] at hy3'
  obtain ⟨yi, yd, yp, yn, yc⟩ := y
  obtain ⟨z, hz1, hz2, hz3⟩ := all2_look hallb zeroCR id
  obtain ⟨zi, zd, zp, zn, zc⟩ := z
  have hz2' : (mget (rb.map rcPair) id).isSome = (findT B id).isSome := hz2
  have hz3' : CellR g ((findT B id).getD zeroC) ⟨zi, zd, zp, zn, zc⟩ := hz3
  cases hf0 : findT B id with
  | none =>
   have hbad : meetP A B c = false := by
    rw [hmp, List.all_eq_false]
    exact ⟨id, hid, by unfold meetI; rw [hf0]; simp⟩
   refine SL.U (SU.extract rfl rfl) (SL.nil (ST.thenN (SC.seq (SC.condT rfl (SC.skip (ST.thenN (SC.block (SC.seq (SC.region (SL.K (SQ.entryP 0 rfl rfl hes hmi he hk1 hv1) (SL.U (SU.extract rfl rfl) (SL.A rfl (SL.nil (ST.thenN (SC.seq (SC.region (SL.K (SQ.load isAgg75 rfl (CellAt.known (hle13 _ _ h2) rfl)) (SL.U (SU.nilCheck rfl) (SL.U (SU.fieldAddr underlying88 rfl sizeOf86 rfl) (SL.K (SQ.load isAgg86 rfl (CellAt.known (hle13 _ _ hbb) rfl)) (SL.M rfl (SL.K (SQ.eq (v' := .tuple #[rcv ⟨zi, zd, zp, zn, zc⟩, vb false]) (SQ.lookupOk mty86 rfl rfl (MapAt.known (hmb.mono hle13))) (by rw [hz1, hz2', hf0]; rfl)) ?_))))))))))))))))))))))
   refine SL.M rfl (SL.U (SU.extract rfl rfl) (SL.U (SU.extract rfl rfl) (SL.W (SO.alloc zeroValue51) ?_)))
   rintro _ _ _ ⟨b6, rfl, rfl, rfl⟩
   refine SL.on (SO.storeAllK 0 sizeOf51 rfl rfl rfl rfl rfl (by exact ⟨rfl, rfl, rfl, trivial⟩)) ?_
   rintro _ _ _ ⟨rfl, rfl⟩
   refine SL.A rfl (SL.nil (ST.thenN (SC.seq ?_)))
   refine SC.draw [] [(0, 2), (1, 2), (2, 2), (3, 1), (4, 2), (5, 2), (6, 1), (7, 2), (8, 1), (9, 1), (10, 0), (11, 2), (12, 2)] Tryz.mixed (by kernel_rfl) ?_
   refine SP.U (i := 0) rfl (SU.move rfl) (SP.U (i := 1) rfl (SU.not rfl) (SP.U (i := 2) rfl (SU.move rfl) (SP.off1 (i := 3) rfl (Gd.onF rfl rfl rfl dC) dC (SP.off (i := 4) rfl (Gd.onF rfl rfl rfl dC) dC (SP.off (i := 5) rfl (Gd.onF rfl rfl rfl dC) dC (SP.off1 (i := 6) rfl (Gd.onF rfl rfl rfl dC) dC (SP.off (i := 7) rfl (Gd.onF rfl rfl rfl dC) dC (SP.off1 (i := 8) rfl (Gd.onF rfl rfl rfl dC) dC (SP.off1 (i := 9) rfl (Gd.onF rfl rfl rfl dC) dC (SP.offo (i := 10) rfl (Gd.onF rfl rfl rfl dC) dC ⟨by exact Le.refl _, (by exact .refl _)⟩ ?_))))))))))
   refine SP.off (i := 11) rfl (Gd.onF rfl rfl rfl dC) dC (SP.U (i := 12) rfl (SU.pickT rfl rfl) (SP.nil (ST.thenN (SC.condT rfl (SC.seq (SC.region (SL.A rfl (SL.nil (ST.thenN (SC.ret (ST.blockR (ST.thenR (ST.blockR (ST.thenR ?_))))))))))))))
   refine ST.drop (s' := s) (.cons _ (.cons _ (.cons _ (.refl _)))) (ST.less hle13 ?_)
   exact ST.ret1 (.inl rfl) results71 rfl ⟨by rw [hbad], rfl, rfl⟩
  | some w =>
   rw [hf0] at hz3'
   have hwr : CellR g w ⟨zi, zd, zp, zn, zc⟩ := hz3'
   have hmi0 : meetI A B id = decide (x = w) := by unfold meetI; rw [hf0, hx]; rfl
   refine SL.U (SU.extract rfl rfl) (SL.nil (ST.thenN (SC.seq (SC.condT rfl (SC.skip (ST.thenN (SC.block (SC.seq (SC.region (SL.K (SQ.entryP 0 rfl rfl hes hmi he hk1 hv1) (SL.U (SU.extract rfl rfl) (SL.A rfl (SL.nil (ST.thenN (SC.seq (SC.region (SL.K (SQ.load isAgg75 rfl (CellAt.known (hle13 _ _ h2) rfl)) (SL.U (SU.nilCheck rfl) (SL.U (SU.fieldAddr underlying88 rfl sizeOf86 rfl) (SL.K (SQ.load isAgg86 rfl (CellAt.known (hle13 _ _ hbb) rfl)) (SL.M rfl (SL.K (SQ.eq (v' := .tuple #[rcv ⟨zi, zd, zp, zn, zc⟩, vb true]) (SQ.lookupOk mty86 rfl rfl (MapAt.known (hmb.mono hle13))) (by rw [hz1, hz2', hf0]; rfl)) ?_))))))))))))))))))))))
   refine SL.M rfl (SL.U (SU.extract rfl rfl) (SL.U (SU.extract rfl rfl) (SL.W (SO.alloc zeroValue51) ?_)))
   rintro _ _ _ ⟨b6, rfl, rfl, rfl⟩
   refine SL.on (SO.storeAllK 0 sizeOf51 rfl rfl rfl rfl rfl (by exact ⟨rfl, rfl, rfl, trivial⟩)) ?_
   rintro _ _ _ ⟨rfl, rfl⟩
   refine SL.A rfl (SL.nil (ST.thenN (SC.seq ?_)))
   refine SC.draw [] [(0, 2), (1, 2), (2, 2), (3, 1), (4, 2), (5, 2), (6, 1), (7, 2), (8, 1), (9, 1), (10, 0), (11, 2), (12, 2)] Tryz.mixed (by kernel_rfl) ?_
   refine SP.U (i := 0) rfl (SU.move rfl) (SP.U (i := 1) rfl (SU.not rfl) (SP.U (i := 2) rfl (SU.move rfl) (SP.gq (i := 3) rfl (Gd.onT rfl rfl rfl dC) (SQ.load isAgg75 rfl (CellAt.known (hle13 _ _ h1) rfl)) dC (SP.gu (i := 4) rfl (Gd.onT rfl rfl rfl dC) (SU.nilCheck rfl) dC (SP.gu (i := 5) rfl (Gd.onT rfl rfl rfl dC) (SU.fieldAddr underlying88 rfl sizeOf86 rfl) dC (SP.gq (i := 6) rfl (Gd.onT rfl rfl rfl dC) (SQ.load isAgg86 rfl (CellAt.known (hle13 _ _ hba) rfl)) dC (SP.gu (i := 7) rfl (Gd.onT rfl rfl rfl dC) (SU.move rfl) dC (SP.gq (i := 8) rfl (Gd.onT rfl rfl rfl dC) (SQ.eq (v' := rcv ⟨yi, yd, yp, yn, yc⟩) (SQ.lookup mty86 rfl rfl (MapAt.known (hma.mono hle13))) (by rw [hy1])) dC ?_))))))))
   refine SP.gq (i := 9) rfl (Gd.onT rfl rfl rfl dC) (SQ.loadVarK 0 isAgg51 sizeOf51 rfl rfl rfl) dC (SP.go (i := 10) rfl (Gd.onT rfl rfl rfl dC) (SO.call call69 rfl (same_spec E g3 _ x w ⟨yi, yd, yp, yn, yc⟩ ⟨zi, zd, zp, zn, zc⟩ (hy3'.mono hle13) (hwr.mono hle13) hxl)) dC (.inr (by rintro _ _ _ ⟨rfl, rfl, rfl⟩; exact ⟨by exact Le.refl _, (by exact .refl _)⟩)) ?_)
   rintro _ _ _ ⟨rfl, rfl, rfl⟩
   refine SP.gu (i := 11) rfl (Gd.onT rfl rfl rfl dC) (SU.notP rfl) dC (SP.U (i := 12) rfl (SU.pickF rfl rfl) (SP.nil (ST.thenN ?_)))
   refine SC.ifP rfl (fun hne => ?_) (fun hne => ?_)
   ·have hbad : meetP A B c = false := by
     rw [hmp, List.all_eq_false]
     exact ⟨id, hid, by rw [hmi0]; simpa using hne⟩
    refine SC.seq (SC.region (SL.A rfl (SL.nil (ST.thenN (SC.ret (ST.blockR (ST.thenR (ST.blockR (ST.thenR ?_)))))))))
    refine ST.drop (s' := s) (.cons _ (.cons _ (.cons _ (.refl _)))) (ST.less hle13 ?_)
    exact ST.ret1 (.inl rfl) results71 rfl ⟨by rw [hbad], rfl, rfl⟩
   ·have hxw : x = w := Decidable.of_not_not hne
    refine SC.skip (ST.blockN (ST.drop (s' := iter it m es clk (vis ++ [e]) :: pt b3 (.cells #[vi c.id, vi c.dim, .slice rp c.sides.length rcap] 51 (0, 0)) :: s) (.cons _ (.refl _)) ?_))
    exact ST.again (vis ++ [e], vl ++ [(id, vb true)]) ⟨rfl, rfl, rfl, trivial⟩ rfl rfl ⟨hrv2, fun p hp => by
     rcases List.mem_append.1 hp with hp | hp
     ·exact hgood p hp
     ·simp at hp; subst hp; rw [hmi0]; simpa using hxw⟩ lN
theorem meet_new (E : World) (g : PH) (s : Own) (v u : Value) (a b : List Cl) (hv : Cells g v a) (hu : Cells g u b) (ha : Fits a) (hb : Fits b) :
  Ctr Tryz.prog E 25 #[.agg #[v], .agg #[u]] g s (fun r g' s' => s = s' ∧ Le g g' ∧ ∃ x, r = .agg #[x] ∧ CellsK (mns g' g) x (meetC (tabC a) (tabC b))) := by
 obtain ⟨p1, c1, rfl⟩ := hv.form
 obtain ⟨p2, c2, rfl⟩ := hu.form
 have hfa := tabC_fits ha
 have hnA := tabC_nodup a
 refine Ctr.of (args := [.agg #[.slice p1 a.length c1], .agg #[.slice p2 b.length c2]]) func25 rfl ntmps25 (Nat.le_of_ble_eq_true rfl) ?_
 refine SC.seq (SC.region (SL.W (SO.box rfl) ?_))
 rintro _ _ _ ⟨b2, rfl, rfl, rfl⟩
 refine SL.W (SO.box rfl) ?_
 rintro _ _ _ ⟨b3, rfl, rfl, rfl⟩
 refine SL.W (SO.alloc zeroValue27) ?_
 rintro _ _ _ ⟨b4, rfl, rfl, rfl⟩
 refine SL.nil (ST.thenN ?_)
 refine SC.cut (ι := Nat × Nat × Value × Value × PH) (fun i => [(2, pp b2 0), (3, pp b3 0), (4, pp b4 0), (5, pp i.1 0), (6, pp i.2.1 0)]) (fun i => i.2.2.2.2)
  (fun i => pt i.2.1 (.cells #[i.2.2.2.1] 75 (0, 0)) :: pt i.1 (.cells #[i.2.2.1] 75 (0, 0)) :: pt b4 (.cells #[.slice none 0 0] 27 (0, 0)) :: pt b3 (.cells #[.slice p2 b.length c2] 27 (0, 0)) :: pt b2 (.cells #[.slice p1 a.length c1] 27 (0, 0)) :: s)
  (fun i => Le g i.2.2.2.2 ∧ TabR (CellK (mns i.2.2.2.2 g)) i.2.2.2.2 i.2.2.1 (tabC a) ∧ Tab i.2.2.2.2 i.2.2.2.1 (tabC b)) ?_ ?_
 ·refine SC.drawX [] Tryz.mixed (by kernel_rfl) ?_
  refine SX.q (i := 0) rfl (by kernel_rfl) (SQ.loadVarK 2 isAgg27 sizeOf27 rfl rfl rfl) dC (SX.q (i := 2) rfl (by kernel_rfl) (SQ.loadVarK 1 isAgg27 sizeOf27 rfl rfl rfl) dC ?_)
  refine SX.br3 1 4 5 (by kernel_rfl) ?_ ?_ ?_
  ·refine SB.o (i := 1) rfl (SO.call call50 rfl (of_new E g _ _ a hv ha)) dC (.inr (by rintro tv g1 _ ⟨rfl, hle1, htk⟩; exact ⟨by assumption, (by exact .refl _)⟩)) ?_
   rintro tv g1 _ ⟨rfl, hle1, htk⟩
   have ht : Tab g1 tv (tabC a) := htk.mono (Le.refl _) fun _ _ => CellK.cr (mns_le _ _)
   obtain ⟨bt, rfl⟩ := ht.ptr
   refine SX.br3 3 4 5 (by kernel_rfl) ?_ ?_ ?_
   ·refine SB.o (i := 3) rfl (SO.call call50 rfl (of_spec E g1 _ _ b (hu.mono hle1) hb)) dC (.inr (by rintro uv g2 _ ⟨rfl, hle2, hut⟩; exact ⟨by exact Le.trans (by assumption) (by assumption), (by exact .refl _)⟩)) ?_
    rintro uv g2 _ ⟨rfl, hle2, hut⟩
    obtain ⟨bu, rfl⟩ := hut.ptr
    refine SX.br2 4 5 (by kernel_rfl) ?_ ?_
    ·refine SB.o (i := 4) rfl (SO.alloc zeroValue75) dC (.inr (by rintro _ _ _ ⟨b5, rfl, rfl, rfl⟩; exact ⟨by exact Le.trans (by assumption) (by assumption), (by exact .cons _ (.refl _))⟩)) ?_
     rintro _ _ _ ⟨b5, rfl, rfl, rfl⟩
     refine SX.br1 5 (by kernel_rfl) ?_
     ·refine SB.o (i := 5) rfl (SO.alloc zeroValue75) dC (.inr (by rintro _ _ _ ⟨b6, rfl, rfl, rfl⟩; exact ⟨by exact Le.trans (by assumption) (by assumption), (by exact .cons _ (.cons _ (.refl _)))⟩)) ?_
      rintro _ _ _ ⟨b6, rfl, rfl, rfl⟩
      refine SX.br1 6 (by kernel_rfl) ?_
      ·refine SB.on (i := 6) rfl (SO.storeAllK 1 sizeOf75 rfl rfl rfl rfl rfl (by exact ⟨rfl, trivial⟩)) (.inr (by rintro _ _ _ ⟨rfl, rfl⟩; exact ⟨by exact Le.trans (by assumption) (by assumption), (by exact .cons _ (.cons _ (.refl _)))⟩)) ?_
       rintro _ _ _ ⟨rfl, rfl⟩
       refine SX.br1 7 (by kernel_rfl) ?_
       ·refine SB.on (i := 7) rfl (SO.storeAllK 0 sizeOf75 rfl rfl rfl rfl rfl (by exact ⟨rfl, trivial⟩)) (.inr (by rintro _ _ _ ⟨rfl, rfl⟩; exact ⟨by exact Le.trans (by assumption) (by assumption), (by exact .cons _ (.cons _ (.refl _)))⟩)) ?_
        rintro _ _ _ ⟨rfl, rfl⟩
        refine SX.nil (by kernel_rfl) ?_
        first | exact ST.mid (b5, b6, pp bt 0, pp bu 0, g2) ⟨rfl, rfl, rfl, rfl, rfl, trivial⟩ rfl rfl ⟨hle1.trans hle2, htk.mono hle2 fun _ _ => CellK.mono (mns_mono hle2), hut⟩ | (refine ST.perm (List.Perm.swap _ _ _) ?_; exact ST.mid (b5, b6, pp bt 0, pp bu 0, g2) ⟨rfl, rfl, rfl, rfl, rfl, trivial⟩ rfl rfl ⟨hle1.trans hle2, htk.mono hle2 fun _ _ => CellK.mono (mns_mono hle2), hut⟩)
    ·refine SB.o (i := 5) rfl (SO.alloc zeroValue75) dC (.inr (by rintro _ _ _ ⟨b6, rfl, rfl, rfl⟩; exact ⟨by exact Le.trans (by assumption) (by assumption), (by exact .cons _ (.refl _))⟩)) ?_
     rintro _ _ _ ⟨b6, rfl, rfl, rfl⟩
     refine SX.br1 4 (by kernel_rfl) ?_
     ·refine SB.o (i := 4) rfl (SO.alloc zeroValue75) dC (.inr (by rintro _ _ _ ⟨b5, rfl, rfl, rfl⟩; exact ⟨by exact Le.trans (by assumption) (by assumption), (by exact .cons _ (.cons _ (.refl _)))⟩)) ?_
      rintro _ _ _ ⟨b5, rfl, rfl, rfl⟩
      refine SX.br1 6 (by kernel_rfl) ?_
      ·refine SB.on (i := 6) rfl (SO.storeAllK 0 sizeOf75 rfl rfl rfl rfl rfl (by exact ⟨rfl, trivial⟩)) (.inr (by rintro _ _ _ ⟨rfl, rfl⟩; exact ⟨by exact Le.trans (by assumption) (by assumption), (by exact .cons _ (.cons _ (.refl _)))⟩)) ?_
       rintro _ _ _ ⟨rfl, rfl⟩
       refine SX.br1 7 (by kernel_rfl) ?_
       ·refine SB.on (i := 7) rfl (SO.storeAllK 1 sizeOf75 rfl rfl rfl rfl rfl (by exact ⟨rfl, trivial⟩)) (.inr (by rintro _ _ _ ⟨rfl, rfl⟩; exact ⟨by exact Le.trans (by assumption) (by assumption), (by exact .cons _ (.cons _ (.refl _)))⟩)) ?_
        rintro _ _ _ ⟨rfl, rfl⟩
        refine SX.nil (by kernel_rfl) ?_
        first | exact ST.mid (b5, b6, pp bt 0, pp bu 0, g2) ⟨rfl, rfl, rfl, rfl, rfl, trivial⟩ rfl rfl ⟨hle1.trans hle2, htk.mono hle2 fun _ _ => CellK.mono (mns_mono hle2), hut⟩ | (refine ST.perm (List.Perm.swap _ _ _) ?_; exact ST.mid (b5, b6, pp bt 0, pp bu 0, g2) ⟨rfl, rfl, rfl, rfl, rfl, trivial⟩ rfl rfl ⟨hle1.trans hle2, htk.mono hle2 fun _ _ => CellK.mono (mns_mono hle2), hut⟩)
   ·refine SB.o (i := 4) rfl (SO.alloc zeroValue75) dC (.inr (by rintro _ _ _ ⟨b5, rfl, rfl, rfl⟩; exact ⟨by assumption, (by exact .cons _ (.refl _))⟩)) ?_
    rintro _ _ _ ⟨b5, rfl, rfl, rfl⟩
    refine SX.br2 3 5 (by kernel_rfl) ?_ ?_
    ·refine SB.o (i := 3) rfl (SO.call call50 rfl (of_spec E g1 _ _ b (hu.mono hle1) hb)) dC (.inr (by rintro uv g2 _ ⟨rfl, hle2, hut⟩; exact ⟨by exact Le.trans (by assumption) (by assumption), (by exact .cons _ (.refl _))⟩)) ?_
     rintro uv g2 _ ⟨rfl, hle2, hut⟩
     obtain ⟨bu, rfl⟩ := hut.ptr
     refine SX.br1 5 (by kernel_rfl) ?_
     ·refine SB.o (i := 5) rfl (SO.alloc zeroValue75) dC (.inr (by rintro _ _ _ ⟨b6, rfl, rfl, rfl⟩; exact ⟨by exact Le.trans (by assumption) (by assumption), (by exact .cons _ (.cons _ (.refl _)))⟩)) ?_
      rintro _ _ _ ⟨b6, rfl, rfl, rfl⟩
      refine SX.br1 6 (by kernel_rfl) ?_
      ·refine SB.on (i := 6) rfl (SO.storeAllK 1 sizeOf75 rfl rfl rfl rfl rfl (by exact ⟨rfl, trivial⟩)) (.inr (by rintro _ _ _ ⟨rfl, rfl⟩; exact ⟨by exact Le.trans (by assumption) (by assumption), (by exact .cons _ (.cons _ (.refl _)))⟩)) ?_
       rintro _ _ _ ⟨rfl, rfl⟩
       refine SX.br1 7 (by kernel_rfl) ?_
       ·refine SB.on (i := 7) rfl (SO.storeAllK 0 sizeOf75 rfl rfl rfl rfl rfl (by exact ⟨rfl, trivial⟩)) (.inr (by rintro _ _ _ ⟨rfl, rfl⟩; exact ⟨by exact Le.trans (by assumption) (by assumption), (by exact .cons _ (.cons _ (.refl _)))⟩)) ?_
        rintro _ _ _ ⟨rfl, rfl⟩
        refine SX.nil (by kernel_rfl) ?_
        first | exact ST.mid (b5, b6, pp bt 0, pp bu 0, g2) ⟨rfl, rfl, rfl, rfl, rfl, trivial⟩ rfl rfl ⟨hle1.trans hle2, htk.mono hle2 fun _ _ => CellK.mono (mns_mono hle2), hut⟩ | (refine ST.perm (List.Perm.swap _ _ _) ?_; exact ST.mid (b5, b6, pp bt 0, pp bu 0, g2) ⟨rfl, rfl, rfl, rfl, rfl, trivial⟩ rfl rfl ⟨hle1.trans hle2, htk.mono hle2 fun _ _ => CellK.mono (mns_mono hle2), hut⟩)
    ·refine SB.o (i := 5) rfl (SO.alloc zeroValue75) dC (.inr (by rintro _ _ _ ⟨b6, rfl, rfl, rfl⟩; exact ⟨by assumption, (by exact .cons _ (.cons _ (.refl _)))⟩)) ?_
     rintro _ _ _ ⟨b6, rfl, rfl, rfl⟩
     refine SX.br1 3 (by kernel_rfl) ?_
     ·refine SB.o (i := 3) rfl (SO.call call50 rfl (of_spec E g1 _ _ b (hu.mono hle1) hb)) dC (.inr (by rintro uv g2 _ ⟨rfl, hle2, hut⟩; exact ⟨by exact Le.trans (by assumption) (by assumption), (by exact .cons _ (.cons _ (.refl _)))⟩)) ?_
      rintro uv g2 _ ⟨rfl, hle2, hut⟩
      obtain ⟨bu, rfl⟩ := hut.ptr
      refine SX.br1 6 (by kernel_rfl) ?_
      ·refine SB.on (i := 6) rfl (SO.storeAllK 1 sizeOf75 rfl rfl rfl rfl rfl (by exact ⟨rfl, trivial⟩)) (.inr (by rintro _ _ _ ⟨rfl, rfl⟩; exact ⟨by exact Le.trans (by assumption) (by assumption), (by exact .cons _ (.cons _ (.refl _)))⟩)) ?_
       rintro _ _ _ ⟨rfl, rfl⟩
       refine SX.br1 7 (by kernel_rfl) ?_
       ·refine SB.on (i := 7) rfl (SO.storeAllK 0 sizeOf75 rfl rfl rfl rfl rfl (by exact ⟨rfl, trivial⟩)) (.inr (by rintro _ _ _ ⟨rfl, rfl⟩; exact ⟨by exact Le.trans (by assumption) (by assumption), (by exact .cons _ (.cons _ (.refl _)))⟩)) ?_
        rintro _ _ _ ⟨rfl, rfl⟩
        refine SX.nil (by kernel_rfl) ?_
        first | exact ST.mid (b5, b6, pp bt 0, pp bu 0, g2) ⟨rfl, rfl, rfl, rfl, rfl, trivial⟩ rfl rfl ⟨hle1.trans hle2, htk.mono hle2 fun _ _ => CellK.mono (mns_mono hle2), hut⟩ | (refine ST.perm (List.Perm.swap _ _ _) ?_; exact ST.mid (b5, b6, pp bt 0, pp bu 0, g2) ⟨rfl, rfl, rfl, rfl, rfl, trivial⟩ rfl rfl ⟨hle1.trans hle2, htk.mono hle2 fun _ _ => CellK.mono (mns_mono hle2), hut⟩)
   ·refine SB.o (i := 5) rfl (SO.alloc zeroValue75) dC (.inr (by rintro _ _ _ ⟨b6, rfl, rfl, rfl⟩; exact ⟨by assumption, (by exact .cons _ (.refl _))⟩)) ?_
    rintro _ _ _ ⟨b6, rfl, rfl, rfl⟩
    refine SX.br2 3 4 (by kernel_rfl) ?_ ?_
    ·refine SB.o (i := 3) rfl (SO.call call50 rfl (of_spec E g1 _ _ b (hu.mono hle1) hb)) dC (.inr (by rintro uv g2 _ ⟨rfl, hle2, hut⟩; exact ⟨by exact Le.trans (by assumption) (by assumption), (by exact .cons _ (.refl _))⟩)) ?_
     rintro uv g2 _ ⟨rfl, hle2, hut⟩
     obtain ⟨bu, rfl⟩ := hut.ptr
     refine SX.br1 4 (by kernel_rfl) ?_
     ·refine SB.o (i := 4) rfl (SO.alloc zeroValue75) dC (.inr (by rintro _ _ _ ⟨b5, rfl, rfl, rfl⟩; exact ⟨by exact Le.trans (by assumption) (by assumption), (by exact .cons _ (.cons _ (.refl _)))⟩)) ?_
      rintro _ _ _ ⟨b5, rfl, rfl, rfl⟩
      refine SX.br1 6 (by kernel_rfl) ?_
      ·refine SB.on (i := 6) rfl (SO.storeAllK 0 sizeOf75 rfl rfl rfl rfl rfl (by exact ⟨rfl, trivial⟩)) (.inr (by rintro _ _ _ ⟨rfl, rfl⟩; exact ⟨by exact Le.trans (by assumption) (by assumption), (by exact .cons _ (.cons _ (.refl _)))⟩)) ?_
       rintro _ _ _ ⟨rfl, rfl⟩
       refine SX.br1 7 (by kernel_rfl) ?_
       ·refine SB.on (i := 7) rfl (SO.storeAllK 1 sizeOf75 rfl rfl rfl rfl rfl (by exact ⟨rfl, trivial⟩)) (.inr (by rintro _ _ _ ⟨rfl, rfl⟩; exact ⟨by exact Le.trans (by assumption) (by assumption), (by exact .cons _ (.cons _ (.refl _)))⟩)) ?_
        rintro _ _ _ ⟨rfl, rfl⟩
        refine SX.nil (by kernel_rfl) ?_
        first | exact ST.mid (b5, b6, pp bt 0, pp bu 0, g2) ⟨rfl, rfl, rfl, rfl, rfl, trivial⟩ rfl rfl ⟨hle1.trans hle2, htk.mono hle2 fun _ _ => CellK.mono (mns_mono hle2), hut⟩ | (refine ST.perm (List.Perm.swap _ _ _) ?_; exact ST.mid (b5, b6, pp bt 0, pp bu 0, g2) ⟨rfl, rfl, rfl, rfl, rfl, trivial⟩ rfl rfl ⟨hle1.trans hle2, htk.mono hle2 fun _ _ => CellK.mono (mns_mono hle2), hut⟩)
    ·refine SB.o (i := 4) rfl (SO.alloc zeroValue75) dC (.inr (by rintro _ _ _ ⟨b5, rfl, rfl, rfl⟩; exact ⟨by assumption, (by exact .cons _ (.cons _ (.refl _)))⟩)) ?_
     rintro _ _ _ ⟨b5, rfl, rfl, rfl⟩
     refine SX.br1 3 (by kernel_rfl) ?_
     ·refine SB.o (i := 3) rfl (SO.call call50 rfl (of_spec E g1 _ _ b (hu.mono hle1) hb)) dC (.inr (by rintro uv g2 _ ⟨rfl, hle2, hut⟩; exact ⟨by exact Le.trans (by assumption) (by assumption), (by exact .cons _ (.cons _ (.refl _)))⟩)) ?_
      rintro uv g2 _ ⟨rfl, hle2, hut⟩
      obtain ⟨bu, rfl⟩ := hut.ptr
      refine SX.br1 6 (by kernel_rfl) ?_
      ·refine SB.on (i := 6) rfl (SO.storeAllK 0 sizeOf75 rfl rfl rfl rfl rfl (by exact ⟨rfl, trivial⟩)) (.inr (by rintro _ _ _ ⟨rfl, rfl⟩; exact ⟨by exact Le.trans (by assumption) (by assumption), (by exact .cons _ (.cons _ (.refl _)))⟩)) ?_
       rintro _ _ _ ⟨rfl, rfl⟩
       refine SX.br1 7 (by kernel_rfl) ?_
       ·refine SB.on (i := 7) rfl (SO.storeAllK 1 sizeOf75 rfl rfl rfl rfl rfl (by exact ⟨rfl, trivial⟩)) (.inr (by rintro _ _ _ ⟨rfl, rfl⟩; exact ⟨by exact Le.trans (by assumption) (by assumption), (by exact .cons _ (.cons _ (.refl _)))⟩)) ?_
        rintro _ _ _ ⟨rfl, rfl⟩
        refine SX.nil (by kernel_rfl) ?_
        first | exact ST.mid (b5, b6, pp bt 0, pp bu 0, g2) ⟨rfl, rfl, rfl, rfl, rfl, trivial⟩ rfl rfl ⟨hle1.trans hle2, htk.mono hle2 fun _ _ => CellK.mono (mns_mono hle2), hut⟩ | (refine ST.perm (List.Perm.swap _ _ _) ?_; exact ST.mid (b5, b6, pp bt 0, pp bu 0, g2) ⟨rfl, rfl, rfl, rfl, rfl, trivial⟩ rfl rfl ⟨hle1.trans hle2, htk.mono hle2 fun _ _ => CellK.mono (mns_mono hle2), hut⟩)
  ·refine SB.o (i := 4) rfl (SO.alloc zeroValue75) dC (.inr (by rintro _ _ _ ⟨b5, rfl, rfl, rfl⟩; exact ⟨by exact Le.refl _, (by exact .cons _ (.refl _))⟩)) ?_
   rintro _ _ _ ⟨b5, rfl, rfl, rfl⟩
   refine SX.br2 1 5 (by kernel_rfl) ?_ ?_
   ·refine SB.o (i := 1) rfl (SO.call call50 rfl (of_new E g _ _ a hv ha)) dC (.inr (by rintro tv g1 _ ⟨rfl, hle1, htk⟩; exact ⟨by assumption, (by exact .cons _ (.refl _))⟩)) ?_
    rintro tv g1 _ ⟨rfl, hle1, htk⟩
    have ht : Tab g1 tv (tabC a) := htk.mono (Le.refl _) fun _ _ => CellK.cr (mns_le _ _)
    obtain ⟨bt, rfl⟩ := ht.ptr
    refine SX.br2 3 5 (by kernel_rfl) ?_ ?_
    ·refine SB.o (i := 3) rfl (SO.call call50 rfl (of_spec E g1 _ _ b (hu.mono hle1) hb)) dC (.inr (by rintro uv g2 _ ⟨rfl, hle2, hut⟩; exact ⟨by exact Le.trans (by assumption) (by assumption), (by exact .cons _ (.refl _))⟩)) ?_
     rintro uv g2 _ ⟨rfl, hle2, hut⟩
     obtain ⟨bu, rfl⟩ := hut.ptr
     refine SX.br1 5 (by kernel_rfl) ?_
     ·refine SB.o (i := 5) rfl (SO.alloc zeroValue75) dC (.inr (by rintro _ _ _ ⟨b6, rfl, rfl, rfl⟩; exact ⟨by exact Le.trans (by assumption) (by assumption), (by exact .cons _ (.cons _ (.refl _)))⟩)) ?_
      rintro _ _ _ ⟨b6, rfl, rfl, rfl⟩
      refine SX.br1 6 (by kernel_rfl) ?_
      ·refine SB.on (i := 6) rfl (SO.storeAllK 1 sizeOf75 rfl rfl rfl rfl rfl (by exact ⟨rfl, trivial⟩)) (.inr (by rintro _ _ _ ⟨rfl, rfl⟩; exact ⟨by exact Le.trans (by assumption) (by assumption), (by exact .cons _ (.cons _ (.refl _)))⟩)) ?_
       rintro _ _ _ ⟨rfl, rfl⟩
       refine SX.br1 7 (by kernel_rfl) ?_
       ·refine SB.on (i := 7) rfl (SO.storeAllK 0 sizeOf75 rfl rfl rfl rfl rfl (by exact ⟨rfl, trivial⟩)) (.inr (by rintro _ _ _ ⟨rfl, rfl⟩; exact ⟨by exact Le.trans (by assumption) (by assumption), (by exact .cons _ (.cons _ (.refl _)))⟩)) ?_
        rintro _ _ _ ⟨rfl, rfl⟩
        refine SX.nil (by kernel_rfl) ?_
        first | exact ST.mid (b5, b6, pp bt 0, pp bu 0, g2) ⟨rfl, rfl, rfl, rfl, rfl, trivial⟩ rfl rfl ⟨hle1.trans hle2, htk.mono hle2 fun _ _ => CellK.mono (mns_mono hle2), hut⟩ | (refine ST.perm (List.Perm.swap _ _ _) ?_; exact ST.mid (b5, b6, pp bt 0, pp bu 0, g2) ⟨rfl, rfl, rfl, rfl, rfl, trivial⟩ rfl rfl ⟨hle1.trans hle2, htk.mono hle2 fun _ _ => CellK.mono (mns_mono hle2), hut⟩)
    ·refine SB.o (i := 5) rfl (SO.alloc zeroValue75) dC (.inr (by rintro _ _ _ ⟨b6, rfl, rfl, rfl⟩; exact ⟨by assumption, (by exact .cons _ (.cons _ (.refl _)))⟩)) ?_
     rintro _ _ _ ⟨b6, rfl, rfl, rfl⟩
     refine SX.br1 3 (by kernel_rfl) ?_
     ·refine SB.o (i := 3) rfl (SO.call call50 rfl (of_spec E g1 _ _ b (hu.mono hle1) hb)) dC (.inr (by rintro uv g2 _ ⟨rfl, hle2, hut⟩; exact ⟨by exact Le.trans (by assumption) (by assumption), (by exact .cons _ (.cons _ (.refl _)))⟩)) ?_
      rintro uv g2 _ ⟨rfl, hle2, hut⟩
      obtain ⟨bu, rfl⟩ := hut.ptr
      refine SX.br1 6 (by kernel_rfl) ?_
      ·refine SB.on (i := 6) rfl (SO.storeAllK 1 sizeOf75 rfl rfl rfl rfl rfl (by exact ⟨rfl, trivial⟩)) (.inr (by rintro _ _ _ ⟨rfl, rfl⟩; exact ⟨by exact Le.trans (by assumption) (by assumption), (by exact .cons _ (.cons _ (.refl _)))⟩)) ?_
       rintro _ _ _ ⟨rfl, rfl⟩
       refine SX.br1 7 (by kernel_rfl) ?_
       ·refine SB.on (i := 7) rfl (SO.storeAllK 0 sizeOf75 rfl rfl rfl rfl rfl (by exact ⟨rfl, trivial⟩)) (.inr (by rintro _ _ _ ⟨rfl, rfl⟩; exact ⟨by exact Le.trans (by assumption) (by assumption), (by exact .cons _ (.cons _ (.refl _)))⟩)) ?_
        rintro _ _ _ ⟨rfl, rfl⟩
        refine SX.nil (by kernel_rfl) ?_
        first | exact ST.mid (b5, b6, pp bt 0, pp bu 0, g2) ⟨rfl, rfl, rfl, rfl, rfl, trivial⟩ rfl rfl ⟨hle1.trans hle2, htk.mono hle2 fun _ _ => CellK.mono (mns_mono hle2), hut⟩ | (refine ST.perm (List.Perm.swap _ _ _) ?_; exact ST.mid (b5, b6, pp bt 0, pp bu 0, g2) ⟨rfl, rfl, rfl, rfl, rfl, trivial⟩ rfl rfl ⟨hle1.trans hle2, htk.mono hle2 fun _ _ => CellK.mono (mns_mono hle2), hut⟩)
   ·refine SB.o (i := 5) rfl (SO.alloc zeroValue75) dC (.inr (by rintro _ _ _ ⟨b6, rfl, rfl, rfl⟩; exact ⟨by exact Le.refl _, (by exact .cons _ (.cons _ (.refl _)))⟩)) ?_
    rintro _ _ _ ⟨b6, rfl, rfl, rfl⟩
    refine SX.br1 1 (by kernel_rfl) ?_
    ·refine SB.o (i := 1) rfl (SO.call call50 rfl (of_new E g _ _ a hv ha)) dC (.inr (by rintro tv g1 _ ⟨rfl, hle1, htk⟩; exact ⟨by assumption, (by exact .cons _ (.cons _ (.refl _)))⟩)) ?_
     rintro tv g1 _ ⟨rfl, hle1, htk⟩
     have ht : Tab g1 tv (tabC a) := htk.mono (Le.refl _) fun _ _ => CellK.cr (mns_le _ _)
     obtain ⟨bt, rfl⟩ := ht.ptr
     refine SX.br1 3 (by kernel_rfl) ?_
     ·refine SB.o (i := 3) rfl (SO.call call50 rfl (of_spec E g1 _ _ b (hu.mono hle1) hb)) dC (.inr (by rintro uv g2 _ ⟨rfl, hle2, hut⟩; exact ⟨by exact Le.trans (by assumption) (by assumption), (by exact .cons _ (.cons _ (.refl _)))⟩)) ?_
      rintro uv g2 _ ⟨rfl, hle2, hut⟩
      obtain ⟨bu, rfl⟩ := hut.ptr
      refine SX.br1 6 (by kernel_rfl) ?_
      ·refine SB.on (i := 6) rfl (SO.storeAllK 1 sizeOf75 rfl rfl rfl rfl rfl (by exact ⟨rfl, trivial⟩)) (.inr (by rintro _ _ _ ⟨rfl, rfl⟩; exact ⟨by exact Le.trans (by assumption) (by assumption), (by exact .cons _ (.cons _ (.refl _)))⟩)) ?_
       rintro _ _ _ ⟨rfl, rfl⟩
       refine SX.br1 7 (by kernel_rfl) ?_
       ·refine SB.on (i := 7) rfl (SO.storeAllK 0 sizeOf75 rfl rfl rfl rfl rfl (by exact ⟨rfl, trivial⟩)) (.inr (by rintro _ _ _ ⟨rfl, rfl⟩; exact ⟨by exact Le.trans (by assumption) (by assumption), (by exact .cons _ (.cons _ (.refl _)))⟩)) ?_
        rintro _ _ _ ⟨rfl, rfl⟩
        refine SX.nil (by kernel_rfl) ?_
        first | exact ST.mid (b5, b6, pp bt 0, pp bu 0, g2) ⟨rfl, rfl, rfl, rfl, rfl, trivial⟩ rfl rfl ⟨hle1.trans hle2, htk.mono hle2 fun _ _ => CellK.mono (mns_mono hle2), hut⟩ | (refine ST.perm (List.Perm.swap _ _ _) ?_; exact ST.mid (b5, b6, pp bt 0, pp bu 0, g2) ⟨rfl, rfl, rfl, rfl, rfl, trivial⟩ rfl rfl ⟨hle1.trans hle2, htk.mono hle2 fun _ _ => CellK.mono (mns_mono hle2), hut⟩)
  ·refine SB.o (i := 5) rfl (SO.alloc zeroValue75) dC (.inr (by rintro _ _ _ ⟨b6, rfl, rfl, rfl⟩; exact ⟨by exact Le.refl _, (by exact .cons _ (.refl _))⟩)) ?_
   rintro _ _ _ ⟨b6, rfl, rfl, rfl⟩
   refine SX.br2 1 4 (by kernel_rfl) ?_ ?_
   ·refine SB.o (i := 1) rfl (SO.call call50 rfl (of_new E g _ _ a hv ha)) dC (.inr (by rintro tv g1 _ ⟨rfl, hle1, htk⟩; exact ⟨by assumption, (by exact .cons _ (.refl _))⟩)) ?_
    rintro tv g1 _ ⟨rfl, hle1, htk⟩
    have ht : Tab g1 tv (tabC a) := htk.mono (Le.refl _) fun _ _ => CellK.cr (mns_le _ _)
    obtain ⟨bt, rfl⟩ := ht.ptr
    refine SX.br2 3 4 (by kernel_rfl) ?_ ?_
    ·refine SB.o (i := 3) rfl (SO.call call50 rfl (of_spec E g1 _ _ b (hu.mono hle1) hb)) dC (.inr (by rintro uv g2 _ ⟨rfl, hle2, hut⟩; exact ⟨by exact Le.trans (by assumption) (by assumption), (by exact .cons _ (.refl _))⟩)) ?_
     rintro uv g2 _ ⟨rfl, hle2, hut⟩
     obtain ⟨bu, rfl⟩ := hut.ptr
     refine SX.br1 4 (by kernel_rfl) ?_
     ·refine SB.o (i := 4) rfl (SO.alloc zeroValue75) dC (.inr (by rintro _ _ _ ⟨b5, rfl, rfl, rfl⟩; exact ⟨by exact Le.trans (by assumption) (by assumption), (by exact .cons _ (.cons _ (.refl _)))⟩)) ?_
      rintro _ _ _ ⟨b5, rfl, rfl, rfl⟩
      refine SX.br1 6 (by kernel_rfl) ?_
      ·refine SB.on (i := 6) rfl (SO.storeAllK 0 sizeOf75 rfl rfl rfl rfl rfl (by exact ⟨rfl, trivial⟩)) (.inr (by rintro _ _ _ ⟨rfl, rfl⟩; exact ⟨by exact Le.trans (by assumption) (by assumption), (by exact .cons _ (.cons _ (.refl _)))⟩)) ?_
       rintro _ _ _ ⟨rfl, rfl⟩
       refine SX.br1 7 (by kernel_rfl) ?_
       ·refine SB.on (i := 7) rfl (SO.storeAllK 1 sizeOf75 rfl rfl rfl rfl rfl (by exact ⟨rfl, trivial⟩)) (.inr (by rintro _ _ _ ⟨rfl, rfl⟩; exact ⟨by exact Le.trans (by assumption) (by assumption), (by exact .cons _ (.cons _ (.refl _)))⟩)) ?_
        rintro _ _ _ ⟨rfl, rfl⟩
        refine SX.nil (by kernel_rfl) ?_
        first | exact ST.mid (b5, b6, pp bt 0, pp bu 0, g2) ⟨rfl, rfl, rfl, rfl, rfl, trivial⟩ rfl rfl ⟨hle1.trans hle2, htk.mono hle2 fun _ _ => CellK.mono (mns_mono hle2), hut⟩ | (refine ST.perm (List.Perm.swap _ _ _) ?_; exact ST.mid (b5, b6, pp bt 0, pp bu 0, g2) ⟨rfl, rfl, rfl, rfl, rfl, trivial⟩ rfl rfl ⟨hle1.trans hle2, htk.mono hle2 fun _ _ => CellK.mono (mns_mono hle2), hut⟩)
    ·refine SB.o (i := 4) rfl (SO.alloc zeroValue75) dC (.inr (by rintro _ _ _ ⟨b5, rfl, rfl, rfl⟩; exact ⟨by assumption, (by exact .cons _ (.cons _ (.refl _)))⟩)) ?_
     rintro _ _ _ ⟨b5, rfl, rfl, rfl⟩
     refine SX.br1 3 (by kernel_rfl) ?_
     ·refine SB.o (i := 3) rfl (SO.call call50 rfl (of_spec E g1 _ _ b (hu.mono hle1) hb)) dC (.inr (by rintro uv g2 _ ⟨rfl, hle2, hut⟩; exact ⟨by exact Le.trans (by assumption) (by assumption), (by exact .cons _ (.cons _ (.refl _)))⟩)) ?_
      rintro uv g2 _ ⟨rfl, hle2, hut⟩
      obtain ⟨bu, rfl⟩ := hut.ptr
      refine SX.br1 6 (by kernel_rfl) ?_
      ·refine SB.on (i := 6) rfl (SO.storeAllK 0 sizeOf75 rfl rfl rfl rfl rfl (by exact ⟨rfl, trivial⟩)) (.inr (by rintro _ _ _ ⟨rfl, rfl⟩; exact ⟨by exact Le.trans (by assumption) (by assumption), (by exact .cons _ (.cons _ (.refl _)))⟩)) ?_
       rintro _ _ _ ⟨rfl, rfl⟩
       refine SX.br1 7 (by kernel_rfl) ?_
       ·refine SB.on (i := 7) rfl (SO.storeAllK 1 sizeOf75 rfl rfl rfl rfl rfl (by exact ⟨rfl, trivial⟩)) (.inr (by rintro _ _ _ ⟨rfl, rfl⟩; exact ⟨by exact Le.trans (by assumption) (by assumption), (by exact .cons _ (.cons _ (.refl _)))⟩)) ?_
        rintro _ _ _ ⟨rfl, rfl⟩
        refine SX.nil (by kernel_rfl) ?_
        first | exact ST.mid (b5, b6, pp bt 0, pp bu 0, g2) ⟨rfl, rfl, rfl, rfl, rfl, trivial⟩ rfl rfl ⟨hle1.trans hle2, htk.mono hle2 fun _ _ => CellK.mono (mns_mono hle2), hut⟩ | (refine ST.perm (List.Perm.swap _ _ _) ?_; exact ST.mid (b5, b6, pp bt 0, pp bu 0, g2) ⟨rfl, rfl, rfl, rfl, rfl, trivial⟩ rfl rfl ⟨hle1.trans hle2, htk.mono hle2 fun _ _ => CellK.mono (mns_mono hle2), hut⟩)
   ·refine SB.o (i := 4) rfl (SO.alloc zeroValue75) dC (.inr (by rintro _ _ _ ⟨b5, rfl, rfl, rfl⟩; exact ⟨by exact Le.refl _, (by exact .cons _ (.cons _ (.refl _)))⟩)) ?_
    rintro _ _ _ ⟨b5, rfl, rfl, rfl⟩
    refine SX.br1 1 (by kernel_rfl) ?_
    ·refine SB.o (i := 1) rfl (SO.call call50 rfl (of_new E g _ _ a hv ha)) dC (.inr (by rintro tv g1 _ ⟨rfl, hle1, htk⟩; exact ⟨by assumption, (by exact .cons _ (.cons _ (.refl _)))⟩)) ?_
     rintro tv g1 _ ⟨rfl, hle1, htk⟩
     have ht : Tab g1 tv (tabC a) := htk.mono (Le.refl _) fun _ _ => CellK.cr (mns_le _ _)
     obtain ⟨bt, rfl⟩ := ht.ptr
     refine SX.br1 3 (by kernel_rfl) ?_
     ·refine SB.o (i := 3) rfl (SO.call call50 rfl (of_spec E g1 _ _ b (hu.mono hle1) hb)) dC (.inr (by rintro uv g2 _ ⟨rfl, hle2, hut⟩; exact ⟨by exact Le.trans (by assumption) (by assumption), (by exact .cons _ (.cons _ (.refl _)))⟩)) ?_
      rintro uv g2 _ ⟨rfl, hle2, hut⟩
      obtain ⟨bu, rfl⟩ := hut.ptr
      refine SX.br1 6 (by kernel_rfl) ?_
      ·refine SB.on (i := 6) rfl (SO.storeAllK 0 sizeOf75 rfl rfl rfl rfl rfl (by exact ⟨rfl, trivial⟩)) (.inr (by rintro _ _ _ ⟨rfl, rfl⟩; exact ⟨by exact Le.trans (by assumption) (by assumption), (by exact .cons _ (.cons _ (.refl _)))⟩)) ?_
       rintro _ _ _ ⟨rfl, rfl⟩
       refine SX.br1 7 (by kernel_rfl) ?_
       ·refine SB.on (i := 7) rfl (SO.storeAllK 1 sizeOf75 rfl rfl rfl rfl rfl (by exact ⟨rfl, trivial⟩)) (.inr (by rintro _ _ _ ⟨rfl, rfl⟩; exact ⟨by exact Le.trans (by assumption) (by assumption), (by exact .cons _ (.cons _ (.refl _)))⟩)) ?_
        rintro _ _ _ ⟨rfl, rfl⟩
        refine SX.nil (by kernel_rfl) ?_
        first | exact ST.mid (b5, b6, pp bt 0, pp bu 0, g2) ⟨rfl, rfl, rfl, rfl, rfl, trivial⟩ rfl rfl ⟨hle1.trans hle2, htk.mono hle2 fun _ _ => CellK.mono (mns_mono hle2), hut⟩ | (refine ST.perm (List.Perm.swap _ _ _) ?_; exact ST.mid (b5, b6, pp bt 0, pp bu 0, g2) ⟨rfl, rfl, rfl, rfl, rfl, trivial⟩ rfl rfl ⟨hle1.trans hle2, htk.mono hle2 fun _ _ => CellK.mono (mns_mono hle2), hut⟩)
 rintro ⟨b5, b6, tv, uv, g2⟩ ⟨hle, htk, hut⟩
 dsimp only at hle htk hut ⊢
 have ht : Tab g2 tv (tabC a) := htk.mono (Le.refl _) fun _ _ => CellK.cr (mns_le _ _)
 refine SC.freeze fun g3 hl3 hb6 => ?_
 refine SC.freeze fun g4 hl4 hb5 => ?_
 have hle4 := hle.trans (hl3.trans hl4)
 have ht4 := ht.mono (hl3.trans hl4)
 have hut4 := hut.mono (hl3.trans hl4)
 refine SC.seq (SC.region (SL.K (SQ.load isAgg75 rfl (CellAt.known hb5 rfl)) (SL.U (SU.mkFunc rfl) (SL.W (SO.call call70 rfl (only_gen (CellK (mns g2 g)) E g4 _ _ _ (tabC a) (meetP (tabC a) (tabC b)) (fun _ _ h => CellK.cr ((mns_le _ _).trans (hl3.trans hl4)) h) (htk.mono (hl3.trans hl4) fun _ _ h => h) hnA hfa (meetPred E g4 b5 b6 _ _ _ _ ht4 hut4 hfa hnA hb5 (hl4 _ _ hb6)))) ?_))))
 rintro _ g5 _ ⟨rfl, hle5, x, rs9, rfl, hx1, hx2⟩
 have hx : CellsK (mns g5 g) x _ := ⟨rs9, hx1.mono (mns_anti hle4), hx2.mono fun _ _ => CellK.mono (mns_mono ((hl3.trans hl4).trans hle5))⟩
 obtain ⟨q, d, rfl⟩ := hx1.form
 refine SL.on (SO.storeAllK 0 sizeOf27 rfl rfl rfl rfl rfl (by exact ⟨rfl, trivial⟩)) ?_
 rintro _ _ _ ⟨rfl, rfl⟩
 refine SL.nil (ST.thenN (SC.ret ?_))
 exact ST.retCD 0 s (.inl rfl) results25 rfl isAgg27 sizeOf27 rfl rfl (.cons _ (.cons _ (.cons _ (.refl _)))) ⟨rfl, hle4.trans hle5, _, rfl, hx⟩
section
variable {φ : Int → Int} {K : Int → Prop} (hφ : ∀ a b, K a → K b → φ a = φ b → a = b)
include hφ
omit hφ in
omit hφ in
end
def code (k q : Nat) : Int := if q < k then ((q * 16 + k : Nat) : Int) else ((k * 16 + (q + 1) : Nat) : Int)
structure Good (all : List (List Int)) : Prop where
 strict : StrictL all
 form : ∀ s ∈ all, s ≠ [] ∧ StrictI s ∧ s.length ≤ 9
 faces : ∀ s ∈ all, 2 ≤ s.length → ∀ k, k < s.length → s.eraseIdx k ∈ all
section
variable {all : List (List Int)} (hg : Good all)
include hg
end
section
variable {all : List (List Int)} (hg : Good all)
include hg
end
section
variable {all : List (List Int)} (hg : Good all)
include hg
end
section
variable {all : List (List Int)} (hg : Good all)
include hg
end
open Go.ChangeShapes Go.WideShapes Go.ChangeAt Go.RowKit
set_option maxRecDepth 100000
section
variable {H : Type} {enc : TypeId × Value → H} {W : World} {base : Nat} {spare : Nat → Bool} {hd : Bool}
theorem Tryz.bytes3 : Tryz.prog.bytesOf 3 = 8 := by kernel_rfl
theorem lits_length (k : IntKind) (zs : List Int) : (lits (H := H) k zs).length = zs.length := by simp [lits]
theorem ints_le {fuel : Nat} {v : Value} {x : DataW H × List MemPlace} (h : DataW.trod enc Tryz.prog W base spare hd fuel 45 [v] = some x) (hw : ∀ n ∈ x.1.weights Tryz.prog 45, n ≤ reachBytes) :
  ∃ (l : List Int) (r : Sv), v = .slice r.p r.n r.c ∧ Ints (held W) v l ∧ l.length < 17592186044416 := by
 obtain ⟨l, r, hv, hi⟩ := ints_of h
 refine ⟨l, r, hv, hi, ?_⟩
 subst hv
 have hn := (SlA.cap hi).1
 rcases open_ints underlying45 underlying3 cells3 h with ⟨hcs, _⟩ | ⟨a, len, cap, zs, hcs, _, hl, _, hz, rfl, _⟩
 ·simp at hcs
  omega
 ·simp at hcs
  have hlz : len ≤ zs.length := by rw [hz]; split <;> omega
  have h1 := hw ((zs.take len).length * 8 + (zs.drop len).length * 8) (by
   simp only [DataW.weights, underlying45, bytes3, lits_length]
   rw [← Nat.add_mul]
   exact List.mem_cons_self)
  rw [List.length_take, List.length_drop] at h1
  unfold reachBytes at h1
  omega
end
theorem lawSame_refl (E : World) (g : PH) (s : Own) (v u : Value) (l : List Cl) (hv : Cells g v l) (hu : Cells g u l) (hf : Fits l) :
  Ctr Tryz.prog E 13 #[.agg #[v], .agg #[u]] g s (fun r g' s' => r = vb true ∧ g = g' ∧ s = s') :=
 (lawSame_spec E g s v u l l hv hu hf).mono fun _ _ _ ⟨h1, h2⟩ => ⟨by rw [h1, decide_eq_true rfl], h2⟩
theorem subP (E : World) (g : PH) (b m : Nat) (sm : List (Int × Value)) (q : Int → Bool) (tl : List Cl) (hb : g b = some (.cells #[.map (some m)] 96 (0, 0))) (hm : Mp g m sm) (hs : SetI sm q) : PredOk E (.func (.func 74) #[] #[pp b 0]) (fun c => q c.id) tl g := by
 intro g s c r hle hmem hc
 refine CallV.mk (cap := [pp b 0]) call74 ?_
 have hb' := hle _ _ hb
 have hm' := hm.mono hle
 refine Ctr.of (args := [rcv r, pp b 0]) func74 rfl ntmps74 (Nat.le_of_ble_eq_true rfl) ?_
 refine SC.seq (SC.region (SL.W (SO.box rfl) ?_))
 rintro _ _ _ ⟨b2, rfl, rfl, rfl⟩
 refine SL.A rfl (SL.nil (ST.thenN (SC.seq (SC.region (SL.K (SQ.load isAgg96 rfl (CellAt.known hb' rfl)) (SL.U (SU.fieldAddr underlying51 rfl sizeOf3 rfl) (SL.K (SQ.load isAgg3 rfl (CellAt.own 0 rfl rfl)) (SL.K (SQ.eq (v' := vb (q c.id)) (SQ.lookup mty96 rfl rfl (MapAt.known hm')) (by rw [← hc.1]; exact hs.get _)) ?_))))))))
 refine SL.A rfl (SL.nil (ST.thenN (SC.ret (ST.drop (s' := s) (.cons _ (.refl _)) ?_))))
 exact ST.ret1 (.inl rfl) results74 rfl ⟨rfl, rfl, rfl⟩
theorem sub_new (E : World) (g : PH) (s : Own) (v iv : Value) (l : List Cl) (ids : List Int) (hv : Cells g v l) (hf : Fits l) (hi : Ints g iv ids) (hl : ids.length < 1099511627776) :
  Ctr Tryz.prog E 27 #[.agg #[v], iv] g s (fun r g' s' => s = s' ∧ Le g g' ∧ ∃ u, r = .agg #[u] ∧ CellsK (mns g' g) u ((tabC l).filter fun c => (closF (tabC l) ids).contains c.id)) := by
 have hft := tabC_fits hf
 obtain ⟨ip, ic, rfl⟩ := SlA.form hi
 refine Ctr.of (args := [.agg #[v], .slice ip ids.length ic]) func27 rfl ntmps27 (Nat.le_of_ble_eq_true rfl) ?_
 refine SC.seq (SC.region (SL.W (SO.box rfl) ?_))
 rintro _ _ _ ⟨b2, rfl, rfl, rfl⟩
 refine SL.W (SO.alloc zeroValue27) ?_
 rintro _ _ _ ⟨b4, rfl, rfl, rfl⟩
 refine SL.nil (ST.thenN (SC.seq (SC.region (SL.K (SQ.loadVarK 1 isAgg27 sizeOf27 rfl rfl rfl) (SL.W (SO.call call50 rfl (of_new E g _ v l hv hf)) ?_)))))
 rintro tv g1 _ ⟨rfl, hle1, htk⟩
 have ht : Tab g1 tv (tabC l) := htk.mono (Le.refl _) fun _ _ => CellK.cr (mns_le _ _)
 refine SL.A rfl (SL.nil (ST.thenN (SC.seq (SC.region (SL.M rfl (SL.M rfl (SL.W (SO.call call72 rfl (closure_spec E g1 _ _ _ (tabC l) ids ht hft (hi.mono hle1) hl)) ?_)))))))
 rintro _ g2 _ ⟨m, rfl, hle2, rfl⟩
 refine SL.W (SO.alloc zeroValue96) ?_
 rintro _ _ _ ⟨b6, rfl, rfl, rfl⟩
 refine SL.on (SO.storeAllK 0 sizeOf96 rfl rfl rfl rfl rfl ⟨rfl, trivial⟩) ?_
 rintro _ _ _ ⟨rfl, rfl⟩
 refine SL.freeze fun g3 hle3 hb6 => ?_
 refine SL.freezeMap fun g4 hle4 hm4 => ?_
 have hle14 := hle2.trans (hle3.trans hle4)
 refine SL.nil (ST.thenN (SC.seq (SC.region (SL.M rfl (SL.U (SU.mkFunc rfl) (SL.W (SO.call call70 rfl (only_gen (CellK (mns g1 g)) E g4 _ _ _ (tabC l) _ (fun _ _ h => CellK.cr ((mns_le _ _).trans hle14) h) (htk.mono hle14 fun _ _ h => h) (tabC_nodup l) hft (subP E g4 b6 m _ (fun k => (closF (tabC l) ids).contains k) _ (hle4 _ _ hb6) hm4 (setP_set _)))) ?_))))))
 rintro _ g5 _ ⟨rfl, hle5, x, rs9, rfl, hx1, hx2⟩
 have hx : CellsK (mns g5 g) x _ := ⟨rs9, hx1.mono (mns_anti (hle1.trans hle14)), hx2.mono fun _ _ => CellK.mono (mns_mono (hle14.trans hle5))⟩
 obtain ⟨q, d, rfl⟩ := hx1.form
 refine SL.on (SO.storeAllK 0 sizeOf27 rfl rfl rfl rfl rfl (by exact ⟨rfl, trivial⟩)) ?_
 rintro _ _ _ ⟨rfl, rfl⟩
 refine SL.nil (ST.thenN (SC.ret ?_))
 exact ST.retCD 0 s (.inl rfl) results27 rfl isAgg27 sizeOf27 rfl rfl (.cons _ (.cons _ (.refl _))) ⟨rfl, hle1.trans (hle14.trans hle5), _, rfl, hx⟩
def fewV (l : List Cl) (n : Int) : Int := if decide ((l.length : Int) > 0) && decide (n.tmod 5 ≠ 0) then (pickC l n).id else n
def fewC (l : List Cl) (ns : List Int) : List Int := (ns.take 6).map (fewV l)
theorem fewC_length (l : List Cl) (ns : List Int) : (fewC l ns).length ≤ 6 := by simp [fewC]; omega
theorem few_spec (E : World) (g : PH) (s : Own) (v iv : Value) (l : List Cl) (ns : List Int) (hv : Cells g v l) (hf : Fits l) (hi : Ints g iv ns) :
  Ctr Tryz.prog E 28 #[.agg #[v], iv] g s (fun r g' s' => s = s' ∧ Le g g' ∧ Ints g' r (fewC l ns)) := by
 obtain ⟨rs, hrs, hall⟩ := hv
 have hrl := hall.length
 have hfl := hf.1
 obtain ⟨p, c, rfl⟩ := hrs.form
 obtain ⟨ip, ic, rfl⟩ := SlA.form hi
 refine Ctr.of (args := [.agg #[.slice p rs.length c], .slice ip ns.length ic]) func28 rfl ntmps28 (Nat.le_of_ble_eq_true rfl) ?_
 refine SC.seq (SC.region (SL.W (SO.box rfl) ?_))
 rintro _ _ _ ⟨b2, rfl, rfl, rfl⟩
 refine SL.A rfl (SL.nil (ST.thenN (SC.seq (SC.region (SL.A rfl (SL.nil (ST.thenN (SC.seq (SC.seq (SC.region (SL.A rfl (SL.nil (ST.thenN (SC.block ?_))))))))))))))
 refine SC.to (g' := g) (s' := pt b2 (.cells #[.slice p rs.length c] 27 (0, 0)) :: s) (fun w hw => hw) ?_
 refine SC.nilRow 3 1 ?_
 refine SC.loop (ι := Value × Nat) (fun i => [(1, .slice ip ns.length ic), (2, pp b2 0), (5, i.1), (6, vi i.2)]) (fun _ => g)
  (fun i => rowA encInt 3 i.1 ((ns.take i.2).map (fewV l)) :: pt b2 (.cells #[.slice p rs.length c] 27 (0, 0)) :: s)
  (fun i => i.2 ≤ ns.length ∧ i.2 ≤ 6) (fun i => ns.length - i.2) (.slice none 0 0, 0) ⟨rfl, rfl, rfl, rfl, trivial⟩ rfl rfl ⟨Nat.zero_le _, Nat.zero_le _⟩ ?_
 rintro ⟨ov, i⟩ ⟨hk, hk6⟩
 dsimp only at hk hk6 ⊢
 have f1 : (i : Int) < (ns.length : Int) → (decide ((i : Int) < (ns.length : Int)) && decide ((i : Int) < 6)) = decide ((i : Int) < 6) := fun h => by simp [h]
 have f2 : ¬ (i : Int) < (ns.length : Int) → (decide ((i : Int) < (ns.length : Int)) && decide ((i : Int) < 6)) = false := fun h => by simp only [h, decide_false, Bool.false_and]
 refine SC.seq ?_
 refine SC.cutB 15 ((decide ((i : Int) < (ns.length : Int)) && decide ((i : Int) < 6))) ?_ ?_
 ·refine SC.region (SL.M rfl (SL.M rfl (SL.U (SU.lenN underlying45 rfl) (SL.U (SU.lss rfl rfl) (SL.M rfl ?_)))))
  refine SL.split ?_ ?_
  ·intro h12
   refine SL.Y rfl rfl rfl (SU.move rfl) (SL.Y rfl rfl rfl (SU.lss rfl rfl) (SL.U (SU.pickT rfl rfl) (SL.nil ?_)))
   exact ST.mid1 (by (rw [f1 h12]; rfl)) mI
  ·intro h12
   refine SL.Z rfl rfl rfl (SL.Z rfl rfl rfl (SL.U (SU.pickF rfl rfl) (SL.nil ?_)))
   exact ST.mid1 (by (rw [f2 h12]; rfl)) mI
 refine SC.ifB rfl (fun hc => ?_) (fun hc => ?_)
 ·rw [Bool.and_eq_true, decide_eq_true_iff, decide_eq_true_iff] at hc
  have hil : i < ns.length := oM
  have hb1 := SlA.based hi oM
  have hgi : ns[((i : Nat) : Int).toNat]? = some ns[i] := List.getElem?_eq_getElem hil
  have hsucc := map_take_succ hil (fewV l)
  generalize ns[i] = n at *
  have f3 : (l.length : Int) > 0 → (decide ((l.length : Int) > 0) && decide (n.tmod 5 ≠ 0)) = decide (n.tmod 5 ≠ 0) := fun h => by simp only [h, decide_true, Bool.true_and]
  have f4 : ¬ (l.length : Int) > 0 → (decide ((l.length : Int) > 0) && decide (n.tmod 5 ≠ 0)) = false := fun h => by simp only [h, decide_false, Bool.false_and]
  rw [← hrl] at *
  refine SC.skip (ST.thenN (SC.seq (SC.block (SC.seq (SC.region (SL.M rfl (SL.M rfl (SL.U (SU.indexAddr underlying45 sizeOf3 rfl rfl hb1 oM sL) (SL.K (SQ.elem1 isAgg3 rfl (SlA.rd hi) hgi rfl) (SL.A rfl (SL.nil (ST.thenN ?_))))))))))))
  refine SC.cut (ι := Unit) (fun _ => [(1, .slice ip ns.length ic), (2, pp b2 0), (5, ov), (6, vi i), (7, vi (fewV l n))]) (fun _ => g) (fun _ => rowA encInt 3 ov ((ns.take i).map (fewV l)) :: pt b2 (.cells #[.slice p l.length c] 27 (0, 0)) :: s) (fun _ => True) ?_ ?_
  ·refine SC.cutB 33 ((decide ((l.length : Int) > 0) && decide (n.tmod 5 ≠ 0))) ?_ ?_
   ·refine SC.region (SL.U (SU.fieldAddr underlying27 rfl sizeOf25 rfl) (SL.K (SQ.load (v := .slice p l.length c) isAgg25 rfl (CellAt.own 1 rfl rfl)) (SL.U (SU.lenN underlying25 rfl) (SL.U (SU.gtr rfl rfl) (SL.M rfl ?_)))))
    refine SL.split ?_ ?_
    ·intro h26
     refine SL.Y rfl rfl rfl (SU.move rfl) (SL.Y rfl rfl rfl (SU.move rfl) (SL.Y rfl rfl rfl (SU.indexAddr underlying45 sizeOf3 rfl rfl hb1 oM sL) (SL.gq (Gd.onT rfl rfl rfl dC) (SQ.elem1 isAgg3 rfl (SlA.rd hi) hgi rfl) dC (SL.Y rfl rfl rfl (SU.rem rfl rfl dC) (SL.Y rfl rfl rfl (SU.neq rfl rfl) (SL.U (SU.pickT rfl rfl) (SL.nil ?_)))))))
     exact ST.mid1 (by (rw [f3 h26]; rfl)) mI
    ·intro h26
     refine SL.Z rfl rfl rfl (SL.Z rfl rfl rfl (SL.Z rfl rfl rfl (SL.Z rfl rfl rfl (SL.Z rfl rfl rfl (SL.Z rfl rfl rfl (SL.U (SU.pickF rfl rfl) (SL.nil ?_)))))))
     exact ST.mid1 (by (rw [f4 h26]; rfl)) mI
   refine SC.ifB rfl (fun hd => ?_) (fun hd => ?_)
   ·have hpos : (l.length : Int) > 0 := by rw [Bool.and_eq_true, decide_eq_true_iff] at hd; exact hd.1
    obtain ⟨hm1, hm2⟩ := modW_nat n l.length oM oM
    have hml : (modW n l.length).toNat < rs.length := by have := hall.length; omega
    have hbv := hrs.based oM
    have hcr := hall.get (List.getElem?_eq_getElem hm2) (List.getElem?_eq_getElem hml)
    have hgr : rs[(modW n (l.length : Nat)).toNat]? = some rs[(modW n l.length).toNat] := List.getElem?_eq_getElem hml
    have hid : rs[(modW n l.length).toNat].id = (pickC l n).id := by
     rw [hcr.1]
     unfold pickC
     rw [List.getD_eq_getElem?_getD, List.getElem?_eq_getElem hm2]
     rfl
    refine SC.draw [] [(0, 2), (1, 1), (2, 2), (3, 2), (4, 2), (5, 1), (6, 2), (7, 1), (8, 2), (9, 0), (10, 2), (11, 2), (12, 1), (13, 2)] Tryz.mixed (by kernel_rfl) ?_
    refine SP.U (i := 0) rfl (SU.fieldAddr underlying27 rfl sizeOf25 rfl) (SP.K (i := 1) rfl (SQ.load (v := .slice p l.length c) isAgg25 rfl (CellAt.own 1 rfl rfl)) (SP.U (i := 2) rfl (SU.move rfl) (SP.U (i := 3) rfl (SU.move rfl) (SP.U (i := 4) rfl (SU.indexAddr underlying45 sizeOf3 rfl rfl hb1 oM sL) (SP.K (i := 5) rfl (SQ.elem1 isAgg3 rfl (SlA.rd hi) hgi rfl) (SP.U (i := 6) rfl (SU.fieldAddr underlying27 rfl sizeOf25 rfl) (SP.K (i := 7) rfl (SQ.load (v := .slice p l.length c) isAgg25 rfl (CellAt.own 1 rfl rfl)) (SP.U (i := 8) rfl (SU.lenN underlying25 rfl) (SP.o (i := 9) rfl (SO.call call38 rfl (mod_spec E g _ n l.length oM)) dC (.inr (by rintro _ _ _ ⟨rfl, rfl, rfl⟩; exact ⟨by exact Le.refl _, (by exact .refl _)⟩)) ?_)))))))))
    rintro _ _ _ ⟨rfl, rfl, rfl⟩
    refine SP.U (i := 10) rfl (SU.indexAddr underlying25 sizeOf51 rfl rfl hbv oM sL) (SP.U (i := 11) rfl (SU.fieldAddrC underlying51 rfl sizeOf3 rfl hbv) (SP.K (i := 12) rfl (SQ.partA (e := encCell) (o := 0) (u := vi (pickC l n).id) isAgg3 rfl hrs.rd hgr (by rw [← hid]; rfl)) ?_))
    refine SP.U (i := 13) rfl (SU.assign rfl) (SP.nil ?_)
    exact ST.mid () ⟨rfl, rfl, rfl, rfl, by unfold fewV; rw [if_pos hd]; rfl, trivial⟩ rfl rfl trivial
   ·refine SC.skip ?_
    exact ST.mid () ⟨rfl, rfl, rfl, rfl, by unfold fewV; rw [if_neg (by rw [hd]; simp)]; rfl, trivial⟩ rfl rfl trivial
  rintro _ -
  try dsimp only
  refine SC.region (SL.M rfl (SL.M rfl (SL.W (SO.buildSlice sty45 rfl rfl rfl (szs_mk (by exact ⟨rfl, trivial⟩)) dC) ?_)))
  rintro _ _ _ ⟨b49, rfl, rfl, rfl⟩
  refine SL.W (SO.app1A (e := encInt) 0 (fewV l n) sty45 rfl rfl rfl rfl rfl (by rw [List.length_map, List.length_take]; omega) (by rw [List.length_map, List.length_take]; omega)) ?_
  rintro ov' _ _ ⟨rfl, rfl⟩
  refine SL.A rfl (SL.nil (ST.blockN (ST.thenN (SC.region (SL.M rfl (SL.U (SU.add rfl rfl oM) (SL.A rfl (SL.nil ?_))))))))
  refine ST.to (fun w hw => ?_) (g' := g) (s' := rowA encInt 3 ov' ((ns.take (i + 1)).map (fewV l)) :: pt b2 (.cells #[.slice p l.length c] 27 (0, 0)) :: s) ?_
  ·rw [hsucc]; exact hw
  exact ST.again (ov', i + 1) ⟨rfl, rfl, rfl, rfl, trivial⟩ rfl (by rw [← hrl]) ⟨lN, lN⟩ lN
 ·have hns : ns.take i = ns.take 6 := by
   rw [Bool.and_eq_false_iff, decide_eq_false_iff_not, decide_eq_false_iff_not] at hc
   by_cases h6 : i = 6
   ·rw [h6]
   ·rw [List.take_of_length_le oM, List.take_of_length_le oM]
  rw [hns]
  refine SC.exit (ST.thenX (ST.thenX (ST.blockX (ST.thenN (SC.seq (SC.region (SL.M rfl (SL.A rfl (SL.nil (ST.thenN (SC.ret (ST.freezeRow fun g2 hle2 hs2 => ?_))))))))))))
  refine ST.drop (s' := s) (.cons _ (.refl _)) ?_
  exact ST.ret1 (.inl rfl) results28 rfl ⟨rfl, hle2, hs2⟩
def Ws (gc g : PH) (x : Sv) : Prop := ∃ l, RK encSide 55 (mns g gc) (.slice x.p x.n x.c) l
def Wr (gc g : PH) (v : Value) (svs : List Sv) : Prop := ∃ rs, RK encCell 51 (mns g gc) v rs ∧ rs.map Rc.sv = svs ∧ ∀ x ∈ svs, Ws gc g x
theorem Ws.mono {gc g g' : PH} {x : Sv} (h : Ws gc g x) (hl : Le g g') : Ws gc g' x := by
 obtain ⟨l, h⟩ := h
 exact ⟨l, h.mono (mns_mono hl)⟩
theorem Wr.mono {gc g g' : PH} {v : Value} {svs : List Sv} (h : Wr gc g v svs) (hl : Le g g') : Wr gc g' v svs := by
 obtain ⟨rs, h1, h2, h3⟩ := h
 exact ⟨rs, h1.mono (mns_mono hl), h2, fun x hx => (h3 x hx).mono hl⟩
theorem CellK.ws {gc g : PH} {c : Cl} {r : Rc} (h : CellK (mns g gc) c r) : Ws gc g r.sv := ⟨_, h.2.2⟩
theorem rk_slen {α : Type} {k : Nat} {e : Enc α k} {T : TypeId} {g : PH} {p : Option Addr} {n c : Nat} {l : List α} (h : RK e T g (.slice p n c) l) : n = l.length := Sl.slen h.sl
theorem CellsK.wr {gc g : PH} {v : Value} {l : List Cl} (h : CellsK (mns g gc) v l) (hf : Fits l) : ∃ p n c svs, v = .slice p n c ∧ n = svs.length ∧ svs.length < 1099511627776 ∧ (∀ x ∈ svs, x.n < 1099511627776) ∧ Wr gc g v svs := by
 obtain ⟨rs, h1, h2⟩ := h
 obtain ⟨p, c, rfl⟩ := h1.form
 have hl := h2.length
 have key : ∀ {l : List Cl} {rs : List Rc}, All2 (CellK (mns g gc)) l rs → (∀ c ∈ l, c.sides.length < 1099511627776) → ∀ x ∈ rs.map Rc.sv, x.n < 1099511627776 ∧ Ws gc g x := by
  intro l
  induction l with
  | nil => intro rs h _ x hx; cases rs with | nil => cases hx | cons _ _ => exact h.elim
  | cons a t ih =>
   intro rs h hn x hx
   cases rs with
   | nil => cases hx
   | cons r rs =>
    rcases List.mem_cons.1 hx with rfl | hx
    ·exact ⟨by have := rk_slen h.1.2.2; rw [this]; exact hn a (by simp), h.1.ws⟩
    ·exact ih h.2 (fun c hc => hn c (by simp [hc])) x hx
 have hk := key h2 hf.2
 exact ⟨p, rs.length, c, rs.map Rc.sv, rfl, by simp, by rw [List.length_map, ← hl]; exact hf.1, fun x hx => (hk x hx).1, rs, h1, rfl, fun x hx => (hk x hx).2⟩
def Keep (gc g g' : PH) : Prop := Le gc g' ∧ (∀ x, Ws gc g x → Ws gc g' x) ∧ ∀ v svs, Wr gc g v svs → Wr gc g' v svs
theorem Keep.refl {gc g : PH} (h : Le gc g) : Keep gc g g := ⟨h, fun _ h => h, fun _ _ h => h⟩
theorem Keep.trans {gc g g' g'' : PH} (h : Keep gc g g') (k : Keep gc g' g'') : Keep gc g g'' := ⟨k.1, fun x hx => k.2.1 x (h.2.1 x hx), fun v svs hv => k.2.2 v svs (h.2.2 v svs hv)⟩
theorem mns_upd {g gc : PH} {b : Nat} {o : Obj} (h : gc b = none) : mns (upd g b o) gc = upd (mns g gc) b o := by
 funext k
 by_cases hk : k = b
 ·subst hk; simp [mns, upd, h]
 ·simp only [mns, upd, hk, if_false]
theorem le_write {gc g : PH} {b : Nat} {o : Obj} (hl : Le gc g) (h : gc b = none) : Le gc (upd g b o) := fun k x hx => by
 have : k ≠ b := fun e => by subst e; rw [h] at hx; cases hx
 simp only [upd, this, if_false]
 exact hl _ _ hx
theorem keep_side {gc g : PH} {b j : Nat} {cs : Array Value} (z : Side) (hl : Le gc g) (hb : gc b = none) (hg : g b = some (.cells cs 55 (0, 0))) (hj : j * 2 + 2 ≤ cs.size) : Keep gc g (upd g b (.cells (spl cs (j * 2) (encSide.enc z)) 55 (0, 0))) := by
 have hg' : mns g gc b = some (.cells cs 55 (0, 0)) := by rw [mns_none hb]; exact hg
 have hw : ∀ x, Ws gc g x → Ws gc (upd g b (.cells (spl cs (j * 2) (encSide.enc z)) 55 (0, 0))) x := by
  rintro x ⟨l, h⟩
  unfold Ws
  rw [mns_upd hb]
  rcases h.same (o := 0) (vs := encSide.enc z) (up := fun _ => z) (fun y => by simp [encSide]) (by simp [encSide]) hg' hj with h1 | ⟨_, h1⟩
  ·exact ⟨_, h1⟩
  ·exact ⟨_, h1⟩
 refine ⟨le_write hl hb, hw, ?_⟩
 rintro v svs ⟨rs, h1, h2, h3⟩
 refine ⟨rs, ?_, h2, fun x hx => hw x (h3 x hx)⟩
 rw [mns_upd hb]
 exact h1.other hg' dC
theorem keep_id {gc g : PH} {b j : Nat} {cs : Array Value} (z : Int) (hl : Le gc g) (hb : gc b = none) (hg : g b = some (.cells cs 51 (0, 0))) (hj : j * 3 + 3 ≤ cs.size) : Keep gc g (upd g b (.cells (spl cs (j * 3) [vi z]) 51 (0, 0))) := by
 have hg' : mns g gc b = some (.cells cs 51 (0, 0)) := by rw [mns_none hb]; exact hg
 have hw : ∀ x, Ws gc g x → Ws gc (upd g b (.cells (spl cs (j * 3) [vi z]) 51 (0, 0))) x := by
  rintro x ⟨l, h⟩
  unfold Ws
  rw [mns_upd hb]
  exact ⟨_, h.other hg' dC⟩
 refine ⟨le_write hl hb, hw, ?_⟩
 rintro v svs ⟨rs, h1, h2, h3⟩
 unfold Wr
 rw [mns_upd hb]
 rcases h1.same (o := 0) (vs := [vi z]) (up := fun r => ⟨z, r.dim, r.sv⟩) (fun y => by simp [encCell]) (by simp) hg' hj with h4 | ⟨_, h4⟩
 ·exact ⟨_, h4, h2, fun x hx => hw x (h3 x hx)⟩
 ·refine ⟨_, h4, ?_, fun x hx => hw x (h3 x hx)⟩
  rw [← h2]
  apply List.ext_getElem (by simp)
  intro i h5 h6
  simp only [List.getElem_map, List.getElem_modify]
  split <;> rfl
section
variable {N : Nat} {E : World} {f : Fr} {gc g : PH} {s : Own} {dst : Option Tmp} {ty : TypeId} {pos : String} {af : Array Edge} {gd : Option (Nat × Bool)}
theorem SO.wside {x y : Operand} {p : Option Addr} {n c j : Nat} (z : Side) (hx : ev f x = some (cptr (.slice p n c) (j * 2))) (hy : ev f y = some (.agg (encSide.enc z).toArray)) (hl : Le gc g) (hw : Ws gc g ⟨p, n, c⟩) (hj : j < n) :
  SO Tryz.prog N E ⟨dst, .store 55 x y, ty, pos, af, gd⟩ f g s fun _ g' s' => s = s' ∧ Keep gc g g' := by
 obtain ⟨l, h⟩ := hw
 have hn := rk_slen h
 dsimp only at h hn
 rcases h with ⟨q, h1, h2⟩ | ⟨b, cap, cur, h1, h2, h3, h4, h5⟩
 ·subst h2; simp at hn; omega
 ·obtain ⟨hb, hg⟩ := mns_some h2
  injection h1 with h6 h7 h8
  subst h6
  simp only [cptr, Nat.zero_add] at hx
  have hjs : j * 2 + 2 ≤ cur.size := by rw [h4]; omega
  intro a w ha hat Q next hn'
  refine SO.writeK (P := Tryz.prog) (k := 2) sizeOf55 hx hy hg rfl hjs (fun u hu => encSide.one z u hu) a w ha hat Q next ?_
  rintro v g' s' w' ⟨rfl, rfl⟩ hat'
  exact hn' _ _ _ _ ⟨rfl, keep_side z hl hb hg hjs⟩ hat'
theorem SO.wid {x y : Operand} {p : Option Addr} {n c j : Nat} {svs : List Sv} (z : Int) (hx : ev f x = some (cptr (.slice p n c) (j * 3 + 0))) (hy : ev f y = some (vi z)) (hl : Le gc g) (hw : Wr gc g (.slice p n c) svs) (hj : j < n) :
  SO Tryz.prog N E ⟨dst, .store 3 x y, ty, pos, af, gd⟩ f g s fun _ g' s' => s = s' ∧ Keep gc g g' := by
 obtain ⟨rs, h, hsv, hws⟩ := hw
 have hn := rk_slen h
 rcases h with ⟨q, h1, h2⟩ | ⟨b, cap, cur, h1, h2, h3, h4, h5⟩
 ·subst h2; simp at hn; omega
 ·obtain ⟨hb, hg⟩ := mns_some h2
  injection h1 with h6 h7 h8
  subst h6
  simp only [cptr, Nat.zero_add, Nat.add_zero] at hx
  have hjs : j * 3 + 3 ≤ cur.size := by rw [h4]; omega
  intro a w ha hat Q next hn'
  refine SO.writeK (P := Tryz.prog) (k := 1) sizeOf3 hx hy hg rfl oM (by intro u hu; simp [Value.cells] at hu; subst hu; rfl) a w ha hat Q next ?_
  rintro v g' s' w' ⟨rfl, rfl⟩ hat'
  exact hn' _ _ _ _ ⟨rfl, keep_id z hl hb hg hjs⟩ hat'
end
def swp {α : Type} (l : List α) (i k : Nat) (hi : i < l.length) (hk : k < l.length) : List α := (l.set i l[k]).set k l[i]
theorem swp_perm {α : Type} (l : List α) (i k : Nat) (hi : i < l.length) (hk : k < l.length) : (swp l i k hi hk).Perm l := List.set_set_perm hi hk
theorem swp_length {α : Type} (l : List α) (i k : Nat) (hi : i < l.length) (hk : k < l.length) : (swp l i k hi hk).length = l.length := by simp [swp]
theorem All2.set {α β : Type} {R : α → β → Prop} {a : α} {b : β} (h : R a b) : ∀ {l : List α} {m : List β} (k : Nat), All2 R l m → All2 R (l.set k a) (m.set k b)
 | [], [], _, _ => trivial
 | _ :: _, _ :: _, 0, h' => ⟨h, h'.2⟩
 | _ :: _, _ :: _, k + 1, h' => ⟨h'.1, All2.set h k h'.2⟩
 | [], _ :: _, _, h' => h'.elim
 | _ :: _, [], _, h' => h'.elim
theorem all2_at {α β : Type} {R : α → β → Prop} {l : List α} {m : List β} (h : All2 R l m) {i : Nat} (h1 : i < l.length) (h2 : i < m.length) : R l[i] m[i] :=
 h.get (List.getElem?_eq_getElem h1) (List.getElem?_eq_getElem h2)
theorem ownS_swp {l : List Cl} {rs : List Rc} (h : l.length = rs.length) (i k : Nat) (hi : i < l.length) (hk : k < l.length) : (ownS l rs).Perm (ownS (swp l i k hi hk) (swp rs i k (h ▸ hi) (h ▸ hk))) := by
 have h1 : ∀ j (hj : j < l.length), (ownS l rs)[j]'(by rw [ownS_length h]; exact hj) = ownC l[j] (rs[j]'(h ▸ hj)) := fun j hj => by
  have := ownS_get (List.getElem?_eq_getElem hj) (List.getElem?_eq_getElem (h ▸ hj : j < rs.length))
  rw [List.getElem?_eq_getElem (by rw [ownS_length h]; exact hj)] at this
  exact Option.some.inj this
 unfold swp
 rw [← ownS_set _ _ (by simp [h]), ← ownS_set _ _ h, ← h1 i hi, ← h1 k hk]
 exact (List.set_set_perm _ _).symm
def ShC (a b : Cl) : Prop := a.id = b.id ∧ a.dim = b.dim ∧ a.sides.Perm b.sides
def ShL (l m : List Cl) : Prop := ∃ l1 : List Cl, l1.Perm l ∧ All2 ShC l1 m
theorem ShL.fits {l m : List Cl} (h : ShL l m) (hf : Fits l) : Fits m := by
 obtain ⟨l1, h1, h2⟩ := h
 refine ⟨by rw [← h2.length, h1.length_eq]; exact hf.1, fun c hc => ?_⟩
 have : ∀ {l m : List Cl}, All2 ShC l m → ∀ c ∈ m, ∃ d ∈ l, ShC d c := by
  intro l
  induction l with
  | nil => intro m h c hc; cases m with | nil => cases hc | cons _ _ => exact h.elim
  | cons x t ih =>
   intro m h c hc
   cases m with
   | nil => cases hc
   | cons y m =>
    rcases List.mem_cons.1 hc with rfl | hc
    ·exact ⟨x, by simp, h.1⟩
    ·obtain ⟨d, hd, he⟩ := ih h.2 c hc
     exact ⟨d, by simp [hd], he⟩
 obtain ⟨d, hd, he⟩ := this h2 c hc
 rw [← he.2.2.length_eq]
 exact hf.2 d (h1.mem_iff.1 hd)
theorem mod_some (E : World) (g : PH) (s : Own) (a : Int) (n : Nat) (h : n < 1099511627776) : Ctr Tryz.prog E 38 #[vi a, vi ((n : Int) + 1)] g s (fun r g' s' => ∃ k : Nat, k ≤ n ∧ r = vi (k : Int) ∧ g = g' ∧ s = s') := by
 obtain ⟨h1, h2⟩ := modW_nat a (n + 1) oM oM
 refine (mod_spec E g s a ((n : Int) + 1) oM).mono ?_
 rintro _ _ _ ⟨rfl, rfl, rfl⟩
 exact ⟨(modW a ((n + 1 : Nat) : Int)).toNat, oM, by rw [← h1]; rfl, rfl, rfl⟩
theorem shuffled_spec (E : World) (g : PH) (s : Own) (v : Value) (l : List Cl) (y : Int) (hv : Cells g v l) (hf : Fits l) :
  Ctr Tryz.prog E 32 #[.agg #[v], vi y] g s (fun r g' s' => s = s' ∧ Le g g' ∧ ∃ u m, r = .agg #[u] ∧ Cells g' u m ∧ ShL l m) := by
 obtain ⟨p, c, rfl⟩ := hv.form
 have hll := hf.1
 refine Ctr.of (args := [.agg #[.slice p l.length c], vi y]) func32 rfl ntmps32 (Nat.le_of_ble_eq_true rfl) ?_
 refine SC.seq (SC.region (SL.W (SO.box rfl) ?_))
 rintro _ _ _ ⟨b2, rfl, rfl, rfl⟩
 refine SL.W (SO.alloc zeroValue27) ?_
 rintro _ _ _ ⟨b4, rfl, rfl, rfl⟩
 refine SL.nil (ST.thenN (SC.seq (SC.region (SL.K (SQ.loadVarK 1 isAgg27 sizeOf27 rfl rfl rfl) (SL.W (SO.call call33 rfl (copy_own E g _ _ l hv hf)) ?_)))))
 rintro _ _ _ ⟨rfl, u, rs, rfl, hO, rfl⟩
 have el := hO.length
 refine SL.facts fun ⟨w0, hw0⟩ => ?_
 obtain ⟨q, d, rfl⟩ := rowA_form (i := 0) hw0 rfl
 have hbq : 0 < rs.length → based (.slice q rs.length d) = true := fun h => (by obtain ⟨b0, c0, he⟩ := rowA_based (i := 0) hw0 rfl h; rw [he]; rfl)
 clear hw0 w0
 refine SL.W (SO.alloc zeroValue27) ?_
 rintro _ _ _ ⟨b5, rfl, rfl, rfl⟩
 refine SL.on (SO.storeAllK 0 sizeOf27 rfl rfl rfl rfl rfl (by exact ⟨rfl, trivial⟩)) ?_
 rintro _ _ _ ⟨rfl, rfl⟩
 refine SL.nil (ST.thenN ?_)
 refine SC.to (fun w hw => hw) (g' := g) (s' := pt b5 (.cells #[.slice q rs.length d] 27 (0, 0)) :: rowA encCell 51 (.slice q rs.length d) rs :: (ownS l rs ++ (pt b4 (.cells #[.slice none 0 0] 27 (0, 0)) :: pt b2 (.cells #[.slice p l.length c] 27 (0, 0)) :: s))) ?_
 generalize hR : (pt b4 (.cells #[.slice none 0 0] 27 (0, 0)) :: pt b2 (.cells #[.slice p l.length c] 27 (0, 0)) :: s) = R
 refine SC.cut (ι := List Cl × List Rc) (fun _ => [(1, vi y), (2, pp b2 0), (4, pp b4 0), (5, pp b5 0)]) (fun _ => g)
  (fun i => pt b5 (.cells #[.slice q rs.length d] 27 (0, 0)) :: rowA encCell 51 (.slice q rs.length d) i.2 :: (ownS i.1 i.2 ++ R))
  (fun i => i.1.Perm l ∧ All2 CellO i.1 i.2 ∧ i.2.length = rs.length) ?_ ?_
 ·refine SC.seq (SC.region (SL.U (SU.fieldAddr underlying27 rfl sizeOf25 rfl) (SL.K (SQ.load (v := .slice q rs.length d) isAgg25 rfl (CellAt.own 0 rfl rfl)) (SL.U (SU.lenN underlying25 rfl) (SL.U (SU.sub rfl rfl oM) (SL.A rfl (SL.nil (ST.thenN (SC.block ?_)))))))))
  refine SC.loop (ι := List Cl × List Rc × Int) (fun i => [(1, vi y), (2, pp b2 0), (4, pp b4 0), (5, pp b5 0), (6, vi i.2.2)]) (fun _ => g)
   (fun i => pt b5 (.cells #[.slice q rs.length d] 27 (0, 0)) :: rowA encCell 51 (.slice q rs.length d) i.2.1 :: (ownS i.1 i.2.1 ++ R))
   (fun i => i.1.Perm l ∧ All2 CellO i.1 i.2.1 ∧ i.2.1.length = rs.length ∧ (-1 ≤ i.2.2 ∧ i.2.2 < rs.length)) (fun i => (i.2.2 + 1).toNat) (l, rs, (rs.length : Int) - 1)
   ⟨rfl, rfl, rfl, rfl, rfl, trivial⟩ rfl rfl ⟨.refl _, hO, rfl, by dsimp only; omega, by dsimp only; omega⟩ ?_
  rintro ⟨l1, rs1, j⟩ ⟨hp, hO1, hrl, hj0, hj1⟩
  dsimp only at hp hO1 hrl hj0 hj1 ⊢
  have hll1 := hO1.length
  refine SC.seq (SC.seq (SC.region (SL.M rfl (SL.U (SU.gtr rfl rfl) (SL.nil (ST.thenN ?_))))))
  refine SC.ifP rfl (fun hgt => ?_) (fun hgt => ?_)
  ·obtain ⟨jn, rfl⟩ : ∃ n : Nat, j = n := ⟨j.toNat, oM⟩
   have hjl : jn < rs1.length := oM
   have hbs := hbq oM
   have hgj : rs1[((jn : Nat) : Int).toNat]? = some rs1[jn] := List.getElem?_eq_getElem hjl
   obtain ⟨⟨xi, xd, ⟨xp, xn, xc⟩⟩, hx⟩ : ∃ x, x = rs1[jn] := ⟨_, rfl⟩
   rw [← hx] at hgj
   refine SC.skip (ST.thenN (SC.seq (SC.block (SC.seq (SC.region (SL.M rfl (SL.M rfl (SL.U (SU.mulW rfl rfl) (SL.U (SU.addW rfl rfl) (SL.M rfl (SL.U (SU.add rfl rfl oM) (SL.W (SO.call call38 rfl (mod_some E g _ _ jn oM)) ?_))))))))))))
   rintro _ _ _ ⟨kn, hkn, rfl, rfl, rfl⟩
   have hkl : kn < rs1.length := oM
   have hgk : rs1[((kn : Nat) : Int).toNat]? = some rs1[kn] := List.getElem?_eq_getElem hkl
   refine SL.A rfl (SL.nil (ST.thenN (SC.seq (SC.region (SL.U (SU.fieldAddr underlying27 rfl sizeOf25 rfl) (SL.K (SQ.load (v := .slice q rs.length d) isAgg25 rfl (CellAt.own 0 rfl rfl)) (SL.M rfl (SL.U (SU.indexAddr underlying25 sizeOf51 rfl rfl hbs oM sL) (SL.K (SQ.elemA isAgg51 sizeOf51 rfl (Rd.rowA 1 rfl) hgj) (SL.W (SO.alloc zeroValue51) ?_))))))))))
   rintro _ _ _ ⟨b8, rfl, rfl, rfl⟩
   refine SL.on (SO.storeAllK 0 sizeOf51 rfl rfl rfl rfl rfl (by exact ⟨rfl, rfl, rfl, trivial⟩)) ?_
   rintro _ _ _ ⟨rfl, rfl⟩
   refine SL.nil (ST.thenN (SC.seq ?_))
   refine SC.draw [9] [(0, 2), (1, 1), (2, 2), (3, 2), (4, 1), (5, 2), (6, 2), (7, 1), (8, 2), (9, 0)] Tryz.mixed (by kernel_rfl) ?_
   refine SP.U (i := 0) rfl (SU.fieldAddr underlying27 rfl sizeOf25 rfl) (SP.K (i := 1) rfl (SQ.load (v := .slice q rs.length d) isAgg25 rfl (CellAt.own 1 rfl rfl)) (SP.U (i := 2) rfl (SU.move rfl) (SP.U (i := 3) rfl (SU.fieldAddr underlying27 rfl sizeOf25 rfl) (SP.K (i := 4) rfl (SQ.load (v := .slice q rs.length d) isAgg25 rfl (CellAt.own 1 rfl rfl)) (SP.U (i := 5) rfl (SU.move rfl) (SP.U (i := 6) rfl (SU.indexAddr underlying25 sizeOf51 rfl rfl hbs oM sL) (SP.K (i := 7) rfl (SQ.elemA isAgg51 sizeOf51 rfl (Rd.rowA 2 rfl) hgk) (SP.U (i := 8) rfl (SU.indexAddr underlying25 sizeOf51 rfl rfl hbs oM sL) (SP.on (i := 9) rfl (SO.setA (a := rs1[kn]) 2 sizeOf51 rfl rfl rfl hjl rfl) (.inl dC) ?_)))))))))
   rintro _ _ _ ⟨rfl, rfl⟩
   refine SP.nil (ST.thenN (SC.region (SL.U (SU.fieldAddr underlying27 rfl sizeOf25 rfl) (SL.K (SQ.load (v := .slice q rs.length d) isAgg25 rfl (CellAt.own 1 rfl rfl)) (SL.M rfl (SL.K (SQ.loadVarK 0 isAgg51 sizeOf51 rfl rfl rfl) (SL.U (SU.indexAddr underlying25 sizeOf51 rfl rfl hbs oM sL) (SL.on (SO.setA (a := (⟨xi, xd, ⟨xp, xn, xc⟩⟩ : Rc)) 2 sizeOf51 rfl rfl rfl (by simp only [List.length_set]; exact hkl) rfl) ?_))))))))
   rintro _ _ _ ⟨rfl, rfl⟩
   refine SL.nil (ST.blockN (ST.thenN (SC.region (SL.M rfl (SL.U (SU.sub rfl rfl oM) (SL.A rfl (SL.nil ?_)))))))
   refine ST.to (fun w hw => ?_) (g' := g) (s' := pt b5 (.cells #[.slice q rs.length d] 27 (0, 0)) :: rowA encCell 51 (.slice q rs.length d) (swp rs1 jn kn hjl hkl) :: (ownS (swp l1 jn kn oM oM) (swp rs1 jn kn hjl hkl) ++ R)) ?_
   ·have h1 := hw.sublist (List.sublist_cons_self _ _)
    have h2 := h1.perm (.cons _ (.cons _ ((ownS_swp hll1 jn kn oM oM).append_right R)))
    have e : swp rs1 jn kn hjl hkl = (rs1.set jn rs1[kn]).set kn (⟨xi, xd, ⟨xp, xn, xc⟩⟩ : Rc) := by unfold swp; rw [hx]
    rw [show rowA encCell 51 (.slice q rs.length d) (swp rs1 jn kn hjl hkl) = rowA encCell 51 (.slice q rs.length d) ((rs1.set jn rs1[kn]).set kn (⟨xi, xd, ⟨xp, xn, xc⟩⟩ : Rc)) by rw [e]]
    exact h2
   exact ST.again (swp l1 jn kn oM oM, swp rs1 jn kn hjl hkl, (jn : Int) - 1) ⟨rfl, rfl, rfl, rfl, rfl, trivial⟩ rfl rfl ⟨(swp_perm _ _ _ _ _).trans hp, All2.set (all2_at hO1 oM hjl) kn (All2.set (all2_at hO1 oM hkl) jn hO1), by rw [swp_length]; exact hrl, by dsimp only; omega, by dsimp only; omega⟩ (by dsimp only; omega)
  ·refine SC.exit (ST.thenX (ST.thenX (ST.blockX ?_)))
   exact ST.mid (l1, rs1) ⟨rfl, rfl, rfl, rfl, trivial⟩ rfl rfl ⟨hp, hO1, hrl⟩
 ·rintro ⟨l1, rs1⟩ ⟨hp, hO1, hrl⟩
  dsimp only at hp hO1 hrl ⊢
  have hll1 := hO1.length
  have hfl := fun x hx => hf.2 x (hp.mem_iff.1 hx)
  refine SC.seq (SC.seq (SC.region (SL.A rfl (SL.nil (ST.thenN (SC.block ?_))))))
  refine SC.loop (ι := PH × List Cl × List Cl × List Rc × List Cl × List Rc) (fun i => [(1, vi y), (2, pp b2 0), (4, pp b4 0), (5, pp b5 0), (9, vi i.2.2.2.1.length)]) (fun i => i.1)
   (fun i => pt b5 (.cells #[.slice q rs.length d] 27 (0, 0)) :: rowA encCell 51 (.slice q rs.length d) rs1 :: (ownS i.2.2.2.2.1 i.2.2.2.2.2 ++ R))
   (fun i => Le g i.1 ∧ rs1 = i.2.2.2.1 ++ i.2.2.2.2.2 ∧ l1 = i.2.1 ++ i.2.2.2.2.1 ∧ All2 ShC i.2.1 i.2.2.1 ∧ All2 (CellR i.1) i.2.2.1 i.2.2.2.1 ∧ All2 CellO i.2.2.2.2.1 i.2.2.2.2.2) (fun i => i.2.2.2.2.2.length) (g, [], [], [], l1, rs1)
   ⟨rfl, rfl, rfl, rfl, rfl, trivial⟩ rfl rfl ⟨Le.refl g, rfl, rfl, trivial, trivial, hO1⟩ ?_
  rintro ⟨g1, D0, D, RD, L, RL⟩ ⟨hle, hrs, hls, hsh, hcr, hOL⟩
  dsimp only at hle hrs hls hsh hcr hOL ⊢
  have hlr : rs1.length = RD.length + RL.length := by rw [hrs]; simp
  have hLl := hOL.length
  refine SC.seq (SC.seq (SC.region (SL.M rfl (SL.U (SU.fieldAddr underlying27 rfl sizeOf25 rfl) (SL.K (SQ.load isAgg25 rfl (CellAt.own 0 rfl rfl)) (SL.U (SU.lenN underlying25 rfl) (SL.U (SU.lss rfl rfl) (SL.nil (ST.thenN ?_)))))))))
  refine SC.ifP rfl (fun hlt => ?_) (fun hlt => ?_)
  ·cases RL with
   | nil => simp at hlr; omega
   | cons x RL =>
   obtain ⟨cx, L', hLe, hcx, hOL'⟩ := hOL.cons_right
   subst hLe
   obtain ⟨xi, xd, ⟨xp, xn, xc⟩⟩ := x
   obtain ⟨e1, e2, e3⟩ := hcx
   dsimp only at e1 e2 e3
   subst e1 e2 e3
   have hbs := hbq (by simp at hlr; omega)
   have hgx : rs1[((RD.length : Nat) : Int).toNat]? = some (⟨cx.id, cx.dim, ⟨xp, cx.sides.length, xc⟩⟩ : Rc) := by rw [hrs]; exact get_mid oM
   have hxl : cx.sides.length < 1099511627776 := hfl cx (by rw [hls]; simp)
   simp only [List.length_cons] at hlr
   refine SC.perm (s' := rowA encSide 55 (.slice xp cx.sides.length xc) cx.sides :: pt b5 (.cells #[.slice q rs.length d] 27 (0, 0)) :: rowA encCell 51 (.slice q rs.length d) rs1 :: (ownS L' RL ++ R)) (List.perm_middle (l₁ := [_, _])) ?_
   refine SC.facts fun ⟨w0, hw0⟩ => ?_
   have hbx : 0 < cx.sides.length → based (.slice xp cx.sides.length xc) = true := fun h => by obtain ⟨b0, c0, he⟩ := rowA_based (i := 0) hw0 rfl h; rw [he]; rfl
   clear hw0 w0
   refine SC.skip (ST.thenN (SC.seq (SC.block (SC.seq (SC.region (SL.U (SU.fieldAddr underlying27 rfl sizeOf25 rfl) (SL.K (SQ.load (v := .slice q rs.length d) isAgg25 rfl (CellAt.own 1 rfl rfl)) (SL.M rfl (SL.U (SU.indexAddr underlying25 sizeOf51 rfl rfl hbs oM sL) (SL.U (SU.fieldAddrC underlying51 rfl sizeOf49 rfl hbs) (SL.K (SQ.partA (o := 2) (u := .slice xp cx.sides.length xc) isAgg49 rfl (Rd.rowA 2 rfl) hgx rfl) (SL.A rfl (SL.nil (ST.thenN (SC.seq (SC.region (SL.M rfl (SL.U (SU.lenN underlying49 rfl) (SL.U (SU.sub rfl rfl oM) (SL.A rfl (SL.nil (ST.thenN (SC.block ?_)))))))))))))))))))))))
   refine SC.loop (ι := List Side × Int) (fun i => [(1, vi y), (2, pp b2 0), (4, pp b4 0), (5, pp b5 0), (9, vi RD.length), (10, .slice xp cx.sides.length xc), (11, vi i.2)]) (fun _ => g1)
    (fun i => rowA encSide 55 (.slice xp cx.sides.length xc) i.1 :: pt b5 (.cells #[.slice q rs.length d] 27 (0, 0)) :: rowA encCell 51 (.slice q rs.length d) rs1 :: (ownS L' RL ++ R))
    (fun i => i.1.Perm cx.sides ∧ (-1 ≤ i.2 ∧ i.2 < cx.sides.length)) (fun i => (i.2 + 1).toNat) (cx.sides, (cx.sides.length : Int) - 1)
    ⟨rfl, rfl, rfl, rfl, rfl, rfl, rfl, trivial⟩ rfl rfl ⟨.refl _, by dsimp only; omega, by dsimp only; omega⟩ ?_
   rintro ⟨ss, j⟩ ⟨hps, hj0, hj1⟩
   dsimp only at hps hj0 hj1 ⊢
   have hsl := hps.length_eq
   refine SC.seq (SC.seq (SC.region (SL.M rfl (SL.U (SU.gtr rfl rfl) (SL.nil (ST.thenN ?_))))))
   refine SC.ifP rfl (fun hgt => ?_) (fun hgt => ?_)
   ·obtain ⟨jn, rfl⟩ : ∃ n : Nat, j = n := ⟨j.toNat, oM⟩
    have hjl : jn < ss.length := oM
    have hbsx := hbx oM
    have hgj : ss[((jn : Nat) : Int).toNat]? = some ss[jn] := List.getElem?_eq_getElem hjl
    obtain ⟨⟨zc, zs⟩, hz⟩ : ∃ z, z = ss[jn] := ⟨_, rfl⟩
    rw [← hz] at hgj
    refine SC.skip (ST.thenN (SC.seq (SC.block (SC.seq (SC.region (SL.M rfl (SL.U (SU.quo rfl rfl dC) (SL.M rfl (SL.U (SU.mulW rfl rfl) (SL.U (SU.addW rfl rfl) (SL.M rfl (SL.U (SU.add rfl rfl oM) (SL.W (SO.call call38 rfl (mod_some E g1 _ _ jn oM)) ?_)))))))))))))
    rintro _ _ _ ⟨kn, hkn, rfl, rfl, rfl⟩
    have hkl : kn < ss.length := oM
    have hgk : ss[((kn : Nat) : Int).toNat]? = some ss[kn] := List.getElem?_eq_getElem hkl
    refine SL.A rfl (SL.nil (ST.thenN (SC.seq (SC.region (SL.M rfl (SL.M rfl (SL.U (SU.indexAddr underlying49 sizeOf55 rfl rfl hbsx oM sL) (SL.K (SQ.elemA isAgg55 sizeOf55 rfl (Rd.rowA 0 rfl) hgj) (SL.W (SO.alloc zeroValue55) ?_)))))))))
    rintro _ _ _ ⟨b13, rfl, rfl, rfl⟩
    refine SL.on (SO.storeAllK 0 sizeOf55 rfl rfl rfl rfl rfl (by exact ⟨rfl, rfl, trivial⟩)) ?_
    rintro _ _ _ ⟨rfl, rfl⟩
    refine SL.nil (ST.thenN (SC.seq (SC.region (SL.M rfl (SL.M rfl (SL.M rfl (SL.M rfl (SL.U (SU.indexAddr underlying49 sizeOf55 rfl rfl hbsx oM sL) (SL.K (SQ.elemA isAgg55 sizeOf55 rfl (Rd.rowA 1 rfl) hgk) (SL.U (SU.indexAddr underlying49 sizeOf55 rfl rfl hbsx oM sL) (SL.on (SO.setA (a := ss[kn]) 1 sizeOf55 rfl rfl rfl hjl rfl) ?_)))))))))))
    rintro _ _ _ ⟨rfl, rfl⟩
    refine SL.nil (ST.thenN (SC.region (SL.M rfl (SL.M rfl (SL.K (SQ.loadVarK 0 isAgg55 sizeOf55 rfl rfl rfl) (SL.U (SU.indexAddr underlying49 sizeOf55 rfl rfl hbsx oM sL) (SL.on (SO.setA (a := (⟨zc, zs⟩ : Side)) 1 sizeOf55 rfl rfl rfl (by simp only [List.length_set]; exact hkl) rfl) ?_)))))))
    rintro _ _ _ ⟨rfl, rfl⟩
    refine SL.nil (ST.blockN (ST.thenN (SC.region (SL.M rfl (SL.U (SU.sub rfl rfl oM) (SL.A rfl (SL.nil (ST.drop (List.sublist_cons_self _ _) ?_))))))))
    have e : swp ss jn kn hjl hkl = (ss.set jn ss[kn]).set kn (⟨zc, zs⟩ : Side) := by unfold swp; rw [hz]
    exact ST.again ((ss.set jn ss[kn]).set kn (⟨zc, zs⟩ : Side), (jn : Int) - 1) ⟨rfl, rfl, rfl, rfl, rfl, rfl, rfl, trivial⟩ rfl rfl ⟨by dsimp only; rw [← e]; exact (swp_perm _ _ _ _ _).trans hps, by dsimp only; omega, by dsimp only; omega⟩ (by dsimp only; omega)
   ·refine SC.exit (ST.thenX (ST.thenX (ST.blockX (ST.blockN (ST.thenN (SC.freezeRow fun g2 hle2 hs2 => ?_))))))
    refine SC.region (SL.M rfl (SL.U (SU.add rfl rfl oM) (SL.A rfl (SL.nil ?_))))
    exact ST.again (g2, D0 ++ [cx], D ++ [⟨cx.id, cx.dim, ss⟩], RD ++ [⟨cx.id, cx.dim, ⟨xp, cx.sides.length, xc⟩⟩], L', RL) ⟨rfl, rfl, rfl, rfl, vi_eq lN, trivial⟩ rfl rfl
     ⟨hle.trans hle2, by rw [hrs]; simp, by rw [hls]; simp, hsh.append ⟨⟨rfl, rfl, hps.symm⟩, trivial⟩, (hcr.mono fun _ _ => CellR.mono hle2).append ⟨(show CellR g2 ⟨cx.id, cx.dim, ss⟩ ⟨cx.id, cx.dim, ⟨xp, cx.sides.length, xc⟩⟩ from ⟨rfl, rfl, hs2⟩), trivial⟩, hOL'⟩ lN
  ·have hr0 : RL = [] := List.eq_nil_of_length_eq_zero oM
   subst hr0
   have hl0 : L = [] := List.eq_nil_of_length_eq_zero (by simpa using hLl)
   subst hl0
   rw [List.append_nil] at hrs hls
   subst hrs hls
   subst hR
   refine SC.to (fun w hw => hw.perm (List.Perm.swap _ _ _)) (g' := g1) (s' := rowA encCell 51 (.slice q rs.length d) rs1 :: pt b5 (.cells #[.slice q rs.length d] 27 (0, 0)) :: (pt b4 (.cells #[.slice none 0 0] 27 (0, 0)) :: pt b2 (.cells #[.slice p l.length c] 27 (0, 0)) :: s)) ?_
   refine SC.freezeRow fun g2 hle2 hs2 => ?_
   refine SC.exit (ST.thenX (ST.thenX (ST.blockX (ST.thenN (SC.seq (SC.region (SL.K (SQ.loadVarK 0 isAgg27 sizeOf27 rfl rfl rfl) (SL.on (SO.storeAllK 1 sizeOf27 rfl rfl rfl rfl rfl (by exact ⟨rfl, trivial⟩)) ?_))))))))
   rintro _ _ _ ⟨rfl, rfl⟩
   refine SL.nil (ST.thenN (SC.ret ?_))
   exact ST.retCD 1 s (.inl rfl) results32 rfl isAgg27 sizeOf27 rfl rfl (.cons _ (.cons _ (.cons _ (.refl _)))) ⟨rfl, hle.trans hle2, _, D, rfl, ⟨rs1, hs2, hcr.mono fun _ _ => CellR.mono hle2⟩, ⟨l1, hp, hsh⟩⟩
end Go.Proofs.YtkdibcicncjpdaaGreat
