/-
  The law 'CellsOwn': the arguments are not changed, and results do not share memory with them; proved for every input, without condition.
-/
import Derived.Test.YtkdibcicncjpdaaGreatOw09
import Derived.Test.YtkdibcicncjpdaaGreatOw13
import Derived.Test.YtkdibcicncjpdaaGreatOw14
set_option linter.unusedSimpArgs false
set_option linter.unusedVariables false
namespace Go.Proofs.YtkdibcicncjpdaaGreat
open _root_.Go.Proofs.Tryz _root_.Go.Proofs.YtkdibcicncjpdaaGreat.Tryz
open Go Go.Sy Go.Pl Go.Proofs
set_option maxRecDepth 100000
set_option maxHeartbeats 1000000
theorem Tryz.sty58 : STy Tryz.prog 58 27 1 24 (.agg #[.slice none 0 0]) := ⟨underlying58, ⟨t27, by kernel_rfl, by kernel_rfl, by kernel_rfl, by kernel_rfl⟩, rfl, by decide⟩
theorem Tryz.buildZ55 (w : World) : (Instr.build 55 #[]).run Tryz.prog w = .ok (.agg (encSide.enc ⟨0, 0⟩).toArray) w := by
 have hz : (Value.agg #[vi 0, vi 0]).cells = #[vi 0, vi 0] := rfl
 simp [Instr.build, Instr.fill, encSide, hz]
theorem Tryz.buildN55 (w : World) : (Instr.build 55 #[(0, vi (-1))]).run Tryz.prog w = .ok (.agg (encSide.enc ⟨-1, 0⟩).toArray) w := by
 have hz : (Value.agg #[vi 0, vi 0]).cells = #[vi 0, vi 0] := rfl
 have hv : (vi (-1)).cells = #[vi (-1)] := rfl
 simp [Instr.build, Instr.fill, encSide, hz, hv]
theorem ws_based {gc g : PH} {p : Option Addr} {n c : Nat} (h : Ws gc g ⟨p, n, c⟩) (hn : 0 < n) : based (.slice p n c) = true := by
 obtain ⟨l, h⟩ := h
 have h1 := rk_slen h
 dsimp only at h h1
 exact h.sl.based oM
theorem cellsOwn_spec (E : World) (hE : E.drawn = 0) (g : PH) (s : Own) (v iv : Value) (kd y : Int) (ls : List (List Int)) (ns : List Int) (hv : Lists g v ls) (hi : Ints g iv ns) (hnl : ns.length < 17592186044416) :
  Ctr Tryz.prog E 8 #[.agg #[vi kd, v, vi y], iv] g s (fun r g' s' => r = vb true ∧ s = s' ∧ Le g g') := by
 obtain ⟨p, n, c, rfl⟩ : ∃ p n c, v = .slice p n c := by
  obtain ⟨rs0, hrs0, _⟩ := hv
  obtain ⟨p, c, rfl⟩ := SlA.form hrs0
  exact ⟨_, _, _, rfl⟩
 obtain ⟨ip, ic, rfl⟩ := SlA.form hi
 have hsm := madeC_small kd ls y
 have hmade := fun g s v hv => made_spec E g s v kd y ls hv
 generalize madeC kd ls y = M0 at *
 have hsh := fun g s v hv => shuffled_spec E g s v M0 5 hv hsm.fits
 have hM0 := hsm.1
 refine Ctr.of (args := [.agg #[vi kd, .slice p n c, vi y], .slice ip ns.length ic]) func8 rfl ntmps8 (Nat.le_of_ble_eq_true rfl) ?_
 refine SC.seq (SC.region (SL.W (SO.box rfl) ?_))
 rintro _ _ _ ⟨b2, rfl, rfl, rfl⟩
 refine SL.A rfl (SL.nil (ST.thenN (SC.seq (SC.region (SL.W (SO.call call9 rfl (sanity_spec E hE g _)) ?_)))))
 rintro _ g1 _ ⟨rfl, rfl, hle1⟩
 refine SL.A rfl (SL.nil (ST.thenN (SC.seq (SC.region (SL.K (SQ.loadVarK 0 isAgg40 sizeOf40 rfl rfl rfl) (SL.W (SO.call call20 rfl (hmade g1 _ _ (hv.mono hle1))) ?_))))))
 rintro _ g2 _ ⟨rfl, hle2, xm, rfl, hxm⟩
 refine SL.W (SO.call call32 rfl (hsh g2 _ _ hxm)) ?_
 rintro _ g3 _ ⟨rfl, hle3, xc, M, rfl, hxc, hML⟩
 obtain ⟨qc, dc, rfl⟩ := hxc.form
 have hle13 := hle1.trans (hle2.trans hle3)
 have hfm := hML.fits hsm.fits
 have hMl : M.length ≤ 5000 := (by obtain ⟨l1, h1, h2⟩ := hML; rw [← h2.length, h1.length_eq]; exact hM0)
 clear hML
 refine SL.W (SO.alloc zeroValue27) ?_
 rintro _ _ _ ⟨b6, rfl, rfl, rfl⟩
 refine SL.on (SO.storeAllK 0 sizeOf27 rfl rfl rfl rfl rfl (by exact ⟨rfl, trivial⟩)) ?_
 rintro _ _ _ ⟨rfl, rfl⟩
 refine SL.nil (ST.thenN (SC.seq (SC.region (SL.K (SQ.loadVarK 0 isAgg27 sizeOf27 rfl rfl rfl) (SL.W (SO.call call33 rfl (copy_spec E g3 _ _ M hxc hfm)) ?_)))))
 rintro _ gc _ ⟨rfl, hle4, xb, rfl, hxb⟩
 obtain ⟨qb, db, rfl⟩ := hxb.form
 have hxc4 := hxc.mono hle4
 have hle14 := hle13.trans hle4
 have hic := SlA.mono hi hle14
 refine SL.W (SO.alloc zeroValue27) ?_
 rintro _ _ _ ⟨b7, rfl, rfl, rfl⟩
 refine SL.on (SO.storeAllK 0 sizeOf27 rfl rfl rfl rfl rfl (by exact ⟨rfl, trivial⟩)) ?_
 rintro _ _ _ ⟨rfl, rfl⟩
 refine SL.nil (ST.thenN (SC.seq (SC.region (SL.K (SQ.loadVarK 1 isAgg27 sizeOf27 rfl rfl rfl) (SL.W (SO.call call30 rfl (canon_new E gc _ _ M hxc4 hfm)) ?_)))))
 rintro _ g5 _ ⟨rfl, hle5, xa, rfl, hxa⟩
 obtain ⟨pA, nA, cA, sA, rfl, hnA, hA1, hA2, hwA⟩ := hxa.wr (canonC_fits hfm)
 refine SL.W (SO.alloc zeroValue27) ?_
 rintro _ _ _ ⟨b8, rfl, rfl, rfl⟩
 refine SL.on (SO.storeAllK 0 sizeOf27 rfl rfl rfl rfl rfl (by exact ⟨rfl, trivial⟩)) ?_
 rintro _ _ _ ⟨rfl, rfl⟩
 refine SL.nil (ST.thenN ?_)
 refine SC.cut (ι := Nat × Option Addr × Nat × Nat × PH) (fun i => [(1, .slice ip ns.length ic), (2, pp b2 0), (5, vb true), (6, pp b6 0), (7, pp b7 0), (8, pp b8 0), (9, pp i.1 0)]) (fun i => i.2.2.2.2) (fun i => pt i.1 (.cells #[.slice i.2.1 i.2.2.1 i.2.2.2.1] 27 (0, 0)) :: pt b8 (.cells #[.slice pA nA cA] 27 (0, 0)) :: pt b7 (.cells #[.slice qb M.length db] 27 (0, 0)) :: pt b6 (.cells #[.slice qc M.length dc] 27 (0, 0)) :: pt b2 (.cells #[vi kd, .slice p n c, vi y] 40 (0, 0)) :: s)
  (fun i => Le g5 i.2.2.2.2 ∧ Cells i.2.2.2.2 (.slice i.2.1 i.2.2.1 i.2.2.2.1) ((tabC M).filter fun c => (closF (tabC M) (fewC M ns)).contains c.id) ∧ ∃ sB, i.2.2.1 = sB.length ∧ sB.length < 1099511627776 ∧ (∀ x ∈ sB, x.n < 1099511627776) ∧ Wr gc i.2.2.2.2 (.slice i.2.1 i.2.2.1 i.2.2.2.1) sB) ?_ ?_
 ·refine SC.drawX [] Tryz.mixed (by kernel_rfl) ?_
  refine SX.q (i := 0) rfl (by kernel_rfl) (SQ.loadVarK 2 isAgg27 sizeOf27 rfl rfl rfl) dC (SX.q (i := 1) rfl (by kernel_rfl) (SQ.loadVarK 2 isAgg27 sizeOf27 rfl rfl rfl) dC (SX.u (i := 2) rfl (by kernel_rfl) (SU.move rfl) dC ?_))
  refine SX.br2 3 5 (by kernel_rfl) ?_ ?_
  ·refine SB.o (i := 3) rfl (SO.call call28 rfl (few_spec E g5 _ _ _ M ns (hxc4.mono hle5) hfm (SlA.mono hic hle5))) dC (.inr (by rintro v31 g6 _ ⟨rfl, hle6, hi6⟩; exact ⟨by assumption, (by exact .refl _)⟩)) ?_
   rintro v31 g6 _ ⟨rfl, hle6, hi6⟩
   obtain ⟨q31, d31, rfl⟩ := SlA.form hi6
   refine SX.br2 4 5 (by kernel_rfl) ?_ ?_
   ·refine SB.o (i := 4) rfl (SO.call call27 rfl (sub_new E g6 _ _ _ M (fewC M ns) ((hxc4.mono hle5).mono hle6) hfm hi6 (by have := fewC_length M ns; omega))) dC (.inr (by rintro _ g7 _ ⟨rfl, hle7, xs, rfl, hxs⟩; exact ⟨by exact Le.trans (by assumption) (by assumption), (by exact .refl _)⟩)) ?_
    rintro _ g7 _ ⟨rfl, hle7, xs, rfl, hxs⟩
    have hxs' := hxs.mono (mns_anti (hle5.trans hle6))
    obtain ⟨pB, nB, cB, sB, rfl, hnB, hB1, hB2, hwB⟩ := hxs'.wr (filter_fits _ (tabC_fits hfm))
    refine SX.br1 5 (by kernel_rfl) ?_
    ·refine SB.o (i := 5) rfl (SO.alloc zeroValue27) dC (.inr (by rintro _ _ _ ⟨b9, rfl, rfl, rfl⟩; exact ⟨by exact Le.trans (by assumption) (by assumption), (by exact .cons _ (.refl _))⟩)) ?_
     rintro _ _ _ ⟨b9, rfl, rfl, rfl⟩
     refine SX.br1 6 (by kernel_rfl) ?_
     ·refine SB.on (i := 6) rfl (SO.storeAllK 0 sizeOf27 rfl rfl rfl rfl rfl (by exact ⟨rfl, trivial⟩)) (.inr (by rintro _ _ _ ⟨rfl, rfl⟩; exact ⟨by exact Le.trans (by assumption) (by assumption), (by exact .cons _ (.refl _))⟩)) ?_
      rintro _ _ _ ⟨rfl, rfl⟩
      refine SX.nil (by kernel_rfl) ?_
      exact ST.mid (b9, pB, nB, cB, g7) ⟨rfl, rfl, rfl, rfl, rfl, rfl, rfl, trivial⟩ rfl rfl ⟨hle6.trans hle7, hxs.cells (mns_le _ _), sB, hnB, hB1, hB2, hwB⟩
   ·refine SB.o (i := 5) rfl (SO.alloc zeroValue27) dC (.inr (by rintro _ _ _ ⟨b9, rfl, rfl, rfl⟩; exact ⟨by assumption, (by exact .cons _ (.refl _))⟩)) ?_
    rintro _ _ _ ⟨b9, rfl, rfl, rfl⟩
    refine SX.br1 4 (by kernel_rfl) ?_
    ·refine SB.o (i := 4) rfl (SO.call call27 rfl (sub_new E g6 _ _ _ M (fewC M ns) ((hxc4.mono hle5).mono hle6) hfm hi6 (by have := fewC_length M ns; omega))) dC (.inr (by rintro _ g7 _ ⟨rfl, hle7, xs, rfl, hxs⟩; exact ⟨by exact Le.trans (by assumption) (by assumption), (by exact .cons _ (.refl _))⟩)) ?_
     rintro _ g7 _ ⟨rfl, hle7, xs, rfl, hxs⟩
     have hxs' := hxs.mono (mns_anti (hle5.trans hle6))
     obtain ⟨pB, nB, cB, sB, rfl, hnB, hB1, hB2, hwB⟩ := hxs'.wr (filter_fits _ (tabC_fits hfm))
     refine SX.br1 6 (by kernel_rfl) ?_
     ·refine SB.on (i := 6) rfl (SO.storeAllK 0 sizeOf27 rfl rfl rfl rfl rfl (by exact ⟨rfl, trivial⟩)) (.inr (by rintro _ _ _ ⟨rfl, rfl⟩; exact ⟨by exact Le.trans (by assumption) (by assumption), (by exact .cons _ (.refl _))⟩)) ?_
      rintro _ _ _ ⟨rfl, rfl⟩
      refine SX.nil (by kernel_rfl) ?_
      exact ST.mid (b9, pB, nB, cB, g7) ⟨rfl, rfl, rfl, rfl, rfl, rfl, rfl, trivial⟩ rfl rfl ⟨hle6.trans hle7, hxs.cells (mns_le _ _), sB, hnB, hB1, hB2, hwB⟩
  ·refine SB.o (i := 5) rfl (SO.alloc zeroValue27) dC (.inr (by rintro _ _ _ ⟨b9, rfl, rfl, rfl⟩; exact ⟨by exact Le.refl _, (by exact .cons _ (.refl _))⟩)) ?_
   rintro _ _ _ ⟨b9, rfl, rfl, rfl⟩
   refine SX.br1 3 (by kernel_rfl) ?_
   ·refine SB.o (i := 3) rfl (SO.call call28 rfl (few_spec E g5 _ _ _ M ns (hxc4.mono hle5) hfm (SlA.mono hic hle5))) dC (.inr (by rintro v31 g6 _ ⟨rfl, hle6, hi6⟩; exact ⟨by assumption, (by exact .cons _ (.refl _))⟩)) ?_
    rintro v31 g6 _ ⟨rfl, hle6, hi6⟩
    obtain ⟨q31, d31, rfl⟩ := SlA.form hi6
    refine SX.br1 4 (by kernel_rfl) ?_
    ·refine SB.o (i := 4) rfl (SO.call call27 rfl (sub_new E g6 _ _ _ M (fewC M ns) ((hxc4.mono hle5).mono hle6) hfm hi6 (by have := fewC_length M ns; omega))) dC (.inr (by rintro _ g7 _ ⟨rfl, hle7, xs, rfl, hxs⟩; exact ⟨by exact Le.trans (by assumption) (by assumption), (by exact .cons _ (.refl _))⟩)) ?_
     rintro _ g7 _ ⟨rfl, hle7, xs, rfl, hxs⟩
     have hxs' := hxs.mono (mns_anti (hle5.trans hle6))
     obtain ⟨pB, nB, cB, sB, rfl, hnB, hB1, hB2, hwB⟩ := hxs'.wr (filter_fits _ (tabC_fits hfm))
     refine SX.br1 6 (by kernel_rfl) ?_
     ·refine SB.on (i := 6) rfl (SO.storeAllK 0 sizeOf27 rfl rfl rfl rfl rfl (by exact ⟨rfl, trivial⟩)) (.inr (by rintro _ _ _ ⟨rfl, rfl⟩; exact ⟨by exact Le.trans (by assumption) (by assumption), (by exact .cons _ (.refl _))⟩)) ?_
      rintro _ _ _ ⟨rfl, rfl⟩
      refine SX.nil (by kernel_rfl) ?_
      exact ST.mid (b9, pB, nB, cB, g7) ⟨rfl, rfl, rfl, rfl, rfl, rfl, rfl, trivial⟩ rfl rfl ⟨hle6.trans hle7, hxs.cells (mns_le _ _), sB, hnB, hB1, hB2, hwB⟩
 rintro ⟨b9, pB, nB, cB, g7⟩ ⟨hle57, hxs, sB, hnB, hB1, hB2, hwB⟩
 dsimp only at hle57 hxs hnB hwB ⊢
 have hfs := filter_fits (fun c : Cl => (closF (tabC M) (fewC M ns)).contains c.id) (tabC_fits hfm)
 have hsl : ((tabC M).filter fun c => (closF (tabC M) (fewC M ns)).contains c.id).length ≤ 5000 := Nat.le_trans (List.length_filter_le _ _) (Nat.le_trans (tabC_length M) hMl)
 generalize ((tabC M).filter fun c => (closF (tabC M) (fewC M ns)).contains c.id) = S at *
 have hlec7 := hle5.trans hle57
 have hxc7 := hxc4.mono hlec7
 have hwA7 := hwA.mono hle57
 have hun := fun g s v u hv hu => union_new E g s v u M S hv hu hfm hfs oM
 have hfu : Fits (unionC (tabC M) (tabC S)).1 := by
  rw [← unionC2_eq (tabC_nodup M) (tabC_nodup S)]
  unfold unionC2
  split
  ·exact ⟨by decide, fun c hc => by cases hc⟩
  ·have h1 := tabC_length M
   have h2 := tabC_length S
   exact canonC_fits (union_fits (tabC_fits hfm) (tabC_fits hfs) oM)
 have hfe : Fits (meetC (tabC M) (tabC M)) := filter_fits _ (tabC_fits hfm)
 generalize (unionC (tabC M) (tabC S)) = U at *
 have hbound : ∀ x : Option Cl, x = findC M (fewV M 1) → (x.getD zeroC).sides.length < 1099511627776 := fun x hx => by
  cases x with
  | none => decide
  | some z => exact (tabC_fits hfm).2 z (List.mem_of_find?_eq_some hx.symm)
 refine SC.seq (SC.region (SL.K (SQ.loadVarK 3 isAgg27 sizeOf27 rfl rfl rfl) (SL.K (SQ.loadVarK 0 isAgg27 sizeOf27 rfl rfl rfl) (SL.W (SO.call call23 rfl (hun g7 _ _ _ hxc7 hxs)) ?_))))
 rintro _ g8 _ ⟨rfl, hle8, xu, rfl, hxu⟩
 obtain ⟨pU, nU, cU, sU, rfl, hnU, hU1, hU2, hwU⟩ := (hxu.mono (mns_anti hlec7)).wr hfu
 have hwA8 := hwA7.mono hle8
 have hwB8 := hwB.mono hle8
 have hlec8 := hlec7.trans hle8
 have hxc8 := hxc7.mono hle8
 refine SL.M rfl (SL.U (SU.extract rfl rfl) (SL.U (SU.extract rfl rfl) (SL.W (SO.alloc zeroValue27) ?_)))
 rintro _ _ _ ⟨b10, rfl, rfl, rfl⟩
 refine SL.on (SO.storeAllK 0 sizeOf27 rfl rfl rfl rfl rfl (by exact ⟨rfl, trivial⟩)) ?_
 rintro _ _ _ ⟨rfl, rfl⟩
 refine SL.A rfl (SL.nil (ST.thenN (SC.seq (SC.region (SL.K (SQ.loadVarK 4 isAgg27 sizeOf27 rfl rfl rfl) (SL.K (SQ.loadVarK 4 isAgg27 sizeOf27 rfl rfl rfl) (SL.W (SO.call call25 rfl (meet_new E g8 _ _ _ M M hxc8 hxc8 hfm hfm)) ?_)))))))
 rintro _ g9 _ ⟨rfl, hle9, xe, rfl, hxe⟩
 obtain ⟨pE, nE, cE, sE, rfl, hnE, hE1, hE2, hwE⟩ := (hxe.mono (mns_anti hlec8)).wr hfe
 have hwA9 := hwA8.mono hle9
 have hwB9 := hwB8.mono hle9
 have hwU9 := hwU.mono hle9
 have hlec9 := hlec8.trans hle9
 have hxc9 := hxc8.mono hle9
 have hi9 := SlA.mono hic hlec9
 refine SL.W (SO.alloc zeroValue27) ?_
 rintro _ _ _ ⟨b12, rfl, rfl, rfl⟩
 refine SL.on (SO.storeAllK 0 sizeOf27 rfl rfl rfl rfl rfl (by exact ⟨rfl, trivial⟩)) ?_
 rintro _ _ _ ⟨rfl, rfl⟩
 refine SL.nil (ST.thenN ?_)
 refine SC.cut (ι := Nat × Int × Int × Option Addr × Nat × Nat × PH) (fun i => [(5, vb true), (6, pp b6 0), (7, pp b7 0), (8, pp b8 0), (9, pp b9 0), (10, pp b10 0), (12, pp b12 0), (13, pp i.1 0)]) (fun i => i.2.2.2.2.2.2) (fun i => pt i.1 (.cells #[vi i.2.1, vi i.2.2.1, .slice i.2.2.2.1 i.2.2.2.2.1 i.2.2.2.2.2.1] 51 (0, 0)) :: pt b12 (.cells #[.slice pE nE cE] 27 (0, 0)) :: pt b10 (.cells #[.slice pU nU cU] 27 (0, 0)) :: pt b9 (.cells #[.slice pB nB cB] 27 (0, 0)) :: pt b8 (.cells #[.slice pA nA cA] 27 (0, 0)) :: pt b7 (.cells #[.slice qb M.length db] 27 (0, 0)) :: pt b6 (.cells #[.slice qc M.length dc] 27 (0, 0)) :: pt b2 (.cells #[vi kd, .slice p n c, vi y] 40 (0, 0)) :: s)
  (fun i => Le g9 i.2.2.2.2.2.2 ∧ i.2.2.2.2.1 < 1099511627776 ∧ Ws gc i.2.2.2.2.2.2 ⟨i.2.2.2.1, i.2.2.2.2.1, i.2.2.2.2.2.1⟩) ?_ ?_
 ·refine SC.drawX [] Tryz.mixed (by kernel_rfl) ?_
  refine SX.q (i := 0) rfl (by kernel_rfl) (SQ.loadVarK 5 isAgg27 sizeOf27 rfl rfl rfl) dC (SX.q (i := 1) rfl (by kernel_rfl) (SQ.loadVarK 5 isAgg27 sizeOf27 rfl rfl rfl) dC (SX.u (i := 3) rfl (by kernel_rfl) (SU.move rfl) dC ?_))
  refine SX.br2 2 12 (by kernel_rfl) ?_ ?_
  ·refine SB.o (i := 2) rfl (SO.buildSlice sty45 rfl rfl rfl (szs_mk ⟨rfl, trivial⟩) dC) dC (.inr (by rintro _ _ _ ⟨b45, rfl, rfl, rfl⟩; exact ⟨by exact Le.refl _, (by exact .cons _ (.refl _))⟩)) ?_
   rintro _ _ _ ⟨b45, rfl, rfl, rfl⟩
   refine SX.to (fun w hw => At.litRow (e := encInt) (l := [1]) (n := 0) hw rfl rfl dC) ?_
   refine SX.br2 4 12 (by kernel_rfl) ?_ ?_
   ·refine SB.o (i := 4) rfl ((by exact SO.appA (e := encInt) (l := [1]) (m := ns) 0 sty45 rfl rfl rfl hi9 (by simp; omega) (by simp; omega))) dC (.inr (by rintro v47 _ _ ⟨rfl, rfl⟩; exact ⟨by exact Le.refl _, (by exact .cons _ (.refl _))⟩)) ?_
    rintro v47 _ _ ⟨rfl, rfl⟩
    first | (refine SX.freezeRow (n := _) (m := ([1] ++ ns).length) (k := 1) (v := v47) fun g10 hle10 hs10 => ?_) | (refine SX.to (fun w hw => hw.perm (List.Perm.swap _ _ _)) ?_; refine SX.freezeRow fun g10 hle10 hs10 => ?_)
    have hi10 : Ints g10 v47 ([1] ++ ns) := hs10
    obtain ⟨q47, d47, rfl⟩ := SlA.form hi10
    refine SX.br2 5 12 (by kernel_rfl) ?_ ?_
    ·refine SB.o (i := 5) rfl (SO.call call28 rfl (few_spec E g10 _ _ _ M ([1] ++ ns) (hxc9.mono hle10) hfm hi10)) dC (.inr (by rintro v48 g11 _ ⟨rfl, hle11, hi11⟩; exact ⟨by exact Le.trans (by assumption) (by assumption), (by exact .refl _)⟩)) ?_
     rintro v48 g11 _ ⟨rfl, hle11, hi11⟩
     obtain ⟨q48, d48, rfl⟩ := SlA.form hi11
     have hle911 := hle10.trans hle11
     have hbi := SlA.based hi11 (by simp [fewC])
     refine SX.u (i := 6) rfl (by kernel_rfl) (SU.indexAddr underlying45 sizeOf3 rfl rfl hbi dC (by simp [slen, fewC])) dC ?_
     refine SX.br2 7 12 (by kernel_rfl) ?_ ?_
     ·refine SB.o (i := 7) rfl ((SQ.elem1 (j := (0 : Int).toNat) (a := fewV M 1) isAgg3 rfl (SlA.rd hi11) rfl rfl).so) dC (.inr (by rintro _ _ _ ⟨rfl, rfl, rfl⟩; exact ⟨by assumption, (by exact .refl _)⟩)) ?_
      rintro _ _ _ ⟨rfl, rfl, rfl⟩
      refine SX.br2 8 12 (by kernel_rfl) ?_ ?_
      ·refine SB.o (i := 8) rfl (SO.call call31 rfl (find_new E _ _ _ M (fewV M 1) ((hxc9.mono hle10).mono hle11) hfm)) dC (.inr (by rintro _ g12 _ ⟨rfl, hle12, x, rfl, hx⟩; exact ⟨by exact Le.trans (by assumption) (by assumption), (by exact .refl _)⟩)) ?_
       rintro _ g12 _ ⟨rfl, hle12, x, rfl, hx⟩
       obtain ⟨xi, xd, ⟨xp, xn, xv⟩⟩ := x
       have hxn := rk_slen hx.2.2
       have hxw := (hx.mono (mns_anti (hlec9.trans (hle10.trans hle11)))).ws
       refine SX.u (i := 9) rfl (by kernel_rfl) (SU.move rfl) dC (SX.u (i := 10) rfl (by kernel_rfl) (SU.extract rfl rfl) dC (SX.u (i := 11) rfl (by kernel_rfl) (SU.extract rfl rfl) dC ?_))
       refine SX.br1 12 (by kernel_rfl) ?_
       ·refine SB.o (i := 12) rfl (SO.alloc zeroValue51) dC (.inr (by rintro _ _ _ ⟨b13, rfl, rfl, rfl⟩; exact ⟨by exact Le.trans (by assumption) (by assumption), (by exact .cons _ (.refl _))⟩)) ?_
        rintro _ _ _ ⟨b13, rfl, rfl, rfl⟩
        refine SX.br1 13 (by kernel_rfl) ?_
        ·refine SB.on (i := 13) rfl (SO.storeAllK 0 sizeOf51 rfl rfl rfl rfl rfl (by exact ⟨rfl, rfl, rfl, trivial⟩)) (.inr (by rintro _ _ _ ⟨rfl, rfl⟩; exact ⟨by exact Le.trans (by assumption) (by assumption), (by exact .cons _ (.refl _))⟩)) ?_
         rintro _ _ _ ⟨rfl, rfl⟩
         refine SX.u (i := 14) rfl (by kernel_rfl) (SU.assign rfl) dC (SX.nil (by kernel_rfl) ?_)
         exact ST.mid (b13, xi, xd, xp, xn, xv, g12) ⟨rfl, rfl, rfl, rfl, rfl, rfl, rfl, rfl, trivial⟩ rfl rfl ⟨hle10.trans (hle11.trans hle12), by have h9 := hxn; dsimp only at h9; rw [h9]; exact hbound _ rfl, hxw⟩
      ·refine SB.o (i := 12) rfl (SO.alloc zeroValue51) dC (.inr (by rintro _ _ _ ⟨b13, rfl, rfl, rfl⟩; exact ⟨by assumption, (by exact .cons _ (.refl _))⟩)) ?_
       rintro _ _ _ ⟨b13, rfl, rfl, rfl⟩
       refine SX.br1 8 (by kernel_rfl) ?_
       ·refine SB.o (i := 8) rfl (SO.call call31 rfl (find_new E _ _ _ M (fewV M 1) ((hxc9.mono hle10).mono hle11) hfm)) dC (.inr (by rintro _ g12 _ ⟨rfl, hle12, x, rfl, hx⟩; exact ⟨by exact Le.trans (by assumption) (by assumption), (by exact .cons _ (.refl _))⟩)) ?_
        rintro _ g12 _ ⟨rfl, hle12, x, rfl, hx⟩
        obtain ⟨xi, xd, ⟨xp, xn, xv⟩⟩ := x
        have hxn := rk_slen hx.2.2
        have hxw := (hx.mono (mns_anti (hlec9.trans (hle10.trans hle11)))).ws
        refine SX.u (i := 9) rfl (by kernel_rfl) (SU.move rfl) dC (SX.u (i := 10) rfl (by kernel_rfl) (SU.extract rfl rfl) dC (SX.u (i := 11) rfl (by kernel_rfl) (SU.extract rfl rfl) dC ?_))
        refine SX.br1 13 (by kernel_rfl) ?_
        ·refine SB.on (i := 13) rfl (SO.storeAllK 0 sizeOf51 rfl rfl rfl rfl rfl (by exact ⟨rfl, rfl, rfl, trivial⟩)) (.inr (by rintro _ _ _ ⟨rfl, rfl⟩; exact ⟨by exact Le.trans (by assumption) (by assumption), (by exact .cons _ (.refl _))⟩)) ?_
         rintro _ _ _ ⟨rfl, rfl⟩
         refine SX.u (i := 14) rfl (by kernel_rfl) (SU.assign rfl) dC (SX.nil (by kernel_rfl) ?_)
         exact ST.mid (b13, xi, xd, xp, xn, xv, g12) ⟨rfl, rfl, rfl, rfl, rfl, rfl, rfl, rfl, trivial⟩ rfl rfl ⟨hle10.trans (hle11.trans hle12), by have h9 := hxn; dsimp only at h9; rw [h9]; exact hbound _ rfl, hxw⟩
     ·refine SB.o (i := 12) rfl (SO.alloc zeroValue51) dC (.inr (by rintro _ _ _ ⟨b13, rfl, rfl, rfl⟩; exact ⟨by assumption, (by exact .cons _ (.refl _))⟩)) ?_
      rintro _ _ _ ⟨b13, rfl, rfl, rfl⟩
      refine SX.br1 7 (by kernel_rfl) ?_
      ·refine SB.o (i := 7) rfl ((SQ.elem1 (j := (0 : Int).toNat) (a := fewV M 1) isAgg3 rfl (SlA.rd hi11) rfl rfl).so) dC (.inr (by rintro _ _ _ ⟨rfl, rfl, rfl⟩; exact ⟨by assumption, (by exact .cons _ (.refl _))⟩)) ?_
       rintro _ _ _ ⟨rfl, rfl, rfl⟩
       refine SX.br1 8 (by kernel_rfl) ?_
       ·refine SB.o (i := 8) rfl (SO.call call31 rfl (find_new E _ _ _ M (fewV M 1) ((hxc9.mono hle10).mono hle11) hfm)) dC (.inr (by rintro _ g12 _ ⟨rfl, hle12, x, rfl, hx⟩; exact ⟨by exact Le.trans (by assumption) (by assumption), (by exact .cons _ (.refl _))⟩)) ?_
        rintro _ g12 _ ⟨rfl, hle12, x, rfl, hx⟩
        obtain ⟨xi, xd, ⟨xp, xn, xv⟩⟩ := x
        have hxn := rk_slen hx.2.2
        have hxw := (hx.mono (mns_anti (hlec9.trans (hle10.trans hle11)))).ws
        refine SX.u (i := 9) rfl (by kernel_rfl) (SU.move rfl) dC (SX.u (i := 10) rfl (by kernel_rfl) (SU.extract rfl rfl) dC (SX.u (i := 11) rfl (by kernel_rfl) (SU.extract rfl rfl) dC ?_))
        refine SX.br1 13 (by kernel_rfl) ?_
        ·refine SB.on (i := 13) rfl (SO.storeAllK 0 sizeOf51 rfl rfl rfl rfl rfl (by exact ⟨rfl, rfl, rfl, trivial⟩)) (.inr (by rintro _ _ _ ⟨rfl, rfl⟩; exact ⟨by exact Le.trans (by assumption) (by assumption), (by exact .cons _ (.refl _))⟩)) ?_
         rintro _ _ _ ⟨rfl, rfl⟩
         refine SX.u (i := 14) rfl (by kernel_rfl) (SU.assign rfl) dC (SX.nil (by kernel_rfl) ?_)
         exact ST.mid (b13, xi, xd, xp, xn, xv, g12) ⟨rfl, rfl, rfl, rfl, rfl, rfl, rfl, rfl, trivial⟩ rfl rfl ⟨hle10.trans (hle11.trans hle12), by have h9 := hxn; dsimp only at h9; rw [h9]; exact hbound _ rfl, hxw⟩
    ·refine SB.o (i := 12) rfl (SO.alloc zeroValue51) dC (.inr (by rintro _ _ _ ⟨b13, rfl, rfl, rfl⟩; exact ⟨by assumption, (by exact .cons _ (.refl _))⟩)) ?_
     rintro _ _ _ ⟨b13, rfl, rfl, rfl⟩
     refine SX.br1 5 (by kernel_rfl) ?_
     ·refine SB.o (i := 5) rfl (SO.call call28 rfl (few_spec E g10 _ _ _ M ([1] ++ ns) (hxc9.mono hle10) hfm hi10)) dC (.inr (by rintro v48 g11 _ ⟨rfl, hle11, hi11⟩; exact ⟨by exact Le.trans (by assumption) (by assumption), (by exact .cons _ (.refl _))⟩)) ?_
      rintro v48 g11 _ ⟨rfl, hle11, hi11⟩
      obtain ⟨q48, d48, rfl⟩ := SlA.form hi11
      have hle911 := hle10.trans hle11
      have hbi := SlA.based hi11 (by simp [fewC])
      refine SX.u (i := 6) rfl (by kernel_rfl) (SU.indexAddr underlying45 sizeOf3 rfl rfl hbi dC (by simp [slen, fewC])) dC ?_
      refine SX.br1 7 (by kernel_rfl) ?_
      ·refine SB.o (i := 7) rfl ((SQ.elem1 (j := (0 : Int).toNat) (a := fewV M 1) isAgg3 rfl (SlA.rd hi11) rfl rfl).so) dC (.inr (by rintro _ _ _ ⟨rfl, rfl, rfl⟩; exact ⟨by assumption, (by exact .cons _ (.refl _))⟩)) ?_
       rintro _ _ _ ⟨rfl, rfl, rfl⟩
       refine SX.br1 8 (by kernel_rfl) ?_
       ·refine SB.o (i := 8) rfl (SO.call call31 rfl (find_new E _ _ _ M (fewV M 1) ((hxc9.mono hle10).mono hle11) hfm)) dC (.inr (by rintro _ g12 _ ⟨rfl, hle12, x, rfl, hx⟩; exact ⟨by exact Le.trans (by assumption) (by assumption), (by exact .cons _ (.refl _))⟩)) ?_
        rintro _ g12 _ ⟨rfl, hle12, x, rfl, hx⟩
        obtain ⟨xi, xd, ⟨xp, xn, xv⟩⟩ := x
        have hxn := rk_slen hx.2.2
        have hxw := (hx.mono (mns_anti (hlec9.trans (hle10.trans hle11)))).ws
        refine SX.u (i := 9) rfl (by kernel_rfl) (SU.move rfl) dC (SX.u (i := 10) rfl (by kernel_rfl) (SU.extract rfl rfl) dC (SX.u (i := 11) rfl (by kernel_rfl) (SU.extract rfl rfl) dC ?_))
        refine SX.br1 13 (by kernel_rfl) ?_
        ·refine SB.on (i := 13) rfl (SO.storeAllK 0 sizeOf51 rfl rfl rfl rfl rfl (by exact ⟨rfl, rfl, rfl, trivial⟩)) (.inr (by rintro _ _ _ ⟨rfl, rfl⟩; exact ⟨by exact Le.trans (by assumption) (by assumption), (by exact .cons _ (.refl _))⟩)) ?_
         rintro _ _ _ ⟨rfl, rfl⟩
         refine SX.u (i := 14) rfl (by kernel_rfl) (SU.assign rfl) dC (SX.nil (by kernel_rfl) ?_)
         exact ST.mid (b13, xi, xd, xp, xn, xv, g12) ⟨rfl, rfl, rfl, rfl, rfl, rfl, rfl, rfl, trivial⟩ rfl rfl ⟨hle10.trans (hle11.trans hle12), by have h9 := hxn; dsimp only at h9; rw [h9]; exact hbound _ rfl, hxw⟩
   ·refine SB.o (i := 12) rfl (SO.alloc zeroValue51) dC (.inr (by rintro _ _ _ ⟨b13, rfl, rfl, rfl⟩; exact ⟨by exact Le.refl _, (by exact .cons _ (.cons _ (.refl _)))⟩)) ?_
    rintro _ _ _ ⟨b13, rfl, rfl, rfl⟩
    refine SX.br1 4 (by kernel_rfl) ?_
    ·refine SB.o (i := 4) rfl ((by exact SO.appA (e := encInt) (l := [1]) (m := ns) 1 sty45 rfl rfl rfl hi9 (by simp; omega) (by simp; omega))) dC (.inr (by rintro v47 _ _ ⟨rfl, rfl⟩; exact ⟨by exact Le.refl _, (by exact .cons _ (.cons _ (.refl _)))⟩)) ?_
     rintro v47 _ _ ⟨rfl, rfl⟩
     first | (refine SX.freezeRow (n := _) (m := ([1] ++ ns).length) (k := 1) (v := v47) fun g10 hle10 hs10 => ?_) | (refine SX.to (fun w hw => hw.perm (List.Perm.swap _ _ _)) ?_; refine SX.freezeRow fun g10 hle10 hs10 => ?_)
     have hi10 : Ints g10 v47 ([1] ++ ns) := hs10
     obtain ⟨q47, d47, rfl⟩ := SlA.form hi10
     refine SX.br1 5 (by kernel_rfl) ?_
     ·refine SB.o (i := 5) rfl (SO.call call28 rfl (few_spec E g10 _ _ _ M ([1] ++ ns) (hxc9.mono hle10) hfm hi10)) dC (.inr (by rintro v48 g11 _ ⟨rfl, hle11, hi11⟩; exact ⟨by exact Le.trans (by assumption) (by assumption), (by exact .cons _ (.refl _))⟩)) ?_
      rintro v48 g11 _ ⟨rfl, hle11, hi11⟩
      obtain ⟨q48, d48, rfl⟩ := SlA.form hi11
      have hle911 := hle10.trans hle11
      have hbi := SlA.based hi11 (by simp [fewC])
      refine SX.u (i := 6) rfl (by kernel_rfl) (SU.indexAddr underlying45 sizeOf3 rfl rfl hbi dC (by simp [slen, fewC])) dC ?_
      refine SX.br1 7 (by kernel_rfl) ?_
      ·refine SB.o (i := 7) rfl ((SQ.elem1 (j := (0 : Int).toNat) (a := fewV M 1) isAgg3 rfl (SlA.rd hi11) rfl rfl).so) dC (.inr (by rintro _ _ _ ⟨rfl, rfl, rfl⟩; exact ⟨by assumption, (by exact .cons _ (.refl _))⟩)) ?_
       rintro _ _ _ ⟨rfl, rfl, rfl⟩
       refine SX.br1 8 (by kernel_rfl) ?_
       ·refine SB.o (i := 8) rfl (SO.call call31 rfl (find_new E _ _ _ M (fewV M 1) ((hxc9.mono hle10).mono hle11) hfm)) dC (.inr (by rintro _ g12 _ ⟨rfl, hle12, x, rfl, hx⟩; exact ⟨by exact Le.trans (by assumption) (by assumption), (by exact .cons _ (.refl _))⟩)) ?_
        rintro _ g12 _ ⟨rfl, hle12, x, rfl, hx⟩
        obtain ⟨xi, xd, ⟨xp, xn, xv⟩⟩ := x
        have hxn := rk_slen hx.2.2
        have hxw := (hx.mono (mns_anti (hlec9.trans (hle10.trans hle11)))).ws
        refine SX.u (i := 9) rfl (by kernel_rfl) (SU.move rfl) dC (SX.u (i := 10) rfl (by kernel_rfl) (SU.extract rfl rfl) dC (SX.u (i := 11) rfl (by kernel_rfl) (SU.extract rfl rfl) dC ?_))
        refine SX.br1 13 (by kernel_rfl) ?_
        ·refine SB.on (i := 13) rfl (SO.storeAllK 0 sizeOf51 rfl rfl rfl rfl rfl (by exact ⟨rfl, rfl, rfl, trivial⟩)) (.inr (by rintro _ _ _ ⟨rfl, rfl⟩; exact ⟨by exact Le.trans (by assumption) (by assumption), (by exact .cons _ (.refl _))⟩)) ?_
         rintro _ _ _ ⟨rfl, rfl⟩
         refine SX.u (i := 14) rfl (by kernel_rfl) (SU.assign rfl) dC (SX.nil (by kernel_rfl) ?_)
         exact ST.mid (b13, xi, xd, xp, xn, xv, g12) ⟨rfl, rfl, rfl, rfl, rfl, rfl, rfl, rfl, trivial⟩ rfl rfl ⟨hle10.trans (hle11.trans hle12), by have h9 := hxn; dsimp only at h9; rw [h9]; exact hbound _ rfl, hxw⟩
  ·refine SB.o (i := 12) rfl (SO.alloc zeroValue51) dC (.inr (by rintro _ _ _ ⟨b13, rfl, rfl, rfl⟩; exact ⟨by exact Le.refl _, (by exact .cons _ (.refl _))⟩)) ?_
   rintro _ _ _ ⟨b13, rfl, rfl, rfl⟩
   refine SX.br1 2 (by kernel_rfl) ?_
   ·refine SB.o (i := 2) rfl (SO.buildSlice sty45 rfl rfl rfl (szs_mk ⟨rfl, trivial⟩) dC) dC (.inr (by rintro _ _ _ ⟨b45, rfl, rfl, rfl⟩; exact ⟨by exact Le.refl _, (by exact .cons _ (.cons _ (.refl _)))⟩)) ?_
    rintro _ _ _ ⟨b45, rfl, rfl, rfl⟩
    refine SX.to (fun w hw => At.litRow (e := encInt) (l := [1]) (n := 0) hw rfl rfl dC) ?_
    refine SX.br1 4 (by kernel_rfl) ?_
    ·refine SB.o (i := 4) rfl ((by exact SO.appA (e := encInt) (l := [1]) (m := ns) 0 sty45 rfl rfl rfl hi9 (by simp; omega) (by simp; omega))) dC (.inr (by rintro v47 _ _ ⟨rfl, rfl⟩; exact ⟨by exact Le.refl _, (by exact .cons _ (.cons _ (.refl _)))⟩)) ?_
     rintro v47 _ _ ⟨rfl, rfl⟩
     first | (refine SX.freezeRow (n := _) (m := ([1] ++ ns).length) (k := 1) (v := v47) fun g10 hle10 hs10 => ?_) | (refine SX.to (fun w hw => hw.perm (List.Perm.swap _ _ _)) ?_; refine SX.freezeRow fun g10 hle10 hs10 => ?_)
     have hi10 : Ints g10 v47 ([1] ++ ns) := hs10
     obtain ⟨q47, d47, rfl⟩ := SlA.form hi10
     refine SX.br1 5 (by kernel_rfl) ?_
     ·refine SB.o (i := 5) rfl (SO.call call28 rfl (few_spec E g10 _ _ _ M ([1] ++ ns) (hxc9.mono hle10) hfm hi10)) dC (.inr (by rintro v48 g11 _ ⟨rfl, hle11, hi11⟩; exact ⟨by exact Le.trans (by assumption) (by assumption), (by exact .cons _ (.refl _))⟩)) ?_
      rintro v48 g11 _ ⟨rfl, hle11, hi11⟩
      obtain ⟨q48, d48, rfl⟩ := SlA.form hi11
      have hle911 := hle10.trans hle11
      have hbi := SlA.based hi11 (by simp [fewC])
      refine SX.u (i := 6) rfl (by kernel_rfl) (SU.indexAddr underlying45 sizeOf3 rfl rfl hbi dC (by simp [slen, fewC])) dC ?_
      refine SX.br1 7 (by kernel_rfl) ?_
      ·refine SB.o (i := 7) rfl ((SQ.elem1 (j := (0 : Int).toNat) (a := fewV M 1) isAgg3 rfl (SlA.rd hi11) rfl rfl).so) dC (.inr (by rintro _ _ _ ⟨rfl, rfl, rfl⟩; exact ⟨by assumption, (by exact .cons _ (.refl _))⟩)) ?_
       rintro _ _ _ ⟨rfl, rfl, rfl⟩
       refine SX.br1 8 (by kernel_rfl) ?_
       ·refine SB.o (i := 8) rfl (SO.call call31 rfl (find_new E _ _ _ M (fewV M 1) ((hxc9.mono hle10).mono hle11) hfm)) dC (.inr (by rintro _ g12 _ ⟨rfl, hle12, x, rfl, hx⟩; exact ⟨by exact Le.trans (by assumption) (by assumption), (by exact .cons _ (.refl _))⟩)) ?_
        rintro _ g12 _ ⟨rfl, hle12, x, rfl, hx⟩
        obtain ⟨xi, xd, ⟨xp, xn, xv⟩⟩ := x
        have hxn := rk_slen hx.2.2
        have hxw := (hx.mono (mns_anti (hlec9.trans (hle10.trans hle11)))).ws
        refine SX.u (i := 9) rfl (by kernel_rfl) (SU.move rfl) dC (SX.u (i := 10) rfl (by kernel_rfl) (SU.extract rfl rfl) dC (SX.u (i := 11) rfl (by kernel_rfl) (SU.extract rfl rfl) dC ?_))
        refine SX.br1 13 (by kernel_rfl) ?_
        ·refine SB.on (i := 13) rfl (SO.storeAllK 0 sizeOf51 rfl rfl rfl rfl rfl (by exact ⟨rfl, rfl, rfl, trivial⟩)) (.inr (by rintro _ _ _ ⟨rfl, rfl⟩; exact ⟨by exact Le.trans (by assumption) (by assumption), (by exact .cons _ (.refl _))⟩)) ?_
         rintro _ _ _ ⟨rfl, rfl⟩
         refine SX.u (i := 14) rfl (by kernel_rfl) (SU.assign rfl) dC (SX.nil (by kernel_rfl) ?_)
         exact ST.mid (b13, xi, xd, xp, xn, xv, g12) ⟨rfl, rfl, rfl, rfl, rfl, rfl, rfl, rfl, trivial⟩ rfl rfl ⟨hle10.trans (hle11.trans hle12), by have h9 := hxn; dsimp only at h9; rw [h9]; exact hbound _ rfl, hxw⟩
 rintro ⟨b13, xi, xd, xp, xn, xv, g12⟩ ⟨hle912, hxn, hxw⟩
 dsimp only at hle912 hxn hxw ⊢
 obtain ⟨AL, hAL⟩ : ∃ AL : List (Sv × List Sv), AL = [(⟨pA, nA, cA⟩, sA), (⟨pB, nB, cB⟩, sB), (⟨pU, nU, cU⟩, sU), (⟨pE, nE, cE⟩, sE)] := ⟨_, rfl⟩
 have hALl : AL.length = 4 := by rw [hAL]; rfl
 have hall : ∀ q ∈ AL, Wr gc g12 (.slice q.1.p q.1.n q.1.c) q.2 ∧ q.1.n = q.2.length ∧ q.2.length < 1099511627776 ∧ ∀ x ∈ q.2, x.n < 1099511627776 := by
  intro q hq
  rw [hAL] at hq
  simp only [List.mem_cons, List.not_mem_nil, or_false] at hq
  rcases hq with rfl | rfl | rfl | rfl
  ·exact ⟨hwA9.mono hle912, hnA, hA1, hA2⟩
  ·exact ⟨hwB9.mono hle912, hnB, hB1, hB2⟩
  ·exact ⟨hwU9.mono hle912, hnU, hU1, hU2⟩
  ·exact ⟨hwE.mono hle912, hnE, hE1, hE2⟩
 have hlec12 := hlec9.trans hle912
 refine SC.seq (SC.seq (SC.region (SL.A rfl (SL.nil (ST.thenN (SC.block ?_))))))
 refine SC.loop (ι := PH × Nat) (fun i => [(5, vb true), (6, pp b6 0), (7, pp b7 0), (8, pp b8 0), (9, pp b9 0), (10, pp b10 0), (12, pp b12 0), (13, pp b13 0), (15, vi i.2)]) (fun i => i.1) (fun _ => pt b13 (.cells #[vi xi, vi xd, .slice xp xn xv] 51 (0, 0)) :: pt b12 (.cells #[.slice pE nE cE] 27 (0, 0)) :: pt b10 (.cells #[.slice pU nU cU] 27 (0, 0)) :: pt b9 (.cells #[.slice pB nB cB] 27 (0, 0)) :: pt b8 (.cells #[.slice pA nA cA] 27 (0, 0)) :: pt b7 (.cells #[.slice qb M.length db] 27 (0, 0)) :: pt b6 (.cells #[.slice qc M.length dc] 27 (0, 0)) :: pt b2 (.cells #[vi kd, .slice p n c, vi y] 40 (0, 0)) :: s)
  (fun i => Keep gc g12 i.1 ∧ i.2 ≤ xn) (fun i => xn - i.2) (g12, 0) ⟨rfl, rfl, rfl, rfl, rfl, rfl, rfl, rfl, rfl, trivial⟩ rfl rfl ⟨Keep.refl hlec12, Nat.zero_le _⟩ ?_
 rintro ⟨h, k⟩ ⟨hk, hkn⟩
 dsimp only at hk hkn ⊢
 refine SC.seq (SC.seq (SC.region (SL.M rfl (SL.U (SU.fieldAddr underlying51 rfl sizeOf49 rfl) (SL.K (SQ.load (v := .slice xp xn xv) isAgg49 rfl (CellAt.own 0 rfl rfl)) (SL.U (SU.lenN underlying49 rfl) (SL.U (SU.lss rfl rfl) (SL.nil (ST.thenN ?_)))))))))
 refine SC.ifP rfl (fun hlt => ?_) (fun hlt => ?_)
 ·have hbs := ws_based hxw oM
  refine SC.skip (ST.thenN (SC.seq (SC.block (SC.region (SL.U (SU.fieldAddr underlying51 rfl sizeOf49 rfl) (SL.K (SQ.load (v := .slice xp xn xv) isAgg49 rfl (CellAt.own 0 rfl rfl)) (SL.M rfl (SL.U (SU.build rfl (buildZ55)) (SL.U (SU.indexAddr underlying49 sizeOf55 rfl rfl hbs oM sL) (SL.on (SO.wside ⟨0, 0⟩ rfl rfl hk.1 (hk.2.1 _ hxw) oM) ?_))))))))))
  rintro _ h2 _ ⟨rfl, hk2⟩
  refine SL.nil (ST.blockN (ST.thenN (SC.region (SL.M rfl (SL.U (SU.add rfl rfl oM) (SL.A rfl (SL.nil ?_)))))))
  exact ST.again (h2, k + 1) ⟨rfl, rfl, rfl, rfl, rfl, rfl, rfl, rfl, rfl, trivial⟩ rfl rfl ⟨hk.trans hk2, oM⟩ (by dsimp only; omega)
 ·clear hkn
  refine SC.exit (ST.thenX (ST.thenX (ST.blockX (ST.thenN (SC.seq (SC.region (SL.K (SQ.loadVarK 4 isAgg27 sizeOf27 rfl rfl rfl) (SL.K (SQ.loadVarK 3 isAgg27 sizeOf27 rfl rfl rfl) (SL.K (SQ.loadVarK 2 isAgg27 sizeOf27 rfl rfl rfl) (SL.K (SQ.loadVarK 1 isAgg27 sizeOf27 rfl rfl rfl) (SL.W (SO.buildSlice sty58 rfl rfl rfl (szs_mk ⟨rfl, rfl, rfl, rfl, trivial⟩) dC) ?_)))))))))))
  rintro _ _ _ ⟨b70, rfl, rfl, rfl⟩
  refine SL.to (g' := h) (s' := rowA encSv 27 (.slice (some ⟨b70, 0, none⟩) 4 4) (AL.map Prod.fst) :: pt b13 (.cells #[vi xi, vi xd, .slice xp xn xv] 51 (0, 0)) :: pt b12 (.cells #[.slice pE nE cE] 27 (0, 0)) :: pt b10 (.cells #[.slice pU nU cU] 27 (0, 0)) :: pt b9 (.cells #[.slice pB nB cB] 27 (0, 0)) :: pt b8 (.cells #[.slice pA nA cA] 27 (0, 0)) :: pt b7 (.cells #[.slice qb M.length db] 27 (0, 0)) :: pt b6 (.cells #[.slice qc M.length dc] 27 (0, 0)) :: pt b2 (.cells #[vi kd, .slice p n c, vi y] 40 (0, 0)) :: s) (fun w hw => by rw [hAL]; exact At.litRow (e := encSv) (n := 3) hw rfl rfl dC) ?_
  refine SL.A rfl (SL.nil (ST.thenN (SC.seq (SC.seq (SC.region (SL.A rfl (SL.nil (ST.thenN (SC.block ?_)))))))))
  refine SC.loop (ι := PH × Nat) (fun i => [(5, vb true), (6, pp b6 0), (7, pp b7 0), (16, .slice (some ⟨b70, 0, none⟩) 4 4), (17, vi i.2)]) (fun i => i.1) (fun _ => rowA encSv 27 (.slice (some ⟨b70, 0, none⟩) 4 4) (AL.map Prod.fst) :: pt b13 (.cells #[vi xi, vi xd, .slice xp xn xv] 51 (0, 0)) :: pt b12 (.cells #[.slice pE nE cE] 27 (0, 0)) :: pt b10 (.cells #[.slice pU nU cU] 27 (0, 0)) :: pt b9 (.cells #[.slice pB nB cB] 27 (0, 0)) :: pt b8 (.cells #[.slice pA nA cA] 27 (0, 0)) :: pt b7 (.cells #[.slice qb M.length db] 27 (0, 0)) :: pt b6 (.cells #[.slice qc M.length dc] 27 (0, 0)) :: pt b2 (.cells #[vi kd, .slice p n c, vi y] 40 (0, 0)) :: s)
   (fun i => Keep gc g12 i.1 ∧ i.2 ≤ 4) (fun i => 4 - i.2) (h, 0) ⟨rfl, rfl, rfl, rfl, rfl, trivial⟩ rfl rfl ⟨hk, Nat.zero_le _⟩ ?_
  clear hk hlt k
  rintro ⟨h, i⟩ ⟨hk, hi4⟩
  dsimp only at hk hi4 ⊢
  refine SC.seq (SC.seq (SC.region (SL.M rfl (SL.M rfl (SL.U (SU.lenN underlying58 rfl) (SL.U (SU.lss rfl rfl) (SL.nil (ST.thenN ?_))))))))
  refine SC.ifP rfl (fun hlt2 => ?_) (fun hlt2 => ?_)
  ·have hil : i < AL.length := oM
   obtain ⟨q, hq⟩ : ∃ q, q = AL[i] := ⟨_, rfl⟩
   have hqm : q ∈ AL := by rw [hq]; exact List.getElem_mem hil
   have hgq : (AL.map Prod.fst)[((i : Nat) : Int).toNat]? = some q.1 := by rw [hq]; simp [hil]
   obtain ⟨hw0, hq1, hq2, hq3⟩ := hall q hqm
   clear hq
   obtain ⟨⟨qp, qn, qcp⟩, svs⟩ := q
   dsimp only at hw0 hq1 hq2 hq3 hgq
   refine SC.skip (ST.thenN (SC.seq (SC.block (SC.seq (SC.region (SL.A rfl (SL.nil (ST.thenN (SC.block ?_)))))))))
   refine SC.loop (ι := PH × Nat) (fun i' => [(5, vb true), (6, pp b6 0), (7, pp b7 0), (16, .slice (some ⟨b70, 0, none⟩) 4 4), (17, vi i), (18, vi i'.2)]) (fun i' => i'.1) (fun _ => rowA encSv 27 (.slice (some ⟨b70, 0, none⟩) 4 4) (AL.map Prod.fst) :: pt b13 (.cells #[vi xi, vi xd, .slice xp xn xv] 51 (0, 0)) :: pt b12 (.cells #[.slice pE nE cE] 27 (0, 0)) :: pt b10 (.cells #[.slice pU nU cU] 27 (0, 0)) :: pt b9 (.cells #[.slice pB nB cB] 27 (0, 0)) :: pt b8 (.cells #[.slice pA nA cA] 27 (0, 0)) :: pt b7 (.cells #[.slice qb M.length db] 27 (0, 0)) :: pt b6 (.cells #[.slice qc M.length dc] 27 (0, 0)) :: pt b2 (.cells #[vi kd, .slice p n c, vi y] 40 (0, 0)) :: s)
    (fun i' => Keep gc g12 i'.1 ∧ i'.2 ≤ qn) (fun i' => qn - i'.2) (h, 0) ⟨rfl, rfl, rfl, rfl, rfl, rfl, trivial⟩ rfl rfl ⟨hk, Nat.zero_le _⟩ ?_
   rintro ⟨h, k⟩ ⟨hk, hkn⟩
   dsimp only at hk hkn ⊢
   refine SC.seq (SC.seq (SC.region (SL.M rfl (SL.M rfl (SL.M rfl (SL.U (SU.indexAddr underlying58 sizeOf27 rfl rfl rfl oM sL) (SL.U (SU.fieldAddrC underlying27 rfl sizeOf25 rfl rfl) (SL.K (SQ.partA (e := encSv) (o := 0) (u := .slice qp qn qcp) isAgg25 rfl (Rd.rowA 0 rfl) hgq rfl) (SL.U (SU.lenN underlying25 rfl) (SL.U (SU.lss rfl rfl) (SL.nil (ST.thenN ?_))))))))))))
   refine SC.ifP rfl (fun hlt3 => ?_) (fun hlt3 => ?_)
   ·have hks : k < svs.length := oM
    obtain ⟨x, hx⟩ : ∃ x, x = svs[k] := ⟨_, rfl⟩
    have hxm : x ∈ svs := by rw [hx]; exact List.getElem_mem hks
    have hx3 := hq3 x hxm
    obtain ⟨zp, zn, zc⟩ := x
    dsimp only at hx3
    refine SC.skip (ST.thenN (SC.seq (SC.block (SC.seq (SC.seq (SC.region (SL.A rfl (SL.nil (ST.thenN (SC.block ?_))))))))))
    refine SC.loop (ι := PH × Nat) (fun i' => [(5, vb true), (6, pp b6 0), (7, pp b7 0), (16, .slice (some ⟨b70, 0, none⟩) 4 4), (17, vi i), (18, vi k), (19, vi i'.2)]) (fun i' => i'.1) (fun _ => rowA encSv 27 (.slice (some ⟨b70, 0, none⟩) 4 4) (AL.map Prod.fst) :: pt b13 (.cells #[vi xi, vi xd, .slice xp xn xv] 51 (0, 0)) :: pt b12 (.cells #[.slice pE nE cE] 27 (0, 0)) :: pt b10 (.cells #[.slice pU nU cU] 27 (0, 0)) :: pt b9 (.cells #[.slice pB nB cB] 27 (0, 0)) :: pt b8 (.cells #[.slice pA nA cA] 27 (0, 0)) :: pt b7 (.cells #[.slice qb M.length db] 27 (0, 0)) :: pt b6 (.cells #[.slice qc M.length dc] 27 (0, 0)) :: pt b2 (.cells #[vi kd, .slice p n c, vi y] 40 (0, 0)) :: s)
     (fun i' => Keep gc g12 i'.1 ∧ i'.2 ≤ zn) (fun i' => zn - i'.2) (h, 0) ⟨rfl, rfl, rfl, rfl, rfl, rfl, rfl, trivial⟩ rfl rfl ⟨hk, Nat.zero_le _⟩ ?_
    rintro ⟨h, j⟩ ⟨hk, hjn⟩
    dsimp only at hk hjn ⊢
    have hw1 := hk.2.2 _ _ hw0
    obtain ⟨rs, hrs0, hsv, hws⟩ := hw1
    have hrs := hrs0.sl.mono (mns_le _ _)
    have hrl := rk_slen hrs0
    have hbr := hrs.based oM
    have hkr : k < rs.length := oM
    obtain ⟨r, hr⟩ : ∃ r, r = rs[k] := ⟨_, rfl⟩
    have hgr : rs[((k : Nat) : Int).toNat]? = some r := by rw [hr]; exact List.getElem?_eq_getElem hkr
    have hrx : r.sv = ⟨zp, zn, zc⟩ := by rw [hx, hr]; simp [← hsv]
    obtain ⟨ri, rd, rsv⟩ := r
    dsimp only at hrx
    subst hrx
    refine SC.seq (SC.seq (SC.region (SL.M rfl (SL.M rfl (SL.M rfl (SL.U (SU.indexAddr underlying58 sizeOf27 rfl rfl rfl oM sL) (SL.U (SU.fieldAddrC underlying27 rfl sizeOf25 rfl rfl) (SL.K (SQ.partA (e := encSv) (o := 0) (u := .slice qp qn qcp) isAgg25 rfl (Rd.rowA 0 rfl) hgq rfl) (SL.M rfl (SL.U (SU.indexAddr underlying25 sizeOf51 rfl rfl hbr oM sL) (SL.U (SU.fieldAddrC underlying51 rfl sizeOf49 rfl hbr) (SL.K (SQ.partA (e := encCell) (o := 2) (u := .slice zp zn zc) isAgg49 rfl hrs.rd hgr rfl) (SL.U (SU.lenN underlying49 rfl) (SL.U (SU.lss rfl rfl) (SL.nil (ST.thenN ?_))))))))))))))))
    refine SC.ifP rfl (fun hlt4 => ?_) (fun hlt4 => ?_)
    ·have hbz := ws_based (hws _ hxm) oM
     refine SC.skip (ST.thenN (SC.seq (SC.block (SC.region (SL.M rfl (SL.M rfl (SL.U (SU.indexAddr underlying58 sizeOf27 rfl rfl rfl oM sL) (SL.U (SU.fieldAddrC underlying27 rfl sizeOf25 rfl rfl) (SL.K (SQ.partA (e := encSv) (o := 0) (u := .slice qp qn qcp) isAgg25 rfl (Rd.rowA 0 rfl) hgq rfl) (SL.M rfl (SL.U (SU.indexAddr underlying25 sizeOf51 rfl rfl hbr oM sL) (SL.U (SU.fieldAddrC underlying51 rfl sizeOf49 rfl hbr) (SL.K (SQ.partA (e := encCell) (o := 2) (u := .slice zp zn zc) isAgg49 rfl hrs.rd hgr rfl) (SL.M rfl (SL.U (SU.build rfl (buildN55)) (SL.U (SU.indexAddr underlying49 sizeOf55 rfl rfl hbz oM sL) (SL.on (SO.wside ⟨-1, 0⟩ rfl rfl hk.1 (hws _ hxm) oM) ?_)))))))))))))))))
     rintro _ h2 _ ⟨rfl, hk2⟩
     refine SL.nil (ST.blockN (ST.thenN (SC.region (SL.M rfl (SL.U (SU.add rfl rfl oM) (SL.A rfl (SL.nil ?_)))))))
     exact ST.again (h2, j + 1) ⟨rfl, rfl, rfl, rfl, rfl, rfl, rfl, trivial⟩ rfl rfl ⟨hk.trans hk2, oM⟩ (by dsimp only; omega)
    ·clear hjn
     refine SC.exit (ST.thenX (ST.thenX (ST.blockX (ST.thenN (SC.region (SL.M rfl (SL.M rfl (SL.U (SU.indexAddr underlying58 sizeOf27 rfl rfl rfl oM sL) (SL.U (SU.fieldAddrC underlying27 rfl sizeOf25 rfl rfl) (SL.K (SQ.partA (e := encSv) (o := 0) (u := .slice qp qn qcp) isAgg25 rfl (Rd.rowA 0 rfl) hgq rfl) (SL.M rfl (SL.U (SU.indexAddr underlying25 sizeOf51 rfl rfl hbr oM sL) (SL.U (SU.fieldAddrC underlying51 rfl sizeOf3 rfl hbr) (SL.on (SO.wid (svs := svs) (-1) rfl rfl hk.1 (hk.2.2 _ _ hw0) oM) ?_))))))))))))))
     rintro _ h2 _ ⟨rfl, hk2⟩
     refine SL.nil (ST.blockN (ST.thenN (SC.region (SL.M rfl (SL.U (SU.add rfl rfl oM) (SL.A rfl (SL.nil ?_)))))))
     exact ST.again (h2, k + 1) ⟨rfl, rfl, rfl, rfl, rfl, rfl, trivial⟩ rfl rfl ⟨hk.trans hk2, oM⟩ (by dsimp only; omega)
   ·refine SC.exit (ST.thenX (ST.thenX (ST.blockX (ST.blockN (ST.thenN (SC.region (SL.M rfl (SL.U (SU.add rfl rfl oM) (SL.A rfl (SL.nil ?_))))))))))
    exact ST.again (h, i + 1) ⟨rfl, rfl, rfl, rfl, rfl, trivial⟩ rfl rfl ⟨hk, oM⟩ (by dsimp only; omega)
  ·refine SC.exit (ST.thenX (ST.thenX (ST.blockX (ST.thenN (SC.seq (SC.region (SL.M rfl (SL.M rfl (SL.gq (Gd.onT rfl rfl rfl dC) (SQ.loadVarK 7 isAgg27 sizeOf27 rfl rfl rfl) dC (SL.gq (Gd.onT rfl rfl rfl dC) (SQ.loadVarK 6 isAgg27 sizeOf27 rfl rfl rfl) dC (SL.go (Gd.onT rfl rfl rfl dC) (SO.call call13 rfl (lawSame_refl E h _ _ _ M (hxc4.mono hk.1) (hxb.mono hk.1) hfm)) dC ?_)))))))))))
   rintro _ _ _ ⟨rfl, rfl, rfl⟩
   refine SL.U (SU.pickT rfl rfl) (SL.A rfl (SL.nil (ST.thenN (SC.ret (ST.drop (s' := s) (.cons _ (.cons _ (.cons _ (.cons _ (.cons _ (.cons _ (.cons _ (.cons _ (.cons _ (.refl _)))))))))) ?_)))))
   exact ST.ret1 (.inl rfl) results8 rfl ⟨rfl, rfl, hle14.trans hk.1⟩
end Go.Proofs.YtkdibcicncjpdaaGreat
namespace Go.Proofs.YtkdibcicncjpdaaGreat.cellsOwnDone
open _root_.Go.Proofs.Tryz _root_.Go.Proofs.YtkdibcicncjpdaaGreat.Tryz
open Go Go.Sy Go.Pl Go.Proofs Go.Proofs.YtkdibcicncjpdaaGreat
open Go.ChangeShapes Go.WideShapes Go.ChangeAt Go.RowKit
set_option linter.unusedVariables false
theorem own : ownKnob Tryz.prog.godebug = none := by kernel_rfl
theorem laidOut : laidOutB Tryz.prog = true := by kernel_rfl
set_option maxRecDepth 100000 in
theorem lifted (os : Os) (started : os.Started) (H : Type) (enc : TypeId × Value → H) :
  ReturnsInHanded {} Tryz.checked os 8 .any (Rows.cellsOwnSpec.pre6 enc Tryz.prog f8 Rows.cellsOwnRow.domain false) (Rows.cellsOwnSpec.post enc Tryz.prog f8 false true false false) := by
 refine returnsInHanded_of_change_sized (C := Tryz.checked) own started (by kernel_rfl) func8
  (ChangeSpec.witness6 (enc := enc) (C := Tryz.checked) false ⟨#[], #[.agg #[.int .i64 0, .slice none 0 0, .int .i64 0], .slice none 0 0], []⟩ 8 (by kernel_rfl) (by kernel_rfl) (by kernel_rfl) (by kernel_rfl)) ?_
 intro W base args ds gs before hval0 hW hcnd hsz0 _
 have hval : ∀ (j : Nat) t v, f8.params[j]? = some t → args[j]? = some v → Value.okWide Tryz.prog W .any base t v := hval0
 have hsz : (DataW.weightsEach Tryz.prog (f8.params.toList ++ Rows.cellsOwnSpec.plain.varTypes Tryz.prog) (ds ++ gs)).all (· ≤ reachBytes) = true := hsz0
 have hW' := hW
 obtain ⟨p, q, hA0, hV, rfl, hfz, hnd⟩ := hW
 have hA : DataW.TrodAll enc Tryz.prog W 0 (fun _ => true) true f8.params.toList args.toList ds p := hA0
 rw [params8] at hA hval hsz
 obtain ⟨v0, vs0, d0, ds0, p0, q0, hargs, rfl, rfl, h0, r0⟩ := trodAll_cons hA
 obtain ⟨v1, vs1, d1, ds1, p1, q1, rfl, rfl, rfl, h1, r1⟩ := trodAll_cons r0
 obtain ⟨rfl, rfl, rfl⟩ := trodAll_nil r1
 obtain rfl : args = #[v0, v1] := by cases args; simp_all
 obtain ⟨rfl, rfl⟩ := trodVars_none hV
 have lt0 : ∀ x ∈ p0, x.block < W.heap.size := by obtain ⟨m, hm⟩ := h0; exact DataW.trod_lt m _ _ _ hm
 have lt1 : ∀ x ∈ p1, x.block < W.heap.size := by obtain ⟨m, hm⟩ := h1; exact DataW.trod_lt m _ _ _ hm
 have hw1 : ∀ n ∈ d1.weights Tryz.prog 45, n ≤ reachBytes := fun n hn => by
  rw [List.all_eq_true] at hsz
  have := hsz n (by
   show n ∈ DataW.weightsEach Tryz.prog (40 :: 45 :: _) (d0 :: d1 :: _)
   unfold DataW.weightsEach
   refine List.mem_append.2 (.inr ?_)
   unfold DataW.weightsEach
   exact List.mem_append.2 (.inl hn))
  simpa using this
 obtain ⟨kd, y, u, ls, e0, hls⟩ := shape_of (hval 0 40 v0 rfl rfl) h0
 clear hA0 hval0 hsz hsz0
 have walk : Calls Tryz.prog 8 #[v0, v1] W fun e w' => e = .returned (.bool true) ∧ Below W.heap.size W w' := by
  obtain ⟨a1, n1, c1, rfl⟩ := okWide_slice underlying45 (hval 1 45 v1 rfl rfl)
  obtain ⟨f1, hf1⟩ := h1
  obtain ⟨ns, r, hr, hns, hnl⟩ := ints_le (v := .slice a1 n1 c1) hf1 hw1
  rw [e0]
  refine (cellsOwn_spec (E0 W) rfl (held W) [] u _ kd y ls ns hls hns hnl W (at_start W)).mono ?_
  rintro e w' ⟨v, g', s', rfl, hat, rfl, rfl, hle⟩
  exact ⟨rfl, at_below hat hle⟩
 refine walk.mono fun e W' ⟨he, bel⟩ => ?_
 subst he
 exact ⟨_, rfl, _, _, _, [], _, [], hW', trodAll_mk1 (shut_bool underlying4 _), (trodAll_cons_mk (Below.trod laidOut (by kernel_rfl) (of_decide_eq_true (by kernel_rfl)) h0 bel lt0) (trodAll_cons_mk (Below.trod laidOut (by kernel_rfl) (of_decide_eq_true (by kernel_rfl)) h1 bel lt1) trodAll_mk0)), rfl, bel.frame _, fun h => by cases h⟩
theorem over : Rows.cellsOwnRow.holds Tryz.pinned (OpenSpec.ofChange Rows.cellsOwnSpec) :=
 OpenClaim.holds_of_wide 8 f8 rfl rfl rfl rfl rfl rfl rfl ⟨rfl, rfl, rfl, rfl, rfl⟩ rfl rfl rfl rfl rfl (by kernel_rfl) func8 (by kernel_rfl)
  (of_decide_eq_true (by kernel_rfl)) (by unfold Func.isWrapper; first | (rw [if_pos (by decide +kernel)]; kernel_rfl) | (rw [if_neg (by decide +kernel)]; exact ⟨rfl, rfl⟩))
  (fun os started H enc _ => lifted os started H enc)
theorem proved : Rows.CellsOwnSaid := over
#print axioms proved
end Go.Proofs.YtkdibcicncjpdaaGreat.cellsOwnDone
