/- Mad5 Spo1 Spo2 Frm LSam FndS SyR Mee1 Mee3 Frm2 Sec2 Par2 Shu -/
import Derived.Test.YtkdibcicncjpdaaGreatDoorOr09
import Derived.Test.YtkdibcicncjpdaaGreatDoorOr06
import Derived.Test.YtkdibcicncjpdaaGreatDoorRows
import Derived.WalkKit
import Derived.ProofKit
import Derived.OpenShut
import Derived.ShutString
import Derived.ChangeOld
import Derived.Below
import Derived.Deep.Slices
import Derived.Lib.SmallJoins
import Derived.Laws.IdiomArrays
import Derived.Test.YtkdibcicncjpdaaGreatDoorOr07
import Derived.Test.YtkdibcicncjpdaaGreatDoorOr08
import Derived.Test.YtkdibcicncjpdaaGreatDoorOr03
import Derived.Test.YtkdibcicncjpdaaGreatDoorOr05
import Derived.SizedLaws
import Derived.Test.YtkdibcicncjpdaaGreatDoorOr04
set_option linter.unusedSimpArgs false
set_option linter.unusedVariables false
namespace Go.Proofs.YtkdibcicncjpdaaGreatDoor
open _root_.Go.Proofs.Tryz _root_.Go.Proofs.YtkdibcicncjpdaaGreatDoor.Tryz
open Go Go.Sy Go.Pl Go.Proofs
set_option maxRecDepth 100000
set_option maxHeartbeats 1000000
def three (j : Int) : List (List Int):=if j = 0 then [[0,1]] else if j = 1 then [[0,1],[1,2]] else [[0,1],[1,2],[0,2]]
def sel3 (j : Int) (a b c : Value) : Value:=if j = 0 then a else if j = 1 then b else c
theorem sel3_get {j : Int} (h : 0 ≤ j ∧ j < 3) (a b c : Value) : #[a,b,c][0 + j.toNat * 1]? = some (sel3 j a b c):=by
 rcases (by omega : j = 0 ∨ j = 1 ∨ j = 2) with rfl | rfl | rfl <;> rfl
theorem three_lists {g : PH} {j : Int} (h : 0 ≤ j ∧ j < 3) {a b c : Value} (ha : Lists g a [[0,1]]) (hb : Lists g b [[0,1],[1,2]]) (hc : Lists g c [[0,1],[1,2],[0,2]]) : Lists g (sel3 j a b c) (three j):=by
 rcases (by omega : j = 0 ∨ j = 1 ∨ j = 2) with rfl | rfl | rfl
 ·exact ha
 ·exact hb
 ·exact hc
theorem three_small (j : Int) : (three j).length ≤ 3 ∧ ∀ x ∈ three j,x.length ≤ 2:=by
 unfold three
 split
 ·exact ⟨by decide,by decide⟩
 ·split
  ·exact ⟨by decide,by decide⟩
  ·exact ⟨by decide,by decide⟩
theorem surf_small (y : Int) : 4 ≤ (surfC y).length ∧ (surfC y).length ≤ 14 ∧ ∀ x ∈ surfC y,x.length ≤ 3:=by
 unfold surfC
 split
 ·exact ⟨by decide,by decide,by decide⟩
 ·split
  ·exact ⟨by decide,by decide,by decide⟩
  ·refine ⟨by rw [surf2_length]; decide,by rw [surf2_length]; decide,fun x hx=>?_⟩
   obtain ⟨i,_,hx⟩:=List.mem_flatMap.1 hx
   simp at hx
   rcases hx with rfl | rfl <;> simp
def baseM (m : Int) (ls : List (List Int)) (y : Int) : List Cl :=
 if m = 3 then simpC (surfC y) else if m = 4 then refProdC (simpC (three (modW y 3))) (simpC (three (modW (IntKind.i64.wrap (y.tdiv 3)) 3)))
 else if m = 5 then polyC (2 + modW y 5).toNat else if m = 6 then refProdC (refProdC (simpC [[0,1]]) (simpC [[0,1]])) (simpC [[0,1]])
 else if m = 7 then simpC (setsC ls ++ (surfC y).take (2 + modW y 2).toNat) else simpC (setsC ls)
theorem baseM_fits (m : Int) (ls : List (List Int)) (y : Int) : Fits (baseM m ls y):=by
 unfold baseM
 have h5:=modW_range y 5 dC dC
 repeat' split
 ·exact (simpC_fits _).1
 ·exact (refProdC_fits _ _).1
 ·exact canonC_fits (polyAll_fits oM).1
 ·exact (refProdC_fits _ _).1
 ·exact (simpC_fits _).1
 ·exact (simpC_fits _).1
def bigC (b : List Cl) : List Cl:=if (b.length : Int) > 45 then torusC else b
def madeC (kd : Int) (ls : List (List Int)) (y : Int) : List Cl:=renC (bigC (baseM (modW kd 8) ls y)) y
theorem Tryz.build72 (p1 : Option Addr) (n1 c1 : Nat) (p2 : Option Addr) (n2 c2 : Nat) (p3 : Option Addr) (n3 c3 : Nat) (w : World) : (Instr.build 72 #[(0,.slice p1 n1 c1),(1,.slice p2 n2 c2),(2,.slice p3 n3 c3)]).run Tryz.prog w = .ok (.agg #[.slice p1 n1 c1,.slice p2 n2 c2,.slice p3 n3 c3]) w:=by
 have hz : (Value.agg #[Value.slice none 0 0,Value.slice none 0 0,Value.slice none 0 0]).cells = #[.slice none 0 0,.slice none 0 0,.slice none 0 0]:=rfl
 have h1 : (Value.slice p1 n1 c1).cells = #[.slice p1 n1 c1]:=rfl
 have h2 : (Value.slice p2 n2 c2).cells = #[.slice p2 n2 c2]:=rfl
 have h3 : (Value.slice p3 n3 c3).cells = #[.slice p3 n3 c3]:=rfl
 simp [Instr.build,Instr.fill,hz,h1,h2,h3]
theorem made_spec (E : World) (g : PH) (s : Own) (v : Value) (kd y : Int) (ls : List (List Int)) (hv : Lists g v ls) :
  Ctr Tryz.prog E 7 #[.agg #[vi kd,v,vi y]] g s (fun r g' s'=>s = s' ∧ Le g g' ∧ ∃ x,r = .agg #[x] ∧ Cells g' x (madeC kd ls y)):=by
 obtain ⟨p,n,c,rfl⟩ : ∃ p n c,v = .slice p n c:=by
  obtain ⟨rs0,hrs0,_⟩:=hv
  obtain ⟨p,c,rfl⟩:=SlA.form hrs0
  exact ⟨_,_,_,I⟩
 have hm8:=modW_range kd 8 dC dC
 have hy3:=modW_range y 3 dC dC
 have hy33:=modW_range (IntKind.i64.wrap (y.tdiv 3)) 3 dC dC
 have hy5:=modW_range y 5 dC dC
 have hy2:=modW_range y 2 dC dC
 have hss:=sets_small ls
 have hsf:=surf_small y
 unfold madeC
 have hfit:=baseM_fits (modW kd 8) ls y
 refine Ctr.of (args:=[.agg #[vi kd,.slice p n c,vi y]]) func7 I ntmps7 (bE I) ?_
 refine SC.sR (SL.bx (bO I) fun b1=>?_)
 refine SL.bx (aL zeroValue31) fun b2=>?_
 refine SL.nT (SC.sR (SL.bx (aL zeroValue31) fun b3=>?_))
 refine SL.nT ?_
 refine SC.to (fun w hw=>hw) (g':=g) (s':=pt b3 (.cells #[.slice none 0 0] 31 (0,0)) :: pt b2 (.cells #[.slice none 0 0] 31 (0,0)) :: pt b1 (.cells #[vi kd,.slice p n c,vi y] 24 (0,0)) :: s) ?_
 refine SC.cut (ι:=PH × Value) (fun _=>[(1,pp b1 0),(2,pp b2 0),(3,pp b3 0)]) (fun i=>i.1) (fun i=>pt b3 (.cells #[i.2] 31 (0,0)) :: pt b2 (.cells #[.slice none 0 0] 31 (0,0)) :: pt b1 (.cells #[vi kd,.slice p n c,vi y] 24 (0,0)) :: s) (fun i=>Le g i.1 ∧ Cells i.1 i.2 (baseM (modW kd 8) ls y)) ?_ ?_
 ·rcases (by omega : (modW kd 8 = 0 ∨ modW kd 8 = 1 ∨ modW kd 8 = 2) ∨ modW kd 8 = 3 ∨ modW kd 8 = 4 ∨ modW kd 8 = 5 ∨ modW kd 8 = 6 ∨ modW kd 8 = 7) with (hm | hm | hm) | hm | hm | hm | hm | hm
  ·refine SC.sR (lU (fA uT24 I zT3 I) (lK (qL (v:=vi kd) iT3 I (cO 2 I I)) (lW (cL kT34 I (mod_spec E g _ _ 8 dC)) ?_)))
   rintro _ _ _ ⟨rfl,rfl,rfl⟩
   rw [hm]
   refine SL.nT (bK (sQ (SC.sR (lU (eQ I I) (lA I (SL.nT (cT I (kP (tN (cT I (rG (lU (fA uT24 I sizeOf22 I) (lK (qL (v:=.slice p n c) isAgg22 I (cO 2 I I)) (lW (cL call36 I (sets_spec E g _ _ ls hv)) ?_))))))))))))))
   rintro v16 g1 _ ⟨rs1,rfl,hle1,hall1⟩
   refine fR fun g2 hle2 hs2=>?_
   have hls : Lists g2 v16 (setsC ls):=⟨rs1,hs2,hall1.mono fun _ _=>ListR.mono hle2⟩
   refine lW (cL call35 I (refSimplicial_spec E g2 _ _ _ hls oM (fun x hx=>by have:=hss.2 x hx; omega))) ?_
   rintro _ g3 _ ⟨rfl,hle3,u,rfl,hu⟩
   obtain ⟨q,d,rfl⟩:=hu.form
   refine SL.O2 (sK 0 zT31 I I I I I sB) ?_
   refine nL (bN ?_)
   exact ST.mid (g3,_) sB I I ⟨hle1.trans (hle2.trans hle3),hu⟩
  ·refine SC.sR (lU (fA uT24 I zT3 I) (lK (qL (v:=vi kd) iT3 I (cO 2 I I)) (lW (cL kT34 I (mod_spec E g _ _ 8 dC)) ?_)))
   rintro _ _ _ ⟨rfl,rfl,rfl⟩
   rw [hm]
   refine SL.nT (bK (sQ (SC.sR (lU (eQ I I) (lA I (SL.nT (cF I (SC.sR (lU (eQ I I) (lA I (SL.nT (cT I (kP (tN (cT I (rG (lU (fA uT24 I sizeOf22 I) (lK (qL (v:=.slice p n c) isAgg22 I (cO 2 I I)) (lW (cL call36 I (sets_spec E g _ _ ls hv)) ?_)))))))))))))))))))
   rintro v16 g1 _ ⟨rs1,rfl,hle1,hall1⟩
   refine fR fun g2 hle2 hs2=>?_
   have hls : Lists g2 v16 (setsC ls):=⟨rs1,hs2,hall1.mono fun _ _=>ListR.mono hle2⟩
   refine lW (cL call35 I (refSimplicial_spec E g2 _ _ _ hls oM (fun x hx=>by have:=hss.2 x hx; omega))) ?_
   rintro _ g3 _ ⟨rfl,hle3,u,rfl,hu⟩
   obtain ⟨q,d,rfl⟩:=hu.form
   refine SL.O2 (sK 0 zT31 I I I I I sB) ?_
   refine nL (bN ?_)
   exact ST.mid (g3,_) sB I I ⟨hle1.trans (hle2.trans hle3),hu⟩
  ·refine SC.sR (lU (fA uT24 I zT3 I) (lK (qL (v:=vi kd) iT3 I (cO 2 I I)) (lW (cL kT34 I (mod_spec E g _ _ 8 dC)) ?_)))
   rintro _ _ _ ⟨rfl,rfl,rfl⟩
   rw [hm]
   refine SL.nT (bK (sQ (SC.sR (lU (eQ I I) (lA I (SL.nT (cF I (SC.sR (lU (eQ I I) (lA I (SL.nT (cF I (rG (lU (eQ I I) (lA I (SL.nT (cT I (rG (lU (fA uT24 I sizeOf22 I) (lK (qL (v:=.slice p n c) isAgg22 I (cO 2 I I)) (lW (cL call36 I (sets_spec E g _ _ ls hv)) ?_)))))))))))))))))))))
   rintro v16 g1 _ ⟨rs1,rfl,hle1,hall1⟩
   refine fR fun g2 hle2 hs2=>?_
   have hls : Lists g2 v16 (setsC ls):=⟨rs1,hs2,hall1.mono fun _ _=>ListR.mono hle2⟩
   refine lW (cL call35 I (refSimplicial_spec E g2 _ _ _ hls oM (fun x hx=>by have:=hss.2 x hx; omega))) ?_
   rintro _ g3 _ ⟨rfl,hle3,u,rfl,hu⟩
   obtain ⟨q,d,rfl⟩:=hu.form
   refine SL.O2 (sK 0 zT31 I I I I I sB) ?_
   refine nL (bN ?_)
   exact ST.mid (g3,_) sB I I ⟨hle1.trans (hle2.trans hle3),hu⟩
  ·refine SC.sR (lU (fA uT24 I zT3 I) (lK (qL (v:=vi kd) iT3 I (cO 2 I I)) (lW (cL kT34 I (mod_spec E g _ _ 8 dC)) ?_)))
   rintro _ _ _ ⟨rfl,rfl,rfl⟩
   rw [hm]
   refine SL.nT (bK (sQ (SC.sR (lU (eQ I I) (lA I (SL.nT (cF I (SC.sR (lU (eQ I I) (lA I (SL.nT (cF I (rG (lU (eQ I I) (lA I (SL.nT (cF I (SC.sR (lU (eQ I I) (lA I (SL.nT ?_)))))))))))))))))))))
   refine cT I (rG (lU (fA uT24 I zT3 I) (lK (qL (v:=vi y) iT3 I (cO 2 I I)) (lW (cL call37 I (surface_spec E g _ y)) ?_))))
   rintro v22 g1 _ ⟨rfl,hle1,hls⟩
   refine lW (cL call35 I (refSimplicial_spec E g1 _ _ _ hls oM (fun x hx=>by have:=hsf.2.2 x hx; omega))) ?_
   rintro _ g3 _ ⟨rfl,hle3,u,rfl,hu⟩
   obtain ⟨q,d,rfl⟩:=hu.form
   refine SL.O2 (sK 0 zT31 I I I I I sB) ?_
   refine nL (bN ?_)
   exact ST.mid (g3,_) sB I I ⟨hle1.trans hle3,hu⟩
  ·refine SC.sR (lU (fA uT24 I zT3 I) (lK (qL (v:=vi kd) iT3 I (cO 2 I I)) (lW (cL kT34 I (mod_spec E g _ _ 8 dC)) ?_)))
   rintro _ _ _ ⟨rfl,rfl,rfl⟩
   rw [hm]
   refine SL.nT (bK (sQ (SC.sR (lU (eQ I I) (lA I (SL.nT (cF I (SC.sR (lU (eQ I I) (lA I (SL.nT (cF I (rG (lU (eQ I I) (lA I (SL.nT (cF I (SC.sR (lU (eQ I I) (lA I (SL.nT ?_)))))))))))))))))))))
   refine cF I (SC.sR (lU (eQ I I) (lA I (SL.nT (cT I (SC.sR (lU (fA uT24 I zT3 I) (lK (qL (v:=vi y) iT3 I (cO 2 I I)) (lW (cL kT34 I (mod_spec E g _ _ 3 dC)) ?_)))))))))
   rintro _ _ _ ⟨rfl,rfl,rfl⟩
   refine lA I (SL.nT (SC.sR (lW (bS sty27 I I I (szs_mk sB) dC) ?_)))
   rintro _ _ _ ⟨b29,rfl,rfl,rfl⟩
   refine SL.freeze fun g1 hle1 hb29=>?_
   refine lW (bS sty22 I I I (szs_mk ⟨I,trivial⟩) dC) ?_
   rintro _ _ _ ⟨b30,rfl,rfl,rfl⟩
   refine SL.freeze fun g2 hle2 hb30=>?_
   have hlit30 : Lists g2 (.slice (some ⟨b30,0,none⟩) 1 1) [[0,1]]:=⟨[svOf (.slice (some ⟨b29,0,none⟩) 2 2)],SlA.lit hb30 rfl rfl,⟨SlA.lit (hle2 _ _ hb29) rfl rfl,trivial⟩⟩
   refine lW (bS sty27 I I I (szs_mk sB) dC) ?_
   rintro _ _ _ ⟨b31,rfl,rfl,rfl⟩
   refine SL.freeze fun g3 hle3 hb31=>?_
   refine lW (bS sty27 I I I (szs_mk sB) dC) ?_
   rintro _ _ _ ⟨b32,rfl,rfl,rfl⟩
   refine SL.freeze fun g4 hle4 hb32=>?_
   refine lW (bS sty22 I I I (szs_mk sB) dC) ?_
   rintro _ _ _ ⟨b33,rfl,rfl,rfl⟩
   refine SL.freeze fun g5 hle5 hb33=>?_
   have hlit33 : Lists g5 (.slice (some ⟨b33,0,none⟩) 2 2) [[0,1],[1,2]]:=⟨[svOf (.slice (some ⟨b31,0,none⟩) 2 2),svOf (.slice (some ⟨b32,0,none⟩) 2 2)],SlA.lit hb33 rfl rfl,⟨SlA.lit (hle5 _ _ (hle4 _ _ hb31)) rfl rfl,SlA.lit (hle5 _ _ hb32) rfl rfl,trivial⟩⟩
   refine lW (bS sty27 I I I (szs_mk sB) dC) ?_
   rintro _ _ _ ⟨b34,rfl,rfl,rfl⟩
   refine SL.freeze fun g6 hle6 hb34=>?_
   refine lW (bS sty27 I I I (szs_mk sB) dC) ?_
   rintro _ _ _ ⟨b35,rfl,rfl,rfl⟩
   refine SL.freeze fun g7 hle7 hb35=>?_
   refine lW (bS sty27 I I I (szs_mk sB) dC) ?_
   rintro _ _ _ ⟨b36,rfl,rfl,rfl⟩
   refine SL.freeze fun g8 hle8 hb36=>?_
   refine lW (bS sty22 I I I (szs_mk sB) dC) ?_
   rintro _ _ _ ⟨b37,rfl,rfl,rfl⟩
   refine SL.freeze fun g9 hle9 hb37=>?_
   have hlit37 : Lists g9 (.slice (some ⟨b37,0,none⟩) 3 3) [[0,1],[1,2],[0,2]]:=⟨[svOf (.slice (some ⟨b34,0,none⟩) 2 2),svOf (.slice (some ⟨b35,0,none⟩) 2 2),svOf (.slice (some ⟨b36,0,none⟩) 2 2)],SlA.lit hb37 rfl rfl,⟨SlA.lit (hle9 _ _ (hle8 _ _ (hle7 _ _ hb34))) rfl rfl,SlA.lit (hle9 _ _ (hle8 _ _ hb35)) rfl rfl,SlA.lit (hle9 _ _ hb36) rfl rfl,trivial⟩⟩
   refine lU (SU.build I (build72 _ _ _ _ _ _ _ _ _)) (SL.bx (aL zeroValue72) fun b5=>?_)
   refine SL.O2 (sK 0 sizeOf72 I I I I I sB) ?_
   refine SL.nT ?_
   have hl1:=three_lists hy3 (hlit30.mono (hle3.trans (hle4.trans (hle5.trans (hle6.trans (hle7.trans (hle8.trans hle9))))))) (hlit33.mono (hle6.trans (hle7.trans (hle8.trans hle9)))) hlit37
   have hl2:=three_lists hy33 (hlit30.mono (hle3.trans (hle4.trans (hle5.trans (hle6.trans (hle7.trans (hle8.trans hle9))))))) (hlit33.mono (hle6.trans (hle7.trans (hle8.trans hle9)))) hlit37
   refine SC.to (fun w hw=>hw) (g':=g9) (s':=pt b5 (.cells #[.slice (some ⟨b30,0,none⟩) 1 1,.slice (some ⟨b33,0,none⟩) 2 2,.slice (some ⟨b37,0,none⟩) 3 3] 72 (0,0)) :: pt b3 (.cells #[.slice none 0 0] 31 (0,0)) :: pt b2 (.cells #[.slice none 0 0] 31 (0,0)) :: pt b1 (.cells #[vi kd,.slice p n c,vi y] 24 (0,0)) :: s) ?_
   refine dW [12] [(0,2),(1,2),(2,1),(4,2),(5,1),(6,2),(3,0),(7,0),(8,2),(9,1),(10,0),(11,0),(12,0)] Tryz.mixed (by kernel_rfl) ?_
   refine pU rfl (mV rfl) (pU rfl (iB underlying72 sizeOf22 rfl rfl oM oM) (pK rfl (qL (v:=sel3 (modW y 3) (.slice (some ⟨b30,0,none⟩) 1 1) (.slice (some ⟨b33,0,none⟩) 2 2) (.slice (some ⟨b37,0,none⟩) 3 3)) isAgg22 rfl (cO 0 rfl (sel3_get hy3 _ _ _))) (pU rfl (fA uT24 rfl zT3 rfl) (pK rfl (qL (v:=vi y) iT3 rfl (cO 3 rfl rfl)) (pU rfl (SU.quo rfl rfl dC) (SP.o rfl (cL call35 rfl (refSimplicial_spec E g9 _ _ _ hl1 (by have:=(three_small (modW y 3)).1; omega) (fun x hx=>by have:=(three_small (modW y 3)).2 x hx; omega))) dC (.inr (by rintro _ ga _ ⟨rfl,hlea,ua,rfl,hua⟩; exact ⟨by assumption,(by exact .refl _)⟩)) ?_))))))
   rintro _ ga _ ⟨rfl,hlea,ua,rfl,hua⟩
   obtain ⟨qa,da,rfl⟩:=hua.form
   refine SP.o rfl (cL kT34 rfl (mod_spec E ga _ _ 3 dC)) dC (.inr (by rintro _ _ _ ⟨rfl,rfl,rfl⟩; exact ⟨by assumption,(by exact .refl _)⟩)) ?_
   rintro _ _ _ ⟨rfl,rfl,rfl⟩
   refine pU rfl (iB underlying72 sizeOf22 rfl rfl oM oM) (pK rfl (qL (v:=sel3 (modW (IntKind.i64.wrap (y.tdiv 3)) 3) (.slice (some ⟨b30,0,none⟩) 1 1) (.slice (some ⟨b33,0,none⟩) 2 2) (.slice (some ⟨b37,0,none⟩) 3 3)) isAgg22 rfl (cO 0 rfl (sel3_get hy33 _ _ _))) (SP.o rfl (cL call35 rfl (refSimplicial_spec E ga _ _ _ (hl2.mono hlea) (by have:=(three_small (modW (IntKind.i64.wrap (y.tdiv 3)) 3)).1; omega) (fun x hx=>by have:=(three_small (modW (IntKind.i64.wrap (y.tdiv 3)) 3)).2 x hx; omega))) dC (.inr (by rintro _ gb _ ⟨rfl,hleb,ub,rfl,hub⟩; exact ⟨by exact Le.trans (by assumption) (by assumption),(by exact .refl _)⟩)) ?_))
   rintro _ gb _ ⟨rfl,hleb,ub,rfl,hub⟩
   obtain ⟨qb,db,rfl⟩:=hub.form
   have hleab:=hlea.trans hleb
   refine SP.o rfl (cL call38 rfl (refProduct_spec E gb _ _ _ _ _ (hua.mono hleb) hub (simpC_fits _).1 (simpC_fits _).1)) dC (.inr (by rintro _ gc _ ⟨rfl,hlec,uc,rfl,huc⟩; exact ⟨by exact Le.trans (by assumption) (by assumption),(by exact .refl _)⟩)) ?_
   rintro _ gc _ ⟨rfl,hlec,uc,rfl,huc⟩
   obtain ⟨qc,dc,rfl⟩:=huc.form
   refine SP.on I (sK 1 zT31 I I I I I sB) (.inl dC) ?_
   rintro _ _ _ ⟨rfl,rfl⟩
   refine pN (bN (dR (s':=pt b3 (.cells #[(Value.slice qc _ dc)] 31 (0,0)) :: pt b2 (.cells #[.slice none 0 0] 31 (0,0)) :: pt b1 (.cells #[vi kd,.slice p n c,vi y] 24 (0,0)) :: s) (.cons _ (.refl _)) ?_))
   exact ST.mid (gc,_) sB I I ⟨(hle1.trans (hle2.trans (hle3.trans (hle4.trans (hle5.trans (hle6.trans (hle7.trans (hle8.trans hle9)))))))).trans (hlea.trans (hleb.trans hlec)),huc⟩
  ·refine SC.sR (lU (fA uT24 I zT3 I) (lK (qL (v:=vi kd) iT3 I (cO 2 I I)) (lW (cL kT34 I (mod_spec E g _ _ 8 dC)) ?_)))
   rintro _ _ _ ⟨rfl,rfl,rfl⟩
   rw [hm]
   refine SL.nT (bK (sQ (SC.sR (lU (eQ I I) (lA I (SL.nT (cF I (SC.sR (lU (eQ I I) (lA I (SL.nT (cF I (rG (lU (eQ I I) (lA I (SL.nT (cF I (SC.sR (lU (eQ I I) (lA I (SL.nT ?_)))))))))))))))))))))
   refine cF I (SC.sR (lU (eQ I I) (lA I (SL.nT (cF I (SC.sR (lU (eQ I I) (lA I (SL.nT (cT I (rG (lU (fA uT24 I zT3 I) (lK (qL (v:=vi y) iT3 I (cO 2 I I)) (lW (cL kT34 I (mod_spec E g _ _ 5 dC)) ?_))))))))))))))
   rintro _ _ _ ⟨rfl,rfl,rfl⟩
   refine lU (SU.eq (v':=vi (((2 + modW y 5).toNat : Nat) : Int)) (aD I I oM) (congrArg vi oM)) (lW (cL call39 I (polygon_spec E g _ (2 + modW y 5).toNat oM oM)) ?_)
   rintro _ g3 _ ⟨rfl,hle3,u,rfl,hu⟩
   obtain ⟨q,d,rfl⟩:=hu.form
   refine SL.O2 (sK 0 zT31 I I I I I sB) ?_
   refine nL (bN ?_)
   exact ST.mid (g3,_) sB I I ⟨hle3,hu⟩
  ·refine SC.sR (lU (fA uT24 I zT3 I) (lK (qL (v:=vi kd) iT3 I (cO 2 I I)) (lW (cL kT34 I (mod_spec E g _ _ 8 dC)) ?_)))
   rintro _ _ _ ⟨rfl,rfl,rfl⟩
   rw [hm]
   refine SL.nT (bK (sQ (SC.sR (lU (eQ I I) (lA I (SL.nT (cF I (SC.sR (lU (eQ I I) (lA I (SL.nT (cF I (rG (lU (eQ I I) (lA I (SL.nT (cF I (SC.sR (lU (eQ I I) (lA I (SL.nT ?_)))))))))))))))))))))
   refine cF I (SC.sR (lU (eQ I I) (lA I (SL.nT (cF I (SC.sR (lU (eQ I I) (lA I (SL.nT (cF I (SC.sR (lU (eQ I I) (lA I (SL.nT (cT I (SC.sR (lW (bS sty27 I I I (szs_mk sB) dC) ?_)))))))))))))))))
   rintro _ _ _ ⟨b60,rfl,rfl,rfl⟩
   refine SL.freeze fun g1 hle1 hb60=>?_
   refine lW (bS sty22 I I I (szs_mk ⟨I,trivial⟩) dC) ?_
   rintro _ _ _ ⟨b61,rfl,rfl,rfl⟩
   refine SL.freeze fun g2 hle2 hb61=>?_
   have hlit61 : Lists g2 (.slice (some ⟨b61,0,none⟩) 1 1) [[0,1]]:=⟨[svOf (.slice (some ⟨b60,0,none⟩) 2 2)],SlA.lit hb61 rfl rfl,⟨SlA.lit (hle2 _ _ hb60) rfl rfl,trivial⟩⟩
   refine lW (cL call35 I (refSimplicial_spec E g2 _ _ _ hlit61 dC dC)) ?_
   rintro _ ga _ ⟨rfl,hlea,ua,rfl,hua⟩
   obtain ⟨qa,da,rfl⟩:=hua.form
   refine SL.bx (aL zeroValue31) fun b6=>?_
   refine SL.O2 (sK 0 zT31 I I I I I sB) ?_
   refine SL.nT ?_
   refine SC.to (fun w hw=>hw) (g':=ga) (s':=pt b6 (.cells #[.slice qa (simpC [[0,1]]).length da] 31 (0,0)) :: pt b3 (.cells #[.slice none 0 0] 31 (0,0)) :: pt b2 (.cells #[.slice none 0 0] 31 (0,0)) :: pt b1 (.cells #[vi kd,.slice p n c,vi y] 24 (0,0)) :: s) ?_
   refine dW [5] [(0,1),(1,1),(3,1),(2,0),(4,0),(5,0)] Tryz.mixed (by kernel_rfl) ?_
   refine pK rfl (qV 0 iT31 zT31 rfl rfl rfl) (pK rfl (qV 0 iT31 zT31 rfl rfl rfl) (pK rfl (qV 0 iT31 zT31 rfl rfl rfl) (SP.o rfl (cL call38 rfl (refProduct_spec E ga _ _ _ _ _ hua hua (simpC_fits _).1 (simpC_fits _).1)) dC (.inr (by rintro _ gb _ ⟨rfl,hleb,ub,rfl,hub⟩; exact ⟨by assumption,(by exact .refl _)⟩)) ?_)))
   rintro _ gb _ ⟨rfl,hleb,ub,rfl,hub⟩
   obtain ⟨qb,db,rfl⟩:=hub.form
   refine SP.o rfl (cL call38 rfl (refProduct_spec E gb _ _ _ _ _ hub (hua.mono hleb) (refProdC_fits _ _).1 (simpC_fits _).1)) dC (.inr (by rintro _ gc _ ⟨rfl,hlec,uc,rfl,huc⟩; exact ⟨by exact Le.trans (by assumption) (by assumption),(by exact .refl _)⟩)) ?_
   rintro _ gc _ ⟨rfl,hlec,uc,rfl,huc⟩
   obtain ⟨qc,dc,rfl⟩:=huc.form
   refine SP.on I (sK 1 zT31 I I I I I sB) (.inl dC) ?_
   rintro _ _ _ ⟨rfl,rfl⟩
   refine pN (bN (dR (s':=pt b3 (.cells #[(Value.slice qc _ dc)] 31 (0,0)) :: pt b2 (.cells #[.slice none 0 0] 31 (0,0)) :: pt b1 (.cells #[vi kd,.slice p n c,vi y] 24 (0,0)) :: s) (.cons _ (.refl _)) ?_))
   exact ST.mid (gc,_) sB I I ⟨(hle1.trans hle2).trans (hlea.trans (hleb.trans hlec)),huc⟩
  ·refine SC.sR (lU (fA uT24 I zT3 I) (lK (qL (v:=vi kd) iT3 I (cO 2 I I)) (lW (cL kT34 I (mod_spec E g _ _ 8 dC)) ?_)))
   rintro _ _ _ ⟨rfl,rfl,rfl⟩
   rw [hm]
   refine SL.nT (bK (sQ (SC.sR (lU (eQ I I) (lA I (SL.nT (cF I (SC.sR (lU (eQ I I) (lA I (SL.nT (cF I (rG (lU (eQ I I) (lA I (SL.nT (cF I (SC.sR (lU (eQ I I) (lA I (SL.nT ?_)))))))))))))))))))))
   refine cF I (SC.sR (lU (eQ I I) (lA I (SL.nT (cF I (SC.sR (lU (eQ I I) (lA I (SL.nT (cF I (SC.sR (lU (eQ I I) (lA I (SL.nT (cF I (SC.sR (lU (eQ I I) (lA I (SL.nT (cT I ?_))))))))))))))))))))
   refine dW [13] [(0,2),(1,1),(3,2),(4,1),(6,2),(7,1),(2,0),(5,0),(8,0),(9,2),(10,2),(11,0),(12,0),(13,0)] Tryz.mixed (by kernel_rfl) ?_
   refine pU rfl (fA uT24 rfl sizeOf22 rfl) (pK rfl (qL (v:=.slice p n c) isAgg22 rfl (cO 2 rfl rfl)) (pU rfl (fA uT24 rfl zT3 rfl) (pK rfl (qL (v:=vi y) iT3 rfl (cO 2 rfl rfl)) (pU rfl (fA uT24 rfl zT3 rfl) (pK rfl (qL (v:=vi y) iT3 rfl (cO 2 rfl rfl)) (SP.o rfl (cL call36 rfl (sets_spec E g _ _ ls hv)) dC (.inr (by rintro v72 g1 _ ⟨rs1,rfl,hle1,hall1⟩; exact ⟨by assumption,(by exact .cons _ (.refl _))⟩)) ?_))))))
   rintro v72 g1 _ ⟨rs1,rfl,hle1,hall1⟩
   refine SP.o rfl (cL call37 rfl (surface_spec E g1 _ y)) dC (.inr (by rintro v75 g2 _ ⟨rfl,hle2,hsv⟩; exact ⟨by exact Le.trans (by assumption) (by assumption),(by exact .cons _ (.refl _))⟩)) ?_
   rintro v75 g2 _ ⟨rfl,hle2,hsv⟩
   obtain ⟨rs2,hrs2,hall2⟩:=hsv
   have hrl2:=hall2.length
   have hrl1:=hall1.length
   obtain ⟨q2,d2,rfl⟩:=SlA.form hrs2
   have hcap2:=(SlA.cap hrs2).2
   have hcut:=SlA.cut hrs2 (l:=0) (m:=(2 + modW y 2).toNat) (Nat.zero_le _) oM
   rw [List.drop_zero,Nat.sub_zero] at hcut
   refine SP.o rfl (cL kT34 rfl (mod_spec E g2 _ _ 2 dC)) dC (.inr (by rintro _ _ _ ⟨rfl,rfl,rfl⟩; exact ⟨by exact Le.trans (by assumption) (by assumption),(by exact .cons _ (.refl _))⟩)) ?_
   rintro _ _ _ ⟨rfl,rfl,rfl⟩
   refine pU rfl (aD rfl rfl oM) (pU rfl (SU.sliceH uT22 zT27 rfl rfl oM oM) (SP.o rfl (aQ (e:=encSv) 0 sty22 rfl rfl rfl hcut (by rw [List.length_take]; omega) (by rw [List.length_take]; omega)) dC (.inr (by rintro v81 _ _ ⟨rfl,rfl⟩; exact ⟨by exact Le.trans (by assumption) (by assumption),(by exact .cons _ (.refl _))⟩)) ?_))
   rintro v81 _ _ ⟨rfl,rfl⟩
   refine SP.freezeRow fun g3 hle3 hs3=>?_
   have hls : Lists g3 v81 (setsC ls ++ (surfC y).take (2 + modW y 2).toNat):=⟨_,hs3,(hall1.mono fun _ _=>ListR.mono (hle2.trans hle3)).append ((All2.take _ hall2).mono fun _ _=>ListR.mono hle3)⟩
   have hle13:=hle1.trans (hle2.trans hle3)
   refine SP.o rfl (cL call35 rfl (refSimplicial_spec E g3 _ _ _ hls (by rw [List.length_append,List.length_take]; omega) (fun x hx=>by rcases List.mem_append.1 hx with h | h; (have:=hss.2 x h; omega); (have:=hsf.2.2 x (List.mem_of_mem_take h); omega)))) dC (.inr (by rintro _ g4 _ ⟨rfl,hle4,u,rfl,hu⟩; exact ⟨by exact Le.trans (by assumption) (by assumption),(by exact .refl _)⟩)) ?_
   rintro _ g4 _ ⟨rfl,hle4,u,rfl,hu⟩
   obtain ⟨q,d,rfl⟩:=hu.form
   refine SP.on I (sK 0 zT31 I I I I I sB) (.inl dC) ?_
   rintro _ _ _ ⟨rfl,rfl⟩
   refine pN (bN ?_)
   exact ST.mid (g4,_) sB I I ⟨hle1.trans (hle2.trans (hle3.trans hle4)),hu⟩
 rintro ⟨g1,bv⟩ ⟨hle1,hbv⟩
 dsimp only at hle1 hbv ⊢
 generalize hB : baseM (modW kd 8) ls y = B at *
 obtain ⟨qb,db,rfl⟩:=hbv.form
 refine sQ (SC.sR (lU (fA uT31 I zT29 I) (lK (qL (v:=.slice qb B.length db) iT29 I (cO 0 I I)) (lU (eN uT29 I) (lU (gR I I) (SL.nT ?_))))))
 refine iP I (fun hbig=>?_) (fun hbig=>?_)
 ·refine rG (lW (cL call40 I (torus_spec E g1 _)) ?_)
  rintro _ g2 _ ⟨rfl,hle2,ut,rfl,hut⟩
  obtain ⟨qt,dt,rfl⟩:=hut.form
  refine SL.O2 (sK 0 zT31 I I I I I sB) ?_
  refine SL.nT (sQ ?_)
  refine SC.to (fun w hw=>hw) (g':=g2) (s':=pt b3 (.cells #[(Value.slice qt torusC.length dt)] 31 (0,0)) :: pt b2 (.cells #[.slice none 0 0] 31 (0,0)) :: pt b1 (.cells #[vi kd,.slice p n c,vi y] 24 (0,0)) :: s) ?_
  refine rG (lK (qV 0 iT31 zT31 I I I) (lU (fA uT24 I zT3 I) (lK (qL (v:=vi y) iT3 I (cO 2 I I)) (lW (cL call41 I (renumbered_spec E g2 _ _ torusC y hut (refProdC_fits _ _).1)) ?_))))
  rintro _ g3 _ ⟨rfl,hle3,x3,rfl,hx3⟩
  obtain ⟨q3,d3,rfl⟩:=hx3.form
  refine SL.O2 (sK 1 zT31 I I I I I sB) ?_
  refine SL.nT (rE ?_)
  exact ST.retCD 1 s (.inl I) results7 I iT31 zT31 I I (.cons _ (.cons _ (.cons _ (.refl _)))) ⟨I,hle1.trans (hle2.trans hle3),_,I,by unfold bigC; rw [if_pos hbig]; exact hx3⟩
 ·refine kP (tN (sQ ?_))
  refine SC.to (fun w hw=>hw) (g':=g1) (s':=pt b3 (.cells #[(Value.slice qb B.length db)] 31 (0,0)) :: pt b2 (.cells #[.slice none 0 0] 31 (0,0)) :: pt b1 (.cells #[vi kd,.slice p n c,vi y] 24 (0,0)) :: s) ?_
  refine rG (lK (qV 0 iT31 zT31 I I I) (lU (fA uT24 I zT3 I) (lK (qL (v:=vi y) iT3 I (cO 2 I I)) (lW (cL call41 I (renumbered_spec E g1 _ _ B y hbv hfit)) ?_))))
  rintro _ g3 _ ⟨rfl,hle3,x3,rfl,hx3⟩
  obtain ⟨q3,d3,rfl⟩:=hx3.form
  refine SL.O2 (sK 1 zT31 I I I I I sB) ?_
  refine SL.nT (rE ?_)
  exact ST.retCD 1 s (.inl I) results7 I iT31 zT31 I I (.cons _ (.cons _ (.cons _ (.refl _)))) ⟨I,hle1.trans hle3,_,I,by unfold bigC; rw [if_neg hbig]; exact hx3⟩
theorem modW_rangeL (a b : Int) (h0 : 0 < b) (h1 : b ≤ 1099511627776) : 0 ≤ modW a b ∧ modW a b < b:=by
 have h2 : a.tmod b < b:=Int.tmod_lt_of_pos a h0
 have h3 : -b < a.tmod b:=by
  have:=Int.lt_tmod_of_pos a h0
  omega
 unfold modW
 rw [IntWalk.i64_in _ oM,Int.tmod_eq_emod_of_nonneg oM]
 exact ⟨Int.emod_nonneg _ oM,Int.emod_lt_of_pos _ h0⟩
theorem modW_nat (a : Int) (n : Nat) (h0 : 0 < n) (h1 : n ≤ 1099511627776) : modW a n = (((modW a n).toNat : Nat) : Int) ∧ (modW a n).toNat < n:=by
 have:=modW_rangeL a n oM oM
 omega
theorem ownS_split : ∀ {A : List Cl} {RA : List Rc} (x : Cl) (rx : Rc) (B : List Cl) (RB : List Rc),A.length = RA.length → ownS (A ++ x :: B) (RA ++ rx :: RB) = ownS A RA ++ ownC x rx :: ownS B RB
 | [],[],_,_,_,_,_=>rfl
 | a :: A,r :: RA,x,rx,B,RB,h=>by simp only [List.cons_append,ownS]; rw [ownS_split x rx B RB (by simpa using h)]
 | [],_ :: _,_,_,_,_,h=>by simp at h
 | _ :: _,[],_,_,_,_,h=>by simp at h
theorem freezeBut {E : World} {s : Own} {w : World} {g : PH} {R : Ent} {A B : List Cl} {RA RB : List Rc} {x : Cl} {rx : Rc} (h1 : All2 CellO A RA) (h2 : All2 CellO B RB) (h : At E g (R :: (ownS (A ++ x :: B) (RA ++ rx :: RB) ++ s)) w) :
  ∃ g',Le g g' ∧ At E g' (R :: ownC x rx :: s) w ∧ All2 (CellR g') A RA ∧ All2 (CellR g') B RB:=by
 rw [ownS_split x rx B RB h1.length] at h
 have hp : (R :: (ownS A RA ++ ownC x rx :: ownS B RB ++ s)).Perm (ownS A RA ++ (ownS B RB ++ (R :: ownC x rx :: s))):=by
  rw [List.append_assoc]
  refine List.perm_middle.symm.trans (List.Perm.append_left _ ?_)
  refine (List.Perm.cons R (List.perm_middle (l₁:=ownS B RB)).symm).trans ?_
  exact List.perm_middle.symm
 obtain ⟨g1,hl1,ha1,hs1⟩:=freezeO h1 (h.perm hp)
 obtain ⟨g2,hl2,ha2,hs2⟩:=freezeO h2 ha1
 exact ⟨g2,hl1.trans hl2,ha2,hs1.mono fun _ _=>CellR.mono hl2,hs2⟩
theorem SC.freezeBut {P : Program} {N : Nat} {E : World} {Q : Exit → Act → World → Prop} {f : Fr} {g : PH} {s : Own} {o : Code} {R S : Ent} {A B : List Cl} {RA RB : List Rc} {x : Cl} {rx : Rc} (h1 : All2 CellO A RA) (h2 : All2 CellO B RB)
  (h : ∀ g',Le g g' → All2 (CellR g') A RA → All2 (CellR g') B RB → SC P N E o Q f g' (R :: ownC x rx :: S :: s)) : SC P N E o Q f g (S :: R :: (ownS (A ++ x :: B) (RA ++ rx :: RB) ++ s)):=fun a w ha hw=>by
 have hp : (S :: R :: (ownS (A ++ x :: B) (RA ++ rx :: RB) ++ s)).Perm (R :: (ownS (A ++ x :: B) (RA ++ rx :: RB) ++ (S :: s))):=(List.Perm.swap _ _ _).trans (List.Perm.cons R List.perm_middle.symm)
 obtain ⟨g',h3,h4,h5,h6⟩:=Go.Proofs.YtkdibcicncjpdaaGreatDoor.freezeBut h1 h2 (hw.perm hp)
 exact h g' h3 h5 h6 a w ha h4
theorem All2.split {α β : Type} {R : α → β → Prop} : ∀ {l : List α} {rs : List β} {k : Nat},All2 R l rs → k < l.length → ∃ A x B RA rx RB,l = A ++ x :: B ∧ rs = RA ++ rx :: RB ∧ A.length = k ∧ RA.length = k ∧ All2 R A RA ∧ R x rx ∧ All2 R B RB
 | x :: l,r :: rs,0,h,_=>⟨[],x,l,[],r,rs,rfl,rfl,rfl,rfl,trivial,h.1,h.2⟩
 | x :: l,r :: rs,k + 1,h,hk=>by
  obtain ⟨A,y,B,RA,ry,RB,rfl,rfl,h1,h2,h3,h4,h5⟩:=All2.split h.2 (by simpa using hk)
  exact ⟨x :: A,y,B,r :: RA,ry,RB,I,I,by simp [h1],by simp [h2],⟨h.1,h3⟩,h4,h5⟩
 | [],[],_,_,hk=>by simp at hk
 | [],_ :: _,_,h,_=>h.elim
 | _ :: _,[],_,h,_=>h.elim
theorem setMid {α : Type} {A B : List α} {x y : α} {k : Nat} (h : A.length = k) : (A ++ x :: B).set k y = A ++ y :: B:=by subst h; simp
theorem getMid {α : Type} {A B : List α} {x : α} {k : Nat} (h : A.length = k) : (A ++ x :: B)[k]? = some x:=by subst h; simp
def dflC : Cl:=⟨0,0,[]⟩
def dflS : Side:=⟨0,0⟩
def negS (z : Side) : Side:=⟨z.cell,IntKind.i64.wrap (0 - z.sign)⟩
def withS (x : Cl) (ss : List Side) : Cl:=⟨x.id,x.dim,ss⟩
def pickC (l : List Cl) (n : Int) : Cl:=l.getD (modW n l.length).toNat dflC
def spoilM (m : Int) (l : List Cl) (k : Nat) (x : Cl) (n : Int) (j : Nat) : List Cl :=
 if m = 0 then l.set k ⟨modW n 9 - 1,x.dim,x.sides⟩
 else if m = 1 then l.set k ⟨x.id,modW n 12 - 1,x.sides⟩
 else if m = 2 then l.eraseIdx k
 else if m = 3 then l.set k (withS x (x.sides.set j ⟨(x.sides.getD j dflS).cell,modW n 4 - 2⟩))
 else if m = 4 then l.set k (withS x (x.sides.set j (negS (x.sides.getD j dflS))))
 else if m = 5 then l.set k (withS x (x.sides.set j ⟨(pickC l (IntKind.i64.wrap (n.tdiv 3))).id,(x.sides.getD j dflS).sign⟩))
 else if m = 6 then l.set k (withS x (x.sides.eraseIdx j))
 else if m = 7 then l.set k (withS x (x.sides ++ [⟨(pickC l n).id,1 - 2 * modW n 2⟩]))
 else if m = 8 then l ++ [x]
 else if m = 9 then l.set k (withS x (x.sides ++ (pickC l n).sides))
 else if m = 10 then l.set k (withS x (x.sides.map negS))
 else if m = 11 then l ++ [⟨500 + modW n 3,modW n 4,x.sides⟩]
 else l
def sideJ (x : Cl) (n : Int) : Nat:=if 0 < x.sides.length then (modW n x.sides.length).toNat else 0
def spoilC (l : List Cl) (q0 q1 q2 : Int) : List Cl :=
 if l.length = 0 then [⟨q1,0,[]⟩] else spoilM (modW q0 13) l (modW q1 l.length).toNat (pickC l q1) q2 (sideJ (pickC l q1) q2)
def Small (l : List Cl) : Prop:=l.length ≤ 5000 ∧ ∀ c ∈ l,c.sides.length ≤ 1000000
theorem canonC_small {l : List Cl} (h : Small l) : Small (canonC l):=by
 refine ⟨by simp [canonC,sortBy_length]; exact h.1,fun c hc=>?_⟩
 simp only [canonC,List.mem_map] at hc
 obtain ⟨c0,h0,rfl⟩:=hc
 simp only [normC,sortBy_length]
 exact h.2 c0 ((sortBy_mem l c0).1 h0)
theorem simpC_small (ls : List (List Int)) : Small (simpC ls):=by
 unfold simpC
 cases h : simpAll [] ls with
 | none=>exact ⟨by simp,by simp⟩
 | some all =>
  obtain ⟨h1,h2⟩:=simpAll_facts [] ls (by simp) (by simp) all h
  refine canonC_small ⟨by rw [simpCells_length]; omega,fun c hc=>?_⟩
  obtain ⟨p,hp,rfl⟩:=List.mem_map.1 hc
  have h3 : p.1 ∈ all:=by
   have:=List.mem_map_of_mem (f:=Prod.fst) hp
   simpa using this
  have h4:=h2 _ h3
  have h5:=simpSides_length all p.1 p.1.length
  simp only [simpCell]
  omega
theorem refProdC_small (a b : List Cl) : Small (refProdC a b):=by
 refine ⟨by have:=(refProdC_fits a b).2; omega,?_⟩
 unfold refProdC
 split
 ·simp
 ·rename_i hbad
  split
  ·have ha : (refCheckC a).2 = 0:=Decidable.of_not_not fun h=>hbad (by simp [refProdBad,h])
   have hb : (refCheckC b).2 = 0:=Decidable.of_not_not fun h=>hbad (by simp [refProdBad,h])
   obtain ⟨_,_,hat,haf⟩:=refRight_facts ha
   obtain ⟨_,_,hbt,hbf⟩:=refRight_facts hb
   rw [← hat] at haf
   rw [← hbt] at hbf
   have hprod : prodAll a b = (tabC a).flatMap fun x=>(tabC b).map (prodCell (tabC a) (tabC b) x):=by unfold prodAll; rw [← hat,← hbt]
   intro c hc
   simp only [canonC,List.mem_map] at hc
   obtain ⟨c0,h0,rfl⟩:=hc
   simp only [normC,sortBy_length]
   have hc:=(sortBy_mem _ c0).1 h0
   rw [hprod] at hc
   obtain ⟨x,hx,hc⟩:=List.mem_flatMap.1 hc
   obtain ⟨y,hy,rfl⟩:=List.mem_map.1 hc
   have h1:=(form_ok (haf x hx)).1
   have h2:=(form_ok (hbf y hy)).1
   simp [prodCell]
   omega
  ·simp
theorem polyC_small {n : Nat} (h : n ≤ 6) : Small (polyC n):=by
 refine canonC_small ⟨by have:=(polyAll_fits h).2; omega,fun c hc=>?_⟩
 unfold polyAll at hc
 rcases List.mem_append.1 hc with hc | hc
 ·rcases List.mem_append.1 hc with hc | hc
  ·rcases List.mem_append.1 hc with hc | hc
   ·obtain ⟨i,_,rfl⟩:=List.mem_map.1 hc
    simp
   ·obtain ⟨i,_,rfl⟩:=List.mem_map.1 hc
    simp
  ·simp at hc
   subst hc
   simp [polyS_length]
   omega
 ·split at hc
  ·simp at hc
   subst hc
   simp [polyS_length]
   omega
  ·simp at hc
theorem baseM_small (m : Int) (ls : List (List Int)) (y : Int) : Small (baseM m ls y):=by
 unfold baseM
 have h5:=modW_range y 5 dC dC
 repeat' split
 ·exact simpC_small _
 ·exact refProdC_small _ _
 ·exact polyC_small oM
 ·exact refProdC_small _ _
 ·exact simpC_small _
 ·exact simpC_small _
theorem madeC_small (kd : Int) (ls : List (List Int)) (y : Int) : Small (madeC kd ls y):=by
 have hb : Small (bigC (baseM (modW kd 8) ls y)):=by
  unfold bigC
  split
  ·exact refProdC_small _ _
  ·exact baseM_small _ _ _
 refine canonC_small ⟨by rw [List.length_map]; exact hb.1,fun c hc=>?_⟩
 obtain ⟨x,hx,rfl⟩:=List.mem_map.1 hc
 simpa [renCell] using hb.2 x hx
set_option maxHeartbeats 2000000
theorem SC.freezeBut' {P : Program} {N : Nat} {E : World} {Q : Exit → Act → World → Prop} {f : Fr} {g : PH} {s : Own} {o : Code} {R S : Ent} {l A B : List Cl} {rs RA RB : List Rc} {x : Cl} {rx : Rc} (hl : l = A ++ x :: B) (hr : rs = RA ++ rx :: RB) (h1 : All2 CellO A RA) (h2 : All2 CellO B RB)
  (h : ∀ g',Le g g' → All2 (CellR g') A RA → All2 (CellR g') B RB → SC P N E o Q f g' (R :: ownC x rx :: S :: s)) : SC P N E o Q f g (S :: R :: (ownS l rs ++ s)):=by
 subst hl
 subst hr
 exact SC.freezeBut h1 h2 h
theorem All2.eraseIdx {α β : Type} {R : α → β → Prop} : ∀ {l : List α} {rs : List β} (k : Nat),All2 R l rs → All2 R (l.eraseIdx k) (rs.eraseIdx k)
 | [],[],_,_=>trivial
 | _ :: _,_ :: _,0,h=>h.2
 | _ :: _,_ :: _,k + 1,h=>⟨h.1,All2.eraseIdx k h.2⟩
 | [],_ :: _,_,h=>h.elim
 | _ :: _,[],_,h=>h.elim
def negTo (l : List Side) (i : Nat) : List Side:=(l.take i).map negS ++ l.drop i
theorem negTo_length (l : List Side) (i : Nat) (h : i ≤ l.length) : (negTo l i).length = l.length:=by simp [negTo]; omega
theorem negTo_get {l : List Side} {i : Nat} (h : i < l.length) : (negTo l i)[i]? = some l[i]:=by
 unfold negTo
 have h1 : l.drop i = l[i] :: l.drop (i + 1):=List.drop_eq_getElem_cons h
 rw [h1]
 exact getMid (by simp; omega)
theorem negTo_set {l : List Side} {i : Nat} (h : i < l.length) : (negTo l i).set i (negS l[i]) = negTo l (i + 1):=by
 unfold negTo
 have h1 : l.drop i = l[i] :: l.drop (i + 1):=List.drop_eq_getElem_cons h
 have h2 : l.take (i + 1) = l.take i ++ [l[i]]:=tS h
 rw [h2,h1,List.map_append,setMid (by simp; omega),List.append_assoc]
 rfl
theorem spoiled_spec (E : World) (g : PH) (s : Own) (v : Value) (l : List Cl) (q0 q1 q2 : Int) (hv : Cells g v l) (hf : Fits l) :
  Ctr Tryz.prog E 8 #[.agg #[v],.agg #[vi q0,vi q1,vi q2]] g s (fun r g' s'=>s = s' ∧ Le g g' ∧ ∃ x,r = .agg #[x] ∧ Cells g' x (spoilC l q0 q1 q2)):=by
 obtain ⟨p,c,rfl⟩:=hv.form
 have hll:=hf.1
 refine Ctr.of (args:=[.agg #[.slice p l.length c],.agg #[vi q0,vi q1,vi q2]]) func8 I ntmps8 (bE I) ?_
 refine SC.sR (SL.bx (bO I) fun b2=>?_)
 refine SL.bx (bO I) fun b3=>?_
 refine SL.bx (aL zeroValue31) fun b4=>?_
 refine SL.nT (SC.sR (lK (qV 2 iT31 zT31 I I I) (lW (cL call28 I (copy_own E g _ _ l hv hf)) ?_)))
 rintro _ _ _ ⟨rfl,u,rs,rfl,hO,rfl⟩
 have el:=hO.length
 refine SL.facts fun ⟨w0,hw0⟩=>?_
 obtain ⟨q,d,rfl⟩:=rowA_form (i:=0) hw0 rfl
 clear hw0 w0
 refine SL.bx (aL zeroValue31) fun b5=>?_
 refine SL.O2 (sK 0 zT31 I I I I I sB) ?_
 refine SL.nT (sQ (sQ ?_))
 refine SC.to (fun w hw=>hw) (g':=g) (s':=pt b5 (.cells #[.slice q rs.length d] 31 (0,0)) :: rowA encCell 40 (.slice q rs.length d) rs :: (ownS l rs ++ (pt b4 (.cells #[.slice none 0 0] 31 (0,0)) :: pt b3 (.cells #[vi q0,vi q1,vi q2] 25 (0,0)) :: pt b2 (.cells #[.slice p l.length c] 31 (0,0)) :: s))) ?_
 refine rG (lU (fA uT31 I zT29 I) (lK (qL (v:=.slice q rs.length d) iT29 I (cO 0 I I)) (lU (eN uT29 I) (lU (eQ I I) (SL.nT ?_)))))
 refine iP I (fun h0=>?_) (fun h0=>?_)
 ·have hl0 : l = []:=List.eq_nil_of_length_eq_zero oM
  subst hl0
  have hr0 : rs = []:=List.eq_nil_of_length_eq_zero oM
  subst hr0
  refine sQ ?_
  refine SC.to (fun w hw=>hw) (g':=g) (s':=pt b5 (.cells #[.slice q 0 d] 31 (0,0)) :: rowA encCell 40 (.slice q 0 d) [] :: (pt b4 (.cells #[.slice none 0 0] 31 (0,0)) :: pt b3 (.cells #[vi q0,vi q1,vi q2] 25 (0,0)) :: pt b2 (.cells #[.slice p ([] : List Cl).length c] 31 (0,0)) :: s)) ?_
  refine rG (lU (iB uT25 zT3 I I dC dC) (lK (qL (v:=vi q1) iT3 I (cO 3 I I)) (lU (SU.build I (buildD40 _)) (lW (bS sty29 I I I (szs_mk ⟨I,trivial⟩) dC) ?_))))
  rintro _ _ _ ⟨b21,rfl,rfl,rfl⟩
  refine SL.freeze fun g1 hle1 hb21=>?_
  refine lU (SU.build I (build31 _ I)) (SL.O2 (sK 2 zT31 I I I I I sB) ?_)
  refine SL.nT (rE (tR ?_))
  exact ST.retCD 2 s (.inl I) results8 I iT31 zT31 I I (.cons _ (.cons _ (.cons _ (.cons _ (.cons _ (.refl _)))))) ⟨I,hle1,_,I,[⟨q1,0,⟨none,0,0⟩⟩],SlA.lit hb21 I I,⟨I,I,Sl.nil _ _⟩,trivial⟩
 ·have hpos : 0 < l.length:=oM
  obtain ⟨hk1,hk2⟩:=modW_nat q1 l.length hpos oM
  have hsp0 : spoilC l q0 q1 q2 = spoilM (modW q0 13) l (modW q1 l.length).toNat (pickC l q1) q2 (sideJ (pickC l q1) q2):=by unfold spoilC; rw [if_neg oM]
  rw [hsp0]
  obtain ⟨A,x,B,RA,rx,RB,hl,hr,hA,hRA,hOA,hOx,hOB⟩:=All2.split hO hk2
  have hpx : pickC l q1 = x:=by
   unfold pickC
   rw [List.getD_eq_getElem?_getD,hl] at *
   rw [getMid hA]
   rfl
  rw [hpx]
  have hmk : modW q1 (rs.length : Int) = (((modW q1 l.length).toNat : Nat) : Int):=by rw [← el]; exact hk1
  generalize (modW q1 l.length).toNat = k at *
  obtain ⟨xi,xd,xp,xn,xc⟩:=rx
  obtain ⟨e1,e2,e3⟩:=hOx
  dsimp only at e1 e2 e3
  subst e1
  subst e2
  subst e3
  have hgr : rs[k]? = some (⟨x.id,x.dim,⟨xp,x.sides.length,xc⟩⟩ : Rc):=by rw [hr]; exact getMid hRA
  have hkr : k < rs.length:=oM
  have hxl : x.sides.length < 1099511627776:=hf.2 x (by rw [hl]; simp)
  refine SC.freezeBut' hl hr hOA hOB fun g1 hle1 hAR hBR=>?_
  refine SC.facts fun ⟨w0,hw0⟩=>?_
  obtain ⟨bu,cap,hbu⟩:=rowA_based (i:=0) hw0 rfl oM
  obtain ⟨rfl,rfl⟩ : q = some ⟨bu,0,none⟩ ∧ d = cap:=by injection hbu with h1 _ h2; exact ⟨h1,h2⟩
  clear hw0 w0 hbu
  have hdc : d = d:=rfl
  refine SC.to (fun w hw=>hw) (g':=g1) (s':=rowA encCell 40 (.slice (some ⟨bu,0,none⟩) rs.length d) rs :: rowA encSide 42 (.slice xp x.sides.length xc) x.sides :: pt b5 (.cells #[(.slice (some ⟨bu,0,none⟩) rs.length d)] 31 (0,0)) :: pt b4 (.cells #[.slice none 0 0] 31 (0,0)) :: pt b3 (.cells #[vi q0,vi q1,vi q2] 25 (0,0)) :: pt b2 (.cells #[.slice p l.length c] 31 (0,0)) :: s) ?_
  obtain ⟨cap,hcap⟩ : ∃ cap,cap = d:=⟨_,rfl⟩
  rw [← hcap]
  have hfin : ∀ g' x' r',Le g1 g' → CellR g' x' r' → All2 (CellR g') (l.set k x') (rs.set k r'):=fun g' x' r' hle hx'=>by
   rw [hl,hr,setMid hA,setMid hRA]
   exact (hAR.mono fun _ _=>CellR.mono hle).append ⟨hx',hBR.mono fun _ _=>CellR.mono hle⟩
  have hfin0 : ∀ g' x',Le g1 g' → CellR g' x' (⟨x.id,x.dim,⟨xp,x.sides.length,xc⟩⟩ : Rc) → All2 (CellR g') (l.set k x') rs:=fun g' x' hle hx'=>by
   rw [hl,hr,setMid hA]
   exact (hAR.mono fun _ _=>CellR.mono hle).append ⟨hx',hBR.mono fun _ _=>CellR.mono hle⟩
  have hfinA : ∀ g',Le g1 g' → CellR g' x (⟨x.id,x.dim,⟨xp,x.sides.length,xc⟩⟩ : Rc) → All2 (CellR g') l rs:=fun g' hle hx'=>by
   rw [hl,hr]
   exact (hAR.mono fun _ _=>CellR.mono hle).append ⟨hx',hBR.mono fun _ _=>CellR.mono hle⟩
  have hpick : ∀ y : Int,∃ (kk : Nat) (yi yd : Int) (yp : Option Addr) (yc : Nat),modW y (rs.length : Int) = ((kk : Nat) : Int) ∧ kk < rs.length ∧ rs[kk]? = some ⟨yi,yd,⟨yp,(pickC l y).sides.length,yc⟩⟩ ∧ yi = (pickC l y).id ∧ (pickC l y).sides.length < 1099511627776 ∧
    (((pickC l y) = x ∧ yp = xp ∧ yc = xc) ∨ SlA encSide g1 (.slice yp (pickC l y).sides.length yc) (pickC l y).sides):=fun y=>by
   obtain ⟨h1,h2⟩:=modW_nat y l.length hpos oM
   have hg : l[(modW y l.length).toNat]? = some (pickC l y):=by
    unfold pickC
    rw [List.getD_eq_getElem?_getD,gE h2]
    rfl
   rw [el] at h1
   refine ⟨(modW y l.length).toNat,?_⟩
   rw [el] at *
   generalize (modW y rs.length).toNat = kk at *
   generalize pickC l y = cy at *
   have hm : cy ∈ l:=List.mem_of_getElem? hg
   obtain ⟨ry,hry⟩ : ∃ ry,rs[kk]? = some ry:=⟨_,gE h2⟩
   have hoy:=hO.get hg hry
   obtain ⟨yi,yd,yp,yn,yc⟩:=ry
   obtain ⟨f1,f2,f3⟩:=hoy
   dsimp only at f1 f2 f3
   subst f3
   refine ⟨yi,yd,yp,yc,h1,h2,hry,f1,hf.2 _ hm,?_⟩
   rw [hl] at hg
   rw [hr] at hry
   by_cases hlt : kk < k
   ·rw [List.getElem?_append_left oM] at hg hry
    exact .inr (hAR.get hg hry).2.2
   ·rw [List.getElem?_append_right oM] at hg hry
    rw [hA] at hg
    rw [hRA] at hry
    cases hd : kk - k with
    | zero =>
     rw [hd] at hg hry
     simp at hg hry
     exact .inl ⟨hg.symm,hry.2.2.1.symm,hry.2.2.2.2.symm⟩
    | succ t =>
     rw [hd] at hg hry
     simp at hg hry
     exact .inr (hBR.get hg hry).2.2
  clear hO hpx hsp0 hdc
  have hj1 : 0 < x.sides.length → modW q2 (x.sides.length : Int) = ((((sideJ x q2) : Nat)) : Int) ∧ (sideJ x q2) < x.sides.length:=fun h=>by
   unfold sideJ
   rw [if_pos h]
   exact modW_nat q2 x.sides.length h oM
  refine kP (tN (SC.sR (lU (iB uT25 zT3 I I dC dC) (lK (qL (v:=vi q1) iT3 I (cO 4 I I)) (lU (fA uT31 I zT29 I) (lK (qL (v:=(.slice (some ⟨bu,0,none⟩) rs.length cap)) iT29 I (cO 2 I I)) (lU (eN uT29 I) (lW (cL kT34 I (mod_spec E g1 _ q1 rs.length oM)) ?_))))))))
  rintro _ _ _ ⟨rfl,rfl,rfl⟩
  rw [hmk]
  refine lA I (SL.nT (SC.sR (lU (fA uT31 I zT29 I) (lK (qL (v:=(.slice (some ⟨bu,0,none⟩) rs.length cap)) iT29 I (cO 2 I I)) (lM I (lU (iA uT29 zT40 I I I oM sL) (lA I (SL.nT (SC.sR (lU (iB uT25 zT3 I I dC dC) (lK (qL (v:=vi q2) iT3 I (cO 4 I I)) (lA I (SL.nT (SC.sR (lA I (SL.nT ?_))))))))))))))))
  refine SC.cut (ι:=Unit) (fun _=>[(2,pp b2 0),(3,pp b3 0),(4,pp b4 0),(5,pp b5 0),(6,vi (k : Nat)),(7,cptr (.slice (some ⟨bu,0,none⟩) rs.length cap) (k * 3)),(8,vi q2),(9,vi ((sideJ x q2) : Nat))]) (fun _=>g1) (fun _=>rowA encCell 40 (.slice (some ⟨bu,0,none⟩) rs.length cap) rs :: rowA encSide 42 (.slice xp x.sides.length xc) x.sides :: pt b5 (.cells #[(.slice (some ⟨bu,0,none⟩) rs.length cap)] 31 (0,0)) :: pt b4 (.cells #[.slice none 0 0] 31 (0,0)) :: pt b3 (.cells #[vi q0,vi q1,vi q2] 25 (0,0)) :: pt b2 (.cells #[.slice p l.length c] 31 (0,0)) :: s) (fun _=>True) ?_ ?_
  ·refine SC.sR (lM I (lU (nC I) (lU (fA uT40 I zT38 I) (lK (pA (e:=encCell) (a:=(⟨x.id,x.dim,⟨xp,x.sides.length,xc⟩⟩ : Rc)) (j:=k) (o:=2) (u:=(.slice xp x.sides.length xc)) iT38 I (Rd.rowA 0 I) hgr I) (lU (eN uT38 I) (lU (gR I I) (SL.nT ?_)))))))
   refine iP I (fun hsp=>?_) (fun hsp=>?_)
   ·refine rG (lM I (lM I (lU (nC I) (lU (fA uT40 I zT38 I) (lK (pA (e:=encCell) (a:=(⟨x.id,x.dim,⟨xp,x.sides.length,xc⟩⟩ : Rc)) (j:=k) (o:=2) (u:=(.slice xp x.sides.length xc)) iT38 I (Rd.rowA 0 I) hgr I) (lU (eN uT38 I) (lW (cL kT34 I (mod_spec E g1 _ q2 x.sides.length oM)) ?_)))))))
    rintro _ _ _ ⟨rfl,rfl,rfl⟩
    rw [(hj1 oM).1]
    refine lA I (nL ?_)
    exact ST.mid () sB I I trivial
   ·have hj0 : (sideJ x q2) = 0:=by unfold sideJ; rw [if_neg oM]
    rw [hj0]
    refine kP ?_
    exact ST.mid () sB I I trivial
  rintro ⟨⟩ -
  try dsimp only
  have hm13:=modW_range q0 13 dC dC
  have hj2 : ∀ h : 0 < x.sides.length,x.sides[(sideJ x q2)]? = some (x.sides.getD (sideJ x q2) dflS):=fun h=>by
   rw [List.getD_eq_getElem?_getD,gE (hj1 h).2]; rfl
  have hnil : ¬ (x.sides.length : Int) > 0 → x.sides = []:=fun h=>List.eq_nil_of_length_eq_zero oM
  refine SC.cut (ι:=PH × Value) (fun _=>[(2,pp b2 0),(4,pp b4 0),(5,pp b5 0)]) (fun i=>i.1) (fun i=>pt b5 (.cells #[i.2] 31 (0,0)) :: pt b4 (.cells #[.slice none 0 0] 31 (0,0)) :: pt b3 (.cells #[vi q0,vi q1,vi q2] 25 (0,0)) :: pt b2 (.cells #[.slice p l.length c] 31 (0,0)) :: s) (fun i=>Le g1 i.1 ∧ Cells i.1 i.2 (spoilM (modW q0 13) l k x q2 (sideJ x q2))) ?_ ?_
  ·rcases (by omega : modW q0 13 = 0 ∨ modW q0 13 = 1 ∨ modW q0 13 = 2 ∨ modW q0 13 = 3 ∨ modW q0 13 = 4 ∨ modW q0 13 = 5 ∨ modW q0 13 = 6 ∨ modW q0 13 = 7 ∨ modW q0 13 = 8 ∨ modW q0 13 = 9 ∨ modW q0 13 = 10 ∨ modW q0 13 = 11 ∨ modW q0 13 = 12) with hm | hm | hm | hm | hm | hm | hm | hm | hm | hm | hm | hm | hm
   ·have hr9:=modW_range q2 9 dC dC
    refine SC.sR (lU (iB uT25 zT3 I I dC dC) (lK (qL (v:=vi q0) iT3 I (cO 4 I I)) (lW (cL kT34 I (mod_spec E g1 _ q0 13 dC)) ?_)))
    rintro _ _ _ ⟨rfl,rfl,rfl⟩
    rw [hm]
    refine SL.nT (bK (SC.sR (lU (eQ I I) (lA I (SL.nT (cT I (rG (lM I (lM I (lW (cL kT34 I (mod_spec E g1 _ q2 9 dC)) ?_))))))))))
    rintro _ _ _ ⟨rfl,rfl,rfl⟩
    refine lU (sU I I oM) (lU (nC I) (lU (fA uT40 I zT3 I) (SL.O2 (SO.partA (e:=encCell) (a:=(⟨x.id,x.dim,⟨xp,x.sides.length,xc⟩⟩ : Rc)) (j:=k) (o:=0) 0 ⟨modW q2 9 - 1,x.dim,⟨xp,x.sides.length,xc⟩⟩ zT3 I I I hgr I I dC I) (nL (bN (fT fun ga hlea hsa=>?_))))))
    refine fT fun gb hleb hsb=>?_
    exact ST.mid (gb,(.slice (some ⟨bu,0,none⟩) rs.length cap)) sB I I ⟨hlea.trans hleb,_,SlA.mono (e:=encCell) hsa hleb,hfin gb _ _ (hlea.trans hleb) ⟨I,I,hsb⟩⟩
   ·have hr12:=modW_range q2 12 dC dC
    refine SC.sR (lU (iB uT25 zT3 I I dC dC) (lK (qL (v:=vi q0) iT3 I (cO 4 I I)) (lW (cL kT34 I (mod_spec E g1 _ q0 13 dC)) ?_)))
    rintro _ _ _ ⟨rfl,rfl,rfl⟩
    rw [hm]
    refine SL.nT (bK (SC.sR (lU (eQ I I) (lA I (SL.nT (cF I (SC.sR (lU (eQ I I) (lA I (SL.nT (cT I (rG (lM I (lM I (lW (cL kT34 I (mod_spec E g1 _ q2 12 dC)) ?_)))))))))))))))
    rintro _ _ _ ⟨rfl,rfl,rfl⟩
    refine lU (sU I I oM) (lU (nC I) (lU (fA uT40 I zT3 I) (SL.O2 (SO.partA (e:=encCell) (a:=(⟨x.id,x.dim,⟨xp,x.sides.length,xc⟩⟩ : Rc)) (j:=k) (o:=1) 0 ⟨x.id,modW q2 12 - 1,⟨xp,x.sides.length,xc⟩⟩ zT3 I I I hgr I I dC I) (nL (bN (fT fun ga hlea hsa=>?_))))))
    refine fT fun gb hleb hsb=>?_
    exact ST.mid (gb,(.slice (some ⟨bu,0,none⟩) rs.length cap)) sB I I ⟨hlea.trans hleb,_,SlA.mono (e:=encCell) hsa hleb,hfin gb _ _ (hlea.trans hleb) ⟨I,I,hsb⟩⟩
   ·refine SC.facts fun ⟨w0,hw0⟩=>?_
    have hcapr : rs.length ≤ cap:=(by obtain ⟨_,_,_,h1,h2⟩:=row_cap (i:=0) hw0 rfl (by omega : 0 < rs.length); omega)
    clear hw0 w0
    refine SC.sR (lU (iB uT25 zT3 I I dC dC) (lK (qL (v:=vi q0) iT3 I (cO 4 I I)) (lW (cL kT34 I (mod_spec E g1 _ q0 13 dC)) ?_)))
    rintro _ _ _ ⟨rfl,rfl,rfl⟩
    rw [hm]
    refine SL.nT (bK (SC.sR (lU (eQ I I) (lA I (SL.nT (cF I (SC.sR (lU (eQ I I) (lA I (SL.nT (cF I (SC.sR (lU (eQ I I) (lA I (SL.nT (cT I ?_))))))))))))))))
    refine dW [9,10,11] [(0,2),(1,1),(2,2),(3,2),(4,2),(5,1),(6,2),(7,2),(8,2),(9,0),(10,0),(11,0)] Tryz.mixed (by kernel_rfl) ?_
    refine pU I (fA uT31 I zT29 I) (pK I (qL (v:=(.slice (some ⟨bu,0,none⟩) rs.length cap)) iT29 I (cO 2 I I)) (pU I (mV I) (pU I (SU.sliceH uT29 zT40 I I oM oM) (pU I (fA uT31 I zT29 I) (pK I (qL (v:=(.slice (some ⟨bu,0,none⟩) rs.length cap)) iT29 I (cO 2 I I)) (pU I (mV I) (pU I (aD I I oM) (pU I (SU.eq (v':=sliced (some ⟨bu,0,none⟩) (k + 1) rs.length cap 3) (SU.sliceL uT29 zT40 I I oM oM) (by rw [show ((k : Int) + 1).toNat = k + 1 by omega])) ?_))))))))
    refine SP.o I (SO.cutA (j:=k) (n:=rs.length) (c:=cap) (p:=some ⟨bu,0,none⟩) (e:=encCell) 0 sty29 I I I I hkr) dC (.inl dC) ?_
    rintro _ _ _ ⟨rfl,rfl,rfl⟩
    refine oU I (fA uT31 I zT29 I) dC (.inl dC) (SP.on I (sK 2 zT29 I I I I I sB) (.inl dC) ?_)
    rintro _ _ _ ⟨rfl,rfl⟩
    refine pN (bN (fT fun ga hlea hsa=>?_))
    refine fT fun gb hleb hsb=>?_
    exact ST.mid (gb,(.slice (some ⟨bu,0,none⟩) (rs.length - 1) cap)) sB I I ⟨hlea.trans hleb,_,SlA.mono (e:=encCell) hsa hleb,All2.eraseIdx k (hfinA gb (hlea.trans hleb) ⟨I,I,hsb⟩)⟩
   ·refine SC.sR (lU (iB uT25 zT3 I I dC dC) (lK (qL (v:=vi q0) iT3 I (cO 4 I I)) (lW (cL kT34 I (mod_spec E g1 _ q0 13 dC)) ?_)))
    rintro _ _ _ ⟨rfl,rfl,rfl⟩
    rw [hm]
    refine SL.nT (bK (SC.sR (lU (eQ I I) (lA I (SL.nT (cF I (SC.sR (lU (eQ I I) (lA I (SL.nT (cF I (SC.sR (lU (eQ I I) (lA I (SL.nT (cF I (SC.sR (lU (eQ I I) (lA I (SL.nT ?_))))))))))))))))))))
    refine cT I (SC.sR (lM I (lU (nC I) (lU (fA uT40 I zT38 I) (lK (pA (e:=encCell) (a:=(⟨x.id,x.dim,⟨xp,x.sides.length,xc⟩⟩ : Rc)) (j:=k) (o:=2) (u:=(.slice xp x.sides.length xc)) iT38 I (Rd.rowA 0 I) hgr I) (lU (eN uT38 I) (lU (gR I I) (SL.nT ?_))))))))
    refine iP I (fun hsl=>?_) (fun hsl=>?_)
    ·refine SC.facts fun ⟨w0,hw0⟩=>?_
     obtain ⟨bx,cx,hbx⟩:=rowA_based (i:=1) hw0 rfl oM
     obtain ⟨rfl,rfl⟩ : xp = some ⟨bx,0,none⟩ ∧ xc = cx:=by injection hbx with h1 _ h2; exact ⟨h1,h2⟩
     clear hw0 w0 hbx
     obtain ⟨hj,hjl⟩:=hj1 oM
     have hgz:=hj2 oM
     have hr4:=modW_range q2 4 dC dC
     refine dW [10] [(0,2),(1,2),(2,2),(3,1),(4,2),(5,2),(6,0),(7,2),(8,2),(9,2),(10,0)] Tryz.mixed (by kernel_rfl) ?_
     refine pU rfl (mV rfl) (pU rfl (nC rfl) (pU rfl (fA uT40 rfl zT38 rfl) (pK rfl (pA (e:=encCell) (a:=(⟨x.id,x.dim,⟨some ⟨bx,0,none⟩,x.sides.length,xc⟩⟩ : Rc)) (j:=k) (o:=2) (u:=(.slice (some ⟨bx,0,none⟩) x.sides.length xc)) iT38 rfl (Rd.rowA 0 rfl) hgr rfl) (pU rfl (mV rfl) (pU rfl (mV rfl) (SP.o rfl (cL kT34 rfl (mod_spec E g1 _ q2 4 dC)) dC (.inr (by rintro _ _ _ ⟨rfl,rfl,rfl⟩; exact ⟨by exact Le.refl _,(by exact .refl _)⟩)) ?_))))))
     rintro _ _ _ ⟨rfl,rfl,rfl⟩
     refine pU I (sU I I oM) (pU I (iA uT38 zT42 I I I oM sL) (pU I (fC uT42 I zT3 I I) (SP.on I (SO.partA (e:=encSide) (a:=(x.sides.getD (sideJ x q2) dflS)) (j:=(sideJ x q2)) (o:=1) 1 ⟨(x.sides.getD (sideJ x q2) dflS).cell,modW q2 4 - 2⟩ zT3 I I I hgz I I dC I) (.inl dC) ?_)))
     rintro _ _ _ ⟨rfl,rfl⟩
     refine pN (bN (fT fun ga hlea hsa=>?_))
     refine fT fun gb hleb hsb=>?_
     exact ST.mid (gb,(.slice (some ⟨bu,0,none⟩) rs.length cap)) sB I I ⟨hlea.trans hleb,_,SlA.mono (e:=encCell) hsa hleb,hfin0 gb _ (hlea.trans hleb) ⟨I,I,hsb⟩⟩
    ·have hsn:=hnil hsl
     refine kP (bN (fT fun ga hlea hsa=>?_))
     refine fT fun gb hleb hsb=>?_
     exact ST.mid (gb,(.slice (some ⟨bu,0,none⟩) rs.length cap)) sB I I ⟨hlea.trans hleb,_,SlA.mono (e:=encCell) hsa hleb,hfin0 gb _ (hlea.trans hleb) ⟨I,I,by rw [hsn] at hsb ⊢; exact hsb⟩⟩
   ·refine SC.sR (lU (iB uT25 zT3 I I dC dC) (lK (qL (v:=vi q0) iT3 I (cO 4 I I)) (lW (cL kT34 I (mod_spec E g1 _ q0 13 dC)) ?_)))
    rintro _ _ _ ⟨rfl,rfl,rfl⟩
    rw [hm]
    refine SL.nT (bK (SC.sR (lU (eQ I I) (lA I (SL.nT (cF I (SC.sR (lU (eQ I I) (lA I (SL.nT (cF I (SC.sR (lU (eQ I I) (lA I (SL.nT (cF I (SC.sR (lU (eQ I I) (lA I (SL.nT ?_))))))))))))))))))))
    refine cF I (SC.sR (lU (eQ I I) (lA I (SL.nT (cT I (SC.sR (lM I (lU (nC I) (lU (fA uT40 I zT38 I) (lK (pA (e:=encCell) (a:=(⟨x.id,x.dim,⟨xp,x.sides.length,xc⟩⟩ : Rc)) (j:=k) (o:=2) (u:=(.slice xp x.sides.length xc)) iT38 I (Rd.rowA 0 I) hgr I) (lU (eN uT38 I) (lU (gR I I) (SL.nT ?_)))))))))))))
    refine iP I (fun hsl=>?_) (fun hsl=>?_)
    ·refine SC.facts fun ⟨w0,hw0⟩=>?_
     obtain ⟨bx,cx,hbx⟩:=rowA_based (i:=1) hw0 rfl oM
     obtain ⟨rfl,rfl⟩ : xp = some ⟨bx,0,none⟩ ∧ xc = cx:=by injection hbx with h1 _ h2; exact ⟨h1,h2⟩
     clear hw0 w0 hbx
     obtain ⟨hj,hjl⟩:=hj1 oM
     have hgz:=hj2 oM
     refine dW [16] [(0,2),(1,2),(2,2),(3,1),(4,2),(5,2),(6,2),(7,2),(8,1),(9,2),(10,2),(11,2),(12,1),(13,2),(14,2),(15,2),(16,0)] Tryz.mixed (by kernel_rfl) ?_
     refine pU I (mV I) (pU I (nC I) (pU I (fA uT40 I zT38 I) (pK I (pA (e:=encCell) (a:=(⟨x.id,x.dim,⟨some ⟨bx,0,none⟩,x.sides.length,xc⟩⟩ : Rc)) (j:=k) (o:=2) (u:=(.slice (some ⟨bx,0,none⟩) x.sides.length xc)) iT38 I (Rd.rowA 0 I) hgr I) (pU I (mV I) (pU I (mV I) (pU I (nC I) (pU I (fA uT40 I zT38 I) (pK I (pA (e:=encCell) (a:=(⟨x.id,x.dim,⟨some ⟨bx,0,none⟩,x.sides.length,xc⟩⟩ : Rc)) (j:=k) (o:=2) (u:=(.slice (some ⟨bx,0,none⟩) x.sides.length xc)) iT38 I (Rd.rowA 0 I) hgr I) (pU I (mV I) (pU I (iA uT38 zT42 I I I oM sL) (pU I (fC uT42 I zT3 I I) (pK I (pA (e:=encSide) (a:=(x.sides.getD (sideJ x q2) dflS)) (j:=(sideJ x q2)) (o:=1) (u:=vi (x.sides.getD (sideJ x q2) dflS).sign) iT3 I (Rd.rowA 1 I) hgz I) (pU I (SU.neg I) (pU I (iA uT38 zT42 I I I oM sL) (pU I (fC uT42 I zT3 I I) (SP.on I (SO.partA (e:=encSide) (a:=(x.sides.getD (sideJ x q2) dflS)) (j:=(sideJ x q2)) (o:=1) 1 (negS (x.sides.getD (sideJ x q2) dflS)) zT3 I I I hgz I I dC I) (.inl dC) ?_))))))))))))))))
     rintro _ _ _ ⟨rfl,rfl⟩
     refine pN (bN (fT fun ga hlea hsa=>?_))
     refine fT fun gb hleb hsb=>?_
     exact ST.mid (gb,(.slice (some ⟨bu,0,none⟩) rs.length cap)) sB I I ⟨hlea.trans hleb,_,SlA.mono (e:=encCell) hsa hleb,hfin0 gb _ (hlea.trans hleb) ⟨I,I,hsb⟩⟩
    ·have hsn:=hnil hsl
     refine kP (bN (fT fun ga hlea hsa=>?_))
     refine fT fun gb hleb hsb=>?_
     exact ST.mid (gb,(.slice (some ⟨bu,0,none⟩) rs.length cap)) sB I I ⟨hlea.trans hleb,_,SlA.mono (e:=encCell) hsa hleb,hfin0 gb _ (hlea.trans hleb) ⟨I,I,by rw [hsn] at hsb ⊢; exact hsb⟩⟩
   ·refine SC.sR (lU (iB uT25 zT3 I I dC dC) (lK (qL (v:=vi q0) iT3 I (cO 4 I I)) (lW (cL kT34 I (mod_spec E g1 _ q0 13 dC)) ?_)))
    rintro _ _ _ ⟨rfl,rfl,rfl⟩
    rw [hm]
    refine SL.nT (bK (SC.sR (lU (eQ I I) (lA I (SL.nT (cF I (SC.sR (lU (eQ I I) (lA I (SL.nT (cF I (SC.sR (lU (eQ I I) (lA I (SL.nT (cF I (SC.sR (lU (eQ I I) (lA I (SL.nT ?_))))))))))))))))))))
    refine cF I (SC.sR (lU (eQ I I) (lA I (SL.nT (cF I (SC.sR (lU (eQ I I) (lA I (SL.nT (cT I (SC.sR (lM I (lU (nC I) (lU (fA uT40 I zT38 I) (lK (pA (e:=encCell) (a:=(⟨x.id,x.dim,⟨xp,x.sides.length,xc⟩⟩ : Rc)) (j:=k) (o:=2) (u:=(.slice xp x.sides.length xc)) iT38 I (Rd.rowA 0 I) hgr I) (lU (eN uT38 I) (lU (gR I I) (SL.nT ?_))))))))))))))))))
    refine iP I (fun hsl=>?_) (fun hsl=>?_)
    ·refine SC.facts fun ⟨w0,hw0⟩=>?_
     obtain ⟨bx,cx,hbx⟩:=rowA_based (i:=1) hw0 rfl oM
     obtain ⟨rfl,rfl⟩ : xp = some ⟨bx,0,none⟩ ∧ xc = cx:=by injection hbx with h1 _ h2; exact ⟨h1,h2⟩
     clear hw0 w0 hbx
     obtain ⟨hj,hjl⟩:=hj1 oM
     have hgz:=hj2 oM
     obtain ⟨kk,yi,yd,yp,yc,hkk,hkl,hgy,hyi,_,_⟩:=hpick (IntKind.i64.wrap (q2.tdiv 3))
     refine dW [18] [(0,2),(1,2),(2,2),(3,1),(4,2),(5,2),(6,1),(7,2),(8,2),(9,2),(10,1),(11,2),(12,0),(13,2),(14,2),(15,1),(16,2),(17,2),(18,0)] Tryz.mixed (by kernel_rfl) ?_
     refine pU rfl (mV rfl) (pU rfl (nC rfl) (pU rfl (fA uT40 rfl zT38 rfl) (pK rfl (pA (e:=encCell) (a:=(⟨x.id,x.dim,⟨some ⟨bx,0,none⟩,x.sides.length,xc⟩⟩ : Rc)) (j:=k) (o:=2) (u:=(.slice (some ⟨bx,0,none⟩) x.sides.length xc)) iT38 rfl (Rd.rowA 0 rfl) hgr rfl) (pU rfl (mV rfl) (pU rfl (fA uT31 rfl zT29 rfl) (pK rfl (qL (v:=(.slice (some ⟨bu,0,none⟩) rs.length cap)) iT29 rfl (cO 2 rfl rfl)) (pU rfl (mV rfl) (pU rfl (SU.quo rfl rfl dC) (pU rfl (fA uT31 rfl zT29 rfl) (pK rfl (qL (v:=(.slice (some ⟨bu,0,none⟩) rs.length cap)) iT29 rfl (cO 2 rfl rfl)) (pU rfl (eN uT29 rfl) (SP.o rfl (cL kT34 rfl (mod_spec E g1 _ _ rs.length oM)) dC (.inr (by rintro _ _ _ ⟨rfl,rfl,rfl⟩; exact ⟨by exact Le.refl _,(by exact .refl _)⟩)) ?_))))))))))))
     rintro _ _ _ ⟨rfl,rfl,rfl⟩
     rw [hkk]
     refine pU I (iA uT29 zT40 I I I oM sL) (pU I (fC uT40 I zT3 I I) (pK I (pA (e:=encCell) (j:=kk) (o:=0) (u:=vi yi) iT3 I (Rd.rowA 0 I) hgy I) (pU I (iA uT38 zT42 I I I oM sL) (pU I (fC uT42 I zT3 I I) (SP.on I (SO.partA (e:=encSide) (a:=(x.sides.getD (sideJ x q2) dflS)) (j:=(sideJ x q2)) (o:=0) 1 ⟨yi,(x.sides.getD (sideJ x q2) dflS).sign⟩ zT3 I I I hgz I I dC I) (.inl dC) ?_)))))
     rintro _ _ _ ⟨rfl,rfl⟩
     refine pN (bN (fT fun ga hlea hsa=>?_))
     refine fT fun gb hleb hsb=>?_
     rw [hyi] at hsb
     exact ST.mid (gb,(.slice (some ⟨bu,0,none⟩) rs.length cap)) sB I I ⟨hlea.trans hleb,_,SlA.mono (e:=encCell) hsa hleb,hfin0 gb _ (hlea.trans hleb) ⟨I,I,hsb⟩⟩
    ·have hsn:=hnil hsl
     refine kP (bN (fT fun ga hlea hsa=>?_))
     refine fT fun gb hleb hsb=>?_
     exact ST.mid (gb,(.slice (some ⟨bu,0,none⟩) rs.length cap)) sB I I ⟨hlea.trans hleb,_,SlA.mono (e:=encCell) hsa hleb,hfin0 gb _ (hlea.trans hleb) ⟨I,I,by rw [hsn] at hsb ⊢; exact hsb⟩⟩
   ·refine SC.sR (lU (iB uT25 zT3 I I dC dC) (lK (qL (v:=vi q0) iT3 I (cO 4 I I)) (lW (cL kT34 I (mod_spec E g1 _ q0 13 dC)) ?_)))
    rintro _ _ _ ⟨rfl,rfl,rfl⟩
    rw [hm]
    refine SL.nT (bK (SC.sR (lU (eQ I I) (lA I (SL.nT (cF I (SC.sR (lU (eQ I I) (lA I (SL.nT (cF I (SC.sR (lU (eQ I I) (lA I (SL.nT (cF I (SC.sR (lU (eQ I I) (lA I (SL.nT ?_))))))))))))))))))))
    refine cF I (SC.sR (lU (eQ I I) (lA I (SL.nT (cF I (SC.sR (lU (eQ I I) (lA I (SL.nT (cF I (SC.sR (lU (eQ I I) (lA I (SL.nT (cT I (SC.sR (lM I (lU (nC I) (lU (fA uT40 I zT38 I) (lK (pA (e:=encCell) (a:=(⟨x.id,x.dim,⟨xp,x.sides.length,xc⟩⟩ : Rc)) (j:=k) (o:=2) (u:=(.slice xp x.sides.length xc)) iT38 I (Rd.rowA 0 I) hgr I) (lU (eN uT38 I) (lU (gR I I) ?_))))))))))))))))))))))
    refine SL.nT ?_
    refine iP I (fun hsl=>?_) (fun hsl=>?_)
    ·obtain ⟨hj,hjl⟩:=hj1 oM
     refine SC.facts fun ⟨w0,hw0⟩=>?_
     have hcapx : x.sides.length ≤ xc:=(by obtain ⟨_,_,_,h1,h2⟩:=row_cap (i:=1) hw0 rfl (by omega : 0 < x.sides.length); omega)
     clear hw0 w0
     refine dW [14,15,16,17] [(0,2),(1,2),(2,2),(3,2),(4,1),(5,2),(6,2),(7,2),(8,2),(9,2),(10,1),(11,2),(12,2),(13,2),(14,0),(15,0),(16,0),(17,0)] Tryz.mixed (by kernel_rfl) ?_
     refine pU I (mV I) (pU I (mV I) (pU I (nC I) (pU I (fA uT40 I zT38 I) (pK I (pA (e:=encCell) (a:=(⟨x.id,x.dim,⟨xp,x.sides.length,xc⟩⟩ : Rc)) (j:=k) (o:=2) (u:=(.slice xp x.sides.length xc)) iT38 I (Rd.rowA 0 I) hgr I) (pU I (mV I) (pU I (SU.sliceH uT38 zT42 I I oM oM) (pU I (mV I) (pU I (nC I) (pU I (fA uT40 I zT38 I) (pK I (pA (e:=encCell) (a:=(⟨x.id,x.dim,⟨xp,x.sides.length,xc⟩⟩ : Rc)) (j:=k) (o:=2) (u:=(.slice xp x.sides.length xc)) iT38 I (Rd.rowA 0 I) hgr I) (pU I (mV I) (pU I (aD I I oM) (pU I (SU.eq (v':=sliced xp ((sideJ x q2) + 1) x.sides.length xc 2) (SU.sliceL uT38 zT42 I I oM oM) (by rw [show (((sideJ x q2) : Int) + 1).toNat = (sideJ x q2) + 1 by omega])) ?_)))))))))))))
     refine SP.o I (SO.cutA (j:=(sideJ x q2)) (n:=x.sides.length) (c:=xc) (p:=xp) (e:=encSide) 1 sty38 I I I I hjl) dC (.inl dC) ?_
     rintro _ _ _ ⟨rfl,rfl,rfl⟩
     refine oU I (nC I) dC (.inl dC) (oU I (fA uT40 I zT38 I) dC (.inl dC) (SP.on I (SO.partA (e:=encCell) (a:=(⟨x.id,x.dim,⟨xp,x.sides.length,xc⟩⟩ : Rc)) (j:=k) (o:=2) 0 ⟨x.id,x.dim,⟨xp,x.sides.length - 1,xc⟩⟩ zT38 I I I hgr I I dC I) (.inl dC) ?_))
     rintro _ _ _ ⟨rfl,rfl⟩
     refine pN (bN (fT fun ga hlea hsa=>?_))
     refine fT fun gb hleb hsb=>?_
     exact ST.mid (gb,(.slice (some ⟨bu,0,none⟩) rs.length cap)) sB I I ⟨hlea.trans hleb,_,SlA.mono (e:=encCell) hsa hleb,hfin gb _ _ (hlea.trans hleb) ⟨I,I,hsb⟩⟩
    ·have hsn:=hnil hsl
     refine kP (bN (fT fun ga hlea hsa=>?_))
     refine fT fun gb hleb hsb=>?_
     exact ST.mid (gb,(.slice (some ⟨bu,0,none⟩) rs.length cap)) sB I I ⟨hlea.trans hleb,_,SlA.mono (e:=encCell) hsa hleb,hfin0 gb _ (hlea.trans hleb) ⟨I,I,by rw [hsn] at hsb ⊢; exact hsb⟩⟩
   ·have hr2:=modW_range q2 2 dC dC
    obtain ⟨kk,yi,yd,yp,yc,hkk,hkl,hgy,hyi,_,_⟩:=hpick q2
    refine SC.sR (lU (iB uT25 zT3 I I dC dC) (lK (qL (v:=vi q0) iT3 I (cO 4 I I)) (lW (cL kT34 I (mod_spec E g1 _ q0 13 dC)) ?_)))
    rintro _ _ _ ⟨rfl,rfl,rfl⟩
    rw [hm]
    refine SL.nT (bK (SC.sR (lU (eQ I I) (lA I (SL.nT (cF I (SC.sR (lU (eQ I I) (lA I (SL.nT (cF I (SC.sR (lU (eQ I I) (lA I (SL.nT (cF I (SC.sR (lU (eQ I I) (lA I (SL.nT ?_))))))))))))))))))))
    refine cF I (SC.sR (lU (eQ I I) (lA I (SL.nT (cF I (SC.sR (lU (eQ I I) (lA I (SL.nT (cF I (SC.sR (lU (eQ I I) (lA I (SL.nT (cF I (SC.sR (lU (eQ I I) (lA I (SL.nT (cT I ?_))))))))))))))))))))
    refine dW [21,22,23,24] [(0,2),(1,2),(2,2),(3,2),(4,1),(5,2),(6,1),(7,2),(8,2),(9,1),(10,2),(15,2),(11,0),(12,2),(13,2),(14,1),(16,0),(17,2),(18,2),(19,2),(20,0),(21,0),(22,0),(23,0),(24,0)] Tryz.mixed (by kernel_rfl) ?_
    refine pU rfl (mV rfl) (pU rfl (mV rfl) (pU rfl (nC rfl) (pU rfl (fA uT40 rfl zT38 rfl) (pK rfl (pA (e:=encCell) (a:=(⟨x.id,x.dim,⟨xp,x.sides.length,xc⟩⟩ : Rc)) (j:=k) (o:=2) (u:=(.slice xp x.sides.length xc)) iT38 rfl (Rd.rowA 0 rfl) hgr rfl) (pU rfl (fA uT31 rfl zT29 rfl) (pK rfl (qL (v:=(.slice (some ⟨bu,0,none⟩) rs.length cap)) iT29 rfl (cO 2 rfl rfl)) (pU rfl (mV rfl) (pU rfl (fA uT31 rfl zT29 rfl) (pK rfl (qL (v:=(.slice (some ⟨bu,0,none⟩) rs.length cap)) iT29 rfl (cO 2 rfl rfl)) (pU rfl (eN uT29 rfl) (pU rfl (mV rfl) (SP.o rfl (cL kT34 rfl (mod_spec E g1 _ q2 rs.length oM)) dC (.inr (by rintro _ _ _ ⟨rfl,rfl,rfl⟩; exact ⟨by exact Le.refl _,(by exact .refl _)⟩)) ?_))))))))))))
    rintro _ _ _ ⟨rfl,rfl,rfl⟩
    rw [hkk]
    refine pU rfl (iA uT29 zT40 rfl rfl rfl oM sL) (pU rfl (fC uT40 rfl zT3 rfl rfl) (pK rfl (pA (e:=encCell) (j:=kk) (o:=0) (u:=vi yi) iT3 rfl (Rd.rowA 0 rfl) hgy rfl) (SP.o rfl (cL kT34 rfl (mod_spec E g1 _ q2 2 dC)) dC (.inr (by rintro _ _ _ ⟨rfl,rfl,rfl⟩; exact ⟨by exact Le.refl _,(by exact .refl _)⟩)) ?_)))
    rintro _ _ _ ⟨rfl,rfl,rfl⟩
    refine pU rfl (SU.mul rfl rfl oM) (pU rfl (sU rfl rfl oM) (pU rfl (SU.build rfl (buildS42 _ _)) (SP.o rfl (bS sty38 rfl rfl rfl (szs_mk sB) dC) dC (.inr (by rintro _ _ _ ⟨b195,rfl,rfl,rfl⟩; exact ⟨by exact Le.refl _,(by exact .cons _ (.refl _))⟩)) ?_)))
    rintro _ _ _ ⟨b195,rfl,rfl,rfl⟩
    refine SP.o I (aP (e:=encSide) 1 ⟨yi,1 - 2 * modW q2 2⟩ sty38 I I I I I oM oM) dC (.inl dC) ?_
    rintro v196 _ _ ⟨rfl,rfl⟩
    refine SP.facts fun ⟨w0,hw0⟩=>?_
    obtain ⟨q7,d7,rfl⟩:=rowA_form (i:=1) hw0 rfl
    clear hw0 w0
    refine oU I (nC I) dC (.inl dC) (oU I (fA uT40 I zT38 I) dC (.inl dC) (SP.on I (SO.partA (e:=encCell) (a:=(⟨x.id,x.dim,⟨xp,x.sides.length,xc⟩⟩ : Rc)) (j:=k) (o:=2) 0 ⟨x.id,x.dim,⟨q7,(x.sides ++ [((⟨yi,1 - 2 * modW q2 2⟩) : Side)]).length,d7⟩⟩ zT38 I I I hgr I I dC I) (.inl dC) ?_))
    rintro _ _ _ ⟨rfl,rfl⟩
    refine pN (bN (fT fun ga hlea hsa=>?_))
    refine fT fun gb hleb hsb=>?_
    exact ST.mid (gb,(.slice (some ⟨bu,0,none⟩) rs.length cap)) sB I I ⟨hlea.trans hleb,_,SlA.mono (e:=encCell) hsa hleb,hfin gb _ _ (hlea.trans hleb) ⟨I,I,by subst hyi; exact hsb⟩⟩
   ·refine SC.sR (lU (iB uT25 zT3 I I dC dC) (lK (qL (v:=vi q0) iT3 I (cO 4 I I)) (lW (cL kT34 I (mod_spec E g1 _ q0 13 dC)) ?_)))
    rintro _ _ _ ⟨rfl,rfl,rfl⟩
    rw [hm]
    refine SL.nT (bK (SC.sR (lU (eQ I I) (lA I (SL.nT (cF I (SC.sR (lU (eQ I I) (lA I (SL.nT (cF I (SC.sR (lU (eQ I I) (lA I (SL.nT (cF I (SC.sR (lU (eQ I I) (lA I (SL.nT ?_))))))))))))))))))))
    refine cF I (SC.sR (lU (eQ I I) (lA I (SL.nT (cF I (SC.sR (lU (eQ I I) (lA I (SL.nT (cF I (SC.sR (lU (eQ I I) (lA I (SL.nT (cF I (SC.sR (lU (eQ I I) (lA I (SL.nT (cF I (sQ ?_)))))))))))))))))))))
    refine rG (lU (eQ I I) (lA I (SL.nT (cT I ?_))))
    refine dW [6,7,8] [(0,2),(1,1),(2,2),(3,2),(4,1),(5,0),(6,0),(7,0),(8,0)] Tryz.mixed (by kernel_rfl) ?_
    refine pU rfl (fA uT31 rfl zT29 rfl) (pK rfl (qL (v:=(.slice (some ⟨bu,0,none⟩) rs.length cap)) iT29 rfl (cO 2 rfl rfl)) (pU rfl (mV rfl) (pU rfl (nC rfl) (pK rfl (eA (e:=encCell) (a:=(⟨x.id,x.dim,⟨xp,x.sides.length,xc⟩⟩ : Rc)) (j:=k) iT40 zT40 rfl (Rd.rowA 0 rfl) hgr) (SP.o rfl (bS sty29 rfl rfl rfl (szs_mk sB) dC) dC (.inr (by rintro _ _ _ ⟨b206,rfl,rfl,rfl⟩; exact ⟨by exact Le.refl _,(by exact .cons _ (.refl _))⟩)) ?_)))))
    rintro _ _ _ ⟨b206,rfl,rfl,rfl⟩
    refine SP.o I (aP (e:=encCell) 0 (⟨x.id,x.dim,⟨xp,x.sides.length,xc⟩⟩ : Rc) sty29 I I I I I oM oM) dC (.inl dC) ?_
    rintro v207 _ _ ⟨rfl,rfl⟩
    refine SP.facts fun ⟨w0,hw0⟩=>?_
    obtain ⟨q7,d7,rfl⟩:=rowA_form (i:=0) hw0 rfl
    clear hw0 w0
    refine oU I (fA uT31 I zT29 I) dC (.inl dC) (SP.on I (sK 2 zT29 I I I I I sB) (.inl dC) ?_)
    rintro _ _ _ ⟨rfl,rfl⟩
    refine pN (bN (fT fun ga hlea hsa=>?_))
    refine fT fun gb hleb hsb=>?_
    exact ST.mid (gb,_) sB I I ⟨hlea.trans hleb,_,SlA.mono (e:=encCell) hsa hleb,(hfinA gb (hlea.trans hleb) ⟨I,I,hsb⟩).append ⟨⟨I,I,hsb⟩,trivial⟩⟩
   ·obtain ⟨kk,yi,yd,yp,yc,hkk,hkl,hgy,hyi,hyl,hyr⟩:=hpick q2
    refine SC.sR (lU (iB uT25 zT3 I I dC dC) (lK (qL (v:=vi q0) iT3 I (cO 4 I I)) (lW (cL kT34 I (mod_spec E g1 _ q0 13 dC)) ?_)))
    rintro _ _ _ ⟨rfl,rfl,rfl⟩
    rw [hm]
    refine SL.nT (bK (SC.sR (lU (eQ I I) (lA I (SL.nT (cF I (SC.sR (lU (eQ I I) (lA I (SL.nT (cF I (SC.sR (lU (eQ I I) (lA I (SL.nT (cF I (SC.sR (lU (eQ I I) (lA I (SL.nT ?_))))))))))))))))))))
    refine cF I (SC.sR (lU (eQ I I) (lA I (SL.nT (cF I (SC.sR (lU (eQ I I) (lA I (SL.nT (cF I (SC.sR (lU (eQ I I) (lA I (SL.nT (cF I (SC.sR (lU (eQ I I) (lA I (SL.nT (cF I (sQ ?_)))))))))))))))))))))
    refine rG (lU (eQ I I) (lA I (SL.nT (cF I (SC.sR (lU (eQ I I) (lA I (SL.nT (cT I ?_)))))))))
    refine SC.cut (ι:=Nat) (fun b10=>[(2,pp b2 0),(3,pp b3 0),(4,pp b4 0),(5,pp b5 0),(6,vi (k : Nat)),(7,cptr (.slice (some ⟨bu,0,none⟩) rs.length cap) (k * 3)),(8,vi q2),(9,vi ((sideJ x q2) : Nat)),(10,pp b10 0)]) (fun _=>g1) (fun b10=>pt b10 (.cells #[vi yi,vi yd,(.slice yp (pickC l q2).sides.length yc)] 40 (0,0)) :: rowA encCell 40 (.slice (some ⟨bu,0,none⟩) rs.length cap) rs :: rowA encSide 42 (.slice xp x.sides.length xc) x.sides :: pt b5 (.cells #[(.slice (some ⟨bu,0,none⟩) rs.length cap)] 31 (0,0)) :: pt b4 (.cells #[.slice none 0 0] 31 (0,0)) :: pt b3 (.cells #[vi q0,vi q1,vi q2] 25 (0,0)) :: pt b2 (.cells #[.slice p l.length c] 31 (0,0)) :: s) (fun _=>True) ?_ ?_
    ·refine SC.drawX [] Tryz.mixed (by kernel_rfl) ?_
     refine SX.u (i:=0) I (by kernel_rfl) (fA uT31 I zT29 I) dC (SX.q (i:=1) I (by kernel_rfl) (qL (v:=(.slice (some ⟨bu,0,none⟩) rs.length cap)) iT29 I (cO 2 I I)) dC (SX.u (i:=2) I (by kernel_rfl) (mV I) dC (SX.u (i:=3) I (by kernel_rfl) (fA uT31 I zT29 I) dC (SX.q (i:=4) I (by kernel_rfl) (qL (v:=(.slice (some ⟨bu,0,none⟩) rs.length cap)) iT29 I (cO 2 I I)) dC (SX.u (i:=5) I (by kernel_rfl) (eN uT29 I) dC ?_)))))
     refine SX.br2 6 9 (by kernel_rfl) ?_ ?_
     ·refine SB.o (i:=6) rfl (cL kT34 rfl (mod_spec E g1 _ q2 rs.length oM)) dC (.inr (by rintro _ _ _ ⟨rfl,rfl,rfl⟩; exact ⟨by exact Le.refl _,(by exact .refl _)⟩)) ?_
      rintro _ _ _ ⟨rfl,rfl,rfl⟩
      rw [hkk]
      refine SX.u (i:=7) I (by kernel_rfl) (iA uT29 zT40 I I I oM sL) dC (SX.q (i:=8) I (by kernel_rfl) (eA (e:=encCell) (j:=kk) iT40 zT40 I (Rd.rowA 0 I) hgy) dC ?_)
      refine SX.br1 9 (by kernel_rfl) ?_
      ·refine SB.o (i:=9) rfl (aL zeroValue40) dC (.inr (by rintro _ _ _ ⟨b10,rfl,rfl,rfl⟩; exact ⟨by exact Le.refl _,(by exact .cons _ (.refl _))⟩)) ?_
       rintro _ _ _ ⟨b10,rfl,rfl,rfl⟩
       refine SX.br1 10 (by kernel_rfl) ?_
       ·refine SB.on (i:=10) rfl (sK 0 zT40 rfl rfl rfl rfl rfl sB) (.inr (by rintro _ _ _ ⟨rfl,rfl⟩; exact ⟨by exact Le.refl _,(by exact .cons _ (.refl _))⟩)) ?_
        rintro _ _ _ ⟨rfl,rfl⟩
        refine SX.nil (by kernel_rfl) ?_
        exact ST.mid b10 sB I I trivial
     ·refine SB.o (i:=9) rfl (aL zeroValue40) dC (.inr (by rintro _ _ _ ⟨b10,rfl,rfl,rfl⟩; exact ⟨by exact Le.refl _,(by exact .cons _ (.refl _))⟩)) ?_
      rintro _ _ _ ⟨b10,rfl,rfl,rfl⟩
      refine SX.br1 6 (by kernel_rfl) ?_
      ·refine SB.o (i:=6) rfl (cL kT34 rfl (mod_spec E g1 _ q2 rs.length oM)) dC (.inr (by rintro _ _ _ ⟨rfl,rfl,rfl⟩; exact ⟨by exact Le.refl _,(by exact .cons _ (.refl _))⟩)) ?_
       rintro _ _ _ ⟨rfl,rfl,rfl⟩
       rw [hkk]
       refine SX.u (i:=7) I (by kernel_rfl) (iA uT29 zT40 I I I oM sL) dC (SX.q (i:=8) I (by kernel_rfl) (eA (e:=encCell) (j:=kk) iT40 zT40 I (Rd.rowA 0 I) hgy) dC ?_)
       refine SX.br1 10 (by kernel_rfl) ?_
       ·refine SB.on (i:=10) rfl (sK 0 zT40 rfl rfl rfl rfl rfl sB) (.inr (by rintro _ _ _ ⟨rfl,rfl⟩; exact ⟨by exact Le.refl _,(by exact .cons _ (.refl _))⟩)) ?_
        rintro _ _ _ ⟨rfl,rfl⟩
        refine SX.nil (by kernel_rfl) ?_
        exact ST.mid b10 sB I I trivial
    rintro b10 -
    try dsimp only
    have hrd : ∀ S : Own,S[2]? = some (rowA encSide 42 (.slice xp x.sides.length xc) x.sides) → Rd g1 S (.slice yp (pickC l q2).sides.length yc) ((pickC l q2).sides.flatMap encSide.enc):=fun S hS=>by
     rcases hyr with ⟨h1,h2,h3⟩ | h
     ·rw [h1,h2,h3]; exact Rd.rowA 2 hS
     ·exact Sl.rd h
    refine dW [7,8,9,10] [(0,2),(1,2),(2,2),(3,2),(4,1),(5,2),(6,1),(7,0),(8,0),(9,0),(10,0)] Tryz.mixed (by kernel_rfl) ?_
    refine pU I (mV I) (pU I (mV I) (pU I (nC I) (pU I (fA uT40 I zT38 I) (pK I (pA (e:=encCell) (a:=(⟨x.id,x.dim,⟨xp,x.sides.length,xc⟩⟩ : Rc)) (j:=k) (o:=2) (u:=(.slice xp x.sides.length xc)) iT38 I (Rd.rowA 1 I) hgr I) (pU I (fA uT40 I zT38 I) (pK I (qL (v:=(.slice yp (pickC l q2).sides.length yc)) iT38 I (cO 0 I I)) (SP.o I (SO.appendE (m:=(pickC l q2).sides.length) 2 (x.sides ++ (pickC l q2).sides).length ((x.sides ++ (pickC l q2).sides).flatMap encSide.enc) sty38 I I I I I (hrd _ I) (encSide.length _) (encSide.ones _) (by simp) (by simp) (by rw [List.length_append]; omega) (by rw [List.length_append]; omega)) dC (.inl dC) ?_)))))))
    rintro v227 _ _ ⟨rfl,rfl⟩
    refine SP.facts fun ⟨w0,hw0⟩=>?_
    obtain ⟨q7,d7,rfl⟩:=rowA_form (e:=encSide) (l:=x.sides ++ (pickC l q2).sides) (i:=2) hw0 rfl
    clear hw0 w0
    refine oU I (nC I) dC (.inl dC) (oU I (fA uT40 I zT38 I) dC (.inl dC) (SP.on I (SO.partA (e:=encCell) (a:=(⟨x.id,x.dim,⟨xp,x.sides.length,xc⟩⟩ : Rc)) (j:=k) (o:=2) 1 ⟨x.id,x.dim,⟨q7,(x.sides ++ (pickC l q2).sides).length,d7⟩⟩ zT38 I I I hgr I I dC I) (.inl dC) ?_))
    rintro _ _ _ ⟨rfl,rfl⟩
    refine pN (bN (dR (.cons _ (.refl _)) (fT fun ga hlea hsa=>?_)))
    refine fT fun gb hleb hsb=>?_
    exact ST.mid (gb,(.slice (some ⟨bu,0,none⟩) rs.length cap)) sB I I ⟨hlea.trans hleb,_,SlA.mono (e:=encCell) hsa hleb,hfin gb _ _ (hlea.trans hleb) ⟨I,I,hsb⟩⟩
   ·refine SC.sR (lU (iB uT25 zT3 I I dC dC) (lK (qL (v:=vi q0) iT3 I (cO 4 I I)) (lW (cL kT34 I (mod_spec E g1 _ q0 13 dC)) ?_)))
    rintro _ _ _ ⟨rfl,rfl,rfl⟩
    rw [hm]
    refine SL.nT (bK (SC.sR (lU (eQ I I) (lA I (SL.nT (cF I (SC.sR (lU (eQ I I) (lA I (SL.nT (cF I (SC.sR (lU (eQ I I) (lA I (SL.nT (cF I (SC.sR (lU (eQ I I) (lA I (SL.nT ?_))))))))))))))))))))
    refine cF I (SC.sR (lU (eQ I I) (lA I (SL.nT (cF I (SC.sR (lU (eQ I I) (lA I (SL.nT (cF I (SC.sR (lU (eQ I I) (lA I (SL.nT (cF I (SC.sR (lU (eQ I I) (lA I (SL.nT (cF I (sQ ?_)))))))))))))))))))))
    refine rG (lU (eQ I I) (lA I (SL.nT (cF I (SC.sR (lU (eQ I I) (lA I (SL.nT (cF I (SC.sR (lU (eQ I I) (lA I (SL.nT (cT I (SC.sR (lA I (SL.nT (bK ?_))))))))))))))))))
    have hn0 : negTo x.sides 0 = x.sides:=by simp [negTo]
    refine SC.to (fun w hw=>?_) (g':=g1) (s':=rowA encCell 40 (.slice (some ⟨bu,0,none⟩) rs.length cap) rs :: rowA encSide 42 (.slice xp x.sides.length xc) (negTo x.sides 0) :: pt b5 (.cells #[(.slice (some ⟨bu,0,none⟩) rs.length cap)] 31 (0,0)) :: pt b4 (.cells #[.slice none 0 0] 31 (0,0)) :: pt b3 (.cells #[vi q0,vi q1,vi q2] 25 (0,0)) :: pt b2 (.cells #[.slice p l.length c] 31 (0,0)) :: s) ?_
    ·rw [hn0]; exact hw
    refine oP (ι:=Nat) (fun i=>[(2,pp b2 0),(3,pp b3 0),(4,pp b4 0),(5,pp b5 0),(6,vi (k : Nat)),(7,cptr (.slice (some ⟨bu,0,none⟩) rs.length cap) (k * 3)),(8,vi q2),(9,vi ((sideJ x q2) : Nat)),(11,vi i)]) (fun _=>g1) (fun i=>rowA encCell 40 (.slice (some ⟨bu,0,none⟩) rs.length cap) rs :: rowA encSide 42 (.slice xp x.sides.length xc) (negTo x.sides i) :: pt b5 (.cells #[(.slice (some ⟨bu,0,none⟩) rs.length cap)] 31 (0,0)) :: pt b4 (.cells #[.slice none 0 0] 31 (0,0)) :: pt b3 (.cells #[vi q0,vi q1,vi q2] 25 (0,0)) :: pt b2 (.cells #[.slice p l.length c] 31 (0,0)) :: s) (fun i=>i ≤ x.sides.length) (fun i=>x.sides.length - i) 0 sB I I (Nat.zero_le _) ?_
    rintro i hi
    refine sQ (SC.sR (lM I (lM I (lU (nC I) (lU (fA uT40 I zT38 I) (lK (pA (e:=encCell) (a:=(⟨x.id,x.dim,⟨xp,x.sides.length,xc⟩⟩ : Rc)) (j:=k) (o:=2) (u:=(.slice xp x.sides.length xc)) iT38 I (Rd.rowA 0 I) hgr I) (lU (eN uT38 I) (lU (lS I I) (SL.nT ?_)))))))))
    refine iP I (fun hlt=>?_) (fun hlt=>?_)
    ·have hil : i < x.sides.length:=oM
     refine SC.facts fun ⟨w0,hw0⟩=>?_
     obtain ⟨bx,cx,hbx⟩:=rowA_based (i:=1) hw0 rfl (by rw [negTo_length _ _ hi]; omega)
     rw [negTo_length _ _ hi] at hbx
     obtain ⟨rfl,rfl⟩ : xp = some ⟨bx,0,none⟩ ∧ xc = cx:=by injection hbx with h1 _ h2; exact ⟨h1,h2⟩
     clear hw0 w0 hbx
     have hgz:=negTo_get hil
     have hst:=negTo_set hil
     refine kP (tN (sQ (bK ?_)))
     refine dW [16] [(0,2),(1,2),(2,2),(3,1),(4,2),(5,2),(6,2),(7,2),(8,1),(9,2),(10,2),(11,2),(12,1),(13,2),(14,2),(15,2),(16,0)] Tryz.mixed (by kernel_rfl) ?_
     refine pU I (mV I) (pU I (nC I) (pU I (fA uT40 I zT38 I) (pK I (pA (e:=encCell) (a:=(⟨x.id,x.dim,⟨some ⟨bx,0,none⟩,x.sides.length,xc⟩⟩ : Rc)) (j:=k) (o:=2) (u:=(.slice (some ⟨bx,0,none⟩) x.sides.length xc)) iT38 I (Rd.rowA 0 I) hgr I) (pU I (mV I) (pU I (mV I) (pU I (nC I) (pU I (fA uT40 I zT38 I) (pK I (pA (e:=encCell) (a:=(⟨x.id,x.dim,⟨some ⟨bx,0,none⟩,x.sides.length,xc⟩⟩ : Rc)) (j:=k) (o:=2) (u:=(.slice (some ⟨bx,0,none⟩) x.sides.length xc)) iT38 I (Rd.rowA 0 I) hgr I) (pU I (mV I) (pU I (iA uT38 zT42 I I I oM sL) (pU I (fC uT42 I zT3 I I) (pK I (pA (e:=encSide) (a:=x.sides[i]) (j:=i) (o:=1) (u:=vi x.sides[i].sign) iT3 I (Rd.rowA 1 I) hgz I) (pU I (SU.neg I) (pU I (iA uT38 zT42 I I I oM sL) (pU I (fC uT42 I zT3 I I) (SP.on I (SO.partA (e:=encSide) (a:=x.sides[i]) (j:=i) (o:=1) 1 (negS x.sides[i]) zT3 I I I hgz I I dC I) (.inl dC) ?_))))))))))))))))
     rintro _ _ _ ⟨rfl,rfl⟩
     rw [hst]
     refine pN (bN (tN (rG (lM I (lU (aD I I oM) (lA I (nL ?_)))))))
     exact gA (i + 1) sB I I oM oM
    ·have hii : negTo x.sides i = x.sides.map negS:=by
      have : i = x.sides.length:=oM
      subst this
      simp [negTo]
     rw [hii]
     refine xI (tX (tX (bX (bN (fT fun ga hlea hsa=>?_)))))
     refine fT fun gb hleb hsb=>?_
     exact ST.mid (gb,(.slice (some ⟨bu,0,none⟩) rs.length cap)) sB I I ⟨hlea.trans hleb,_,SlA.mono (e:=encCell) hsa hleb,hfin0 gb _ (hlea.trans hleb) ⟨I,I,hsb⟩⟩
   ·have hr3:=modW_range q2 3 dC dC
    refine SC.sR (lU (iB uT25 zT3 I I dC dC) (lK (qL (v:=vi q0) iT3 I (cO 4 I I)) (lW (cL kT34 I (mod_spec E g1 _ q0 13 dC)) ?_)))
    rintro _ _ _ ⟨rfl,rfl,rfl⟩
    rw [hm]
    refine SL.nT (bK (SC.sR (lU (eQ I I) (lA I (SL.nT (cF I (SC.sR (lU (eQ I I) (lA I (SL.nT (cF I (SC.sR (lU (eQ I I) (lA I (SL.nT (cF I (SC.sR (lU (eQ I I) (lA I (SL.nT ?_))))))))))))))))))))
    refine cF I (SC.sR (lU (eQ I I) (lA I (SL.nT (cF I (SC.sR (lU (eQ I I) (lA I (SL.nT (cF I (SC.sR (lU (eQ I I) (lA I (SL.nT (cF I (SC.sR (lU (eQ I I) (lA I (SL.nT (cF I (sQ ?_)))))))))))))))))))))
    refine rG (lU (eQ I I) (lA I (SL.nT (cF I (SC.sR (lU (eQ I I) (lA I (SL.nT (cF I (SC.sR (lU (eQ I I) (lA I (SL.nT (cF I (SC.sR (lU (eQ I I) (lA I (SL.nT (cT I ?_)))))))))))))))))))
    refine SC.drawX [15,17] Tryz.mixed (by kernel_rfl) ?_
    refine SX.u (i:=0) I (by kernel_rfl) (fA uT31 I zT29 I) dC (SX.q (i:=1) I (by kernel_rfl) (qL (v:=(.slice (some ⟨bu,0,none⟩) rs.length cap)) iT29 I (cO 2 I I)) dC (SX.u (i:=2) I (by kernel_rfl) (mV I) dC (SX.u (i:=5) I (by kernel_rfl) (mV I) dC (SX.u (i:=8) I (by kernel_rfl) (mV I) dC (SX.u (i:=9) I (by kernel_rfl) (nC I) dC (SX.u (i:=10) I (by kernel_rfl) (fA uT40 I zT38 I) dC (SX.q (i:=11) I (by kernel_rfl) (pA (e:=encCell) (a:=(⟨x.id,x.dim,⟨xp,x.sides.length,xc⟩⟩ : Rc)) (j:=k) (o:=2) (u:=(.slice xp x.sides.length xc)) iT38 I (Rd.rowA 0 I) hgr I) dC ?_)))))))
    refine SX.br2 3 7 (by kernel_rfl) ?_ ?_
    ·refine SB.o (i:=3) rfl (cL kT34 rfl (mod_spec E g1 _ q2 3 dC)) dC (.inr (by rintro _ _ _ ⟨rfl,rfl,rfl⟩; exact ⟨by exact Le.refl _,(by exact .refl _)⟩)) ?_
     rintro _ _ _ ⟨rfl,rfl,rfl⟩
     refine SX.u (i:=4) I (by kernel_rfl) (aD I I oM) dC ?_
     refine SX.br2 6 7 (by kernel_rfl) ?_ ?_
     ·refine SB.o (i:=6) rfl (cL kT34 rfl (mod_spec E g1 _ q2 4 dC)) dC (.inr (by rintro _ _ _ ⟨rfl,rfl,rfl⟩; exact ⟨by exact Le.refl _,(by exact .refl _)⟩)) ?_
      rintro _ _ _ ⟨rfl,rfl,rfl⟩
      refine SX.br1 7 (by kernel_rfl) ?_
      ·refine SB.o (i:=7) rfl (bS sty38 rfl rfl rfl (szs_mk trivial) dC) dC (.inr (by rintro _ _ _ ⟨b266,rfl,rfl,rfl⟩; exact ⟨by exact Le.refl _,(by exact .cons _ (.refl _))⟩)) ?_
       rintro _ _ _ ⟨b266,rfl,rfl,rfl⟩
       refine SX.to (fun w hw=>(hw.sublist (List.Sublist.cons _ (.refl _))).emptyRow 42 2 (some ⟨b266,0,none⟩)) ?_
       refine SX.br1 12 (by kernel_rfl) ?_
       ·refine SB.o (i:=12) rfl (SO.appendE (m:=x.sides.length) 0 x.sides.length (x.sides.flatMap encSide.enc) sty38 rfl rfl rfl rfl rfl (Rd.rowA 2 rfl) (encSide.length _) (encSide.ones _) oM (by simp) oM oM) dC (.inr (by rintro v271 _ _ ⟨rfl,rfl⟩; exact ⟨by exact Le.refl _,(by exact .cons _ (.refl _))⟩)) ?_
        rintro v271 _ _ ⟨rfl,rfl⟩
        refine SX.freezeRow fun gq hleq hsq=>?_
        have hsd : SlA encSide gq v271 x.sides:=hsq
        obtain ⟨q7,d7,rfl⟩:=SlA.form hsd
        refine SX.u (i:=13) I (by kernel_rfl) (SU.build I (buildF40 _ _ _ I)) dC ?_
        refine SX.br1 14 (by kernel_rfl) ?_
        ·refine SB.o (i:=14) rfl (bS sty29 rfl rfl rfl (szs_mk sB) dC) dC (.inr (by rintro _ _ _ ⟨b273,rfl,rfl,rfl⟩; exact ⟨by assumption,(by exact .cons _ (.refl _))⟩)) ?_
         rintro _ _ _ ⟨b273,rfl,rfl,rfl⟩
         refine SX.br1 15 (by kernel_rfl) ?_
         ·refine SB.o (i:=15) I (aP (e:=encCell) 0 ⟨500 + modW q2 3,modW q2 4,⟨q7,x.sides.length,d7⟩⟩ sty29 I I I I I oM oM) dC (.inl dC) ?_
          rintro v274 _ _ ⟨rfl,rfl⟩
          refine SX.facts fun ⟨w0,hw0⟩=>?_
          obtain ⟨q8,d8,rfl⟩:=rowA_form (i:=0) hw0 rfl
          clear hw0 w0
          refine SX.u (i:=16) I (by kernel_rfl) (fA uT31 I zT29 I) dC ?_
          refine SX.br1 17 (by kernel_rfl) ?_
          ·refine SB.on (i:=17) I (sK 2 zT29 I I I I I sB) (.inl dC) ?_
           rintro _ _ _ ⟨rfl,rfl⟩
           refine SX.nil (by kernel_rfl) (bN ?_)
           (refine fT fun ga hlea hsa=>?_; refine fT fun gb hleb hsb=>?_; exact ST.mid (gb,_) sB rfl rfl ⟨hleq.trans (hlea.trans hleb),_,SlA.mono (e:=encCell) hsa hleb,(hfinA gb (hleq.trans (hlea.trans hleb)) ⟨rfl,rfl,hsb⟩).append ⟨⟨rfl,rfl,hsd.mono (hlea.trans hleb)⟩,trivial⟩⟩)
     ·refine SB.o (i:=7) rfl (bS sty38 rfl rfl rfl (szs_mk trivial) dC) dC (.inr (by rintro _ _ _ ⟨b266,rfl,rfl,rfl⟩; exact ⟨by exact Le.refl _,(by exact .cons _ (.refl _))⟩)) ?_
      rintro _ _ _ ⟨b266,rfl,rfl,rfl⟩
      refine SX.to (fun w hw=>(hw.sublist (List.Sublist.cons _ (.refl _))).emptyRow 42 2 (some ⟨b266,0,none⟩)) ?_
      refine SX.br1 6 (by kernel_rfl) ?_
      ·refine SB.o (i:=6) rfl (cL kT34 rfl (mod_spec E g1 _ q2 4 dC)) dC (.inr (by rintro _ _ _ ⟨rfl,rfl,rfl⟩; exact ⟨by exact Le.refl _,(by exact .cons _ (.refl _))⟩)) ?_
       rintro _ _ _ ⟨rfl,rfl,rfl⟩
       refine SX.br1 12 (by kernel_rfl) ?_
       ·refine SB.o (i:=12) rfl (SO.appendE (m:=x.sides.length) 0 x.sides.length (x.sides.flatMap encSide.enc) sty38 rfl rfl rfl rfl rfl (Rd.rowA 2 rfl) (encSide.length _) (encSide.ones _) oM (by simp) oM oM) dC (.inr (by rintro v271 _ _ ⟨rfl,rfl⟩; exact ⟨by exact Le.refl _,(by exact .cons _ (.refl _))⟩)) ?_
        rintro v271 _ _ ⟨rfl,rfl⟩
        refine SX.freezeRow fun gq hleq hsq=>?_
        have hsd : SlA encSide gq v271 x.sides:=hsq
        obtain ⟨q7,d7,rfl⟩:=SlA.form hsd
        refine SX.u (i:=13) I (by kernel_rfl) (SU.build I (buildF40 _ _ _ I)) dC ?_
        refine SX.br1 14 (by kernel_rfl) ?_
        ·refine SB.o (i:=14) rfl (bS sty29 rfl rfl rfl (szs_mk sB) dC) dC (.inr (by rintro _ _ _ ⟨b273,rfl,rfl,rfl⟩; exact ⟨by assumption,(by exact .cons _ (.refl _))⟩)) ?_
         rintro _ _ _ ⟨b273,rfl,rfl,rfl⟩
         refine SX.br1 15 (by kernel_rfl) ?_
         ·refine SB.o (i:=15) I (aP (e:=encCell) 0 ⟨500 + modW q2 3,modW q2 4,⟨q7,x.sides.length,d7⟩⟩ sty29 I I I I I oM oM) dC (.inl dC) ?_
          rintro v274 _ _ ⟨rfl,rfl⟩
          refine SX.facts fun ⟨w0,hw0⟩=>?_
          obtain ⟨q8,d8,rfl⟩:=rowA_form (i:=0) hw0 rfl
          clear hw0 w0
          refine SX.u (i:=16) I (by kernel_rfl) (fA uT31 I zT29 I) dC ?_
          refine SX.br1 17 (by kernel_rfl) ?_
          ·refine SB.on (i:=17) I (sK 2 zT29 I I I I I sB) (.inl dC) ?_
           rintro _ _ _ ⟨rfl,rfl⟩
           refine SX.nil (by kernel_rfl) (bN ?_)
           (refine fT fun ga hlea hsa=>?_; refine fT fun gb hleb hsb=>?_; exact ST.mid (gb,_) sB rfl rfl ⟨hleq.trans (hlea.trans hleb),_,SlA.mono (e:=encCell) hsa hleb,(hfinA gb (hleq.trans (hlea.trans hleb)) ⟨rfl,rfl,hsb⟩).append ⟨⟨rfl,rfl,hsd.mono (hlea.trans hleb)⟩,trivial⟩⟩)
    ·refine SB.o (i:=7) rfl (bS sty38 rfl rfl rfl (szs_mk trivial) dC) dC (.inr (by rintro _ _ _ ⟨b266,rfl,rfl,rfl⟩; exact ⟨by exact Le.refl _,(by exact .cons _ (.refl _))⟩)) ?_
     rintro _ _ _ ⟨b266,rfl,rfl,rfl⟩
     refine SX.to (fun w hw=>(hw.sublist (List.Sublist.cons _ (.refl _))).emptyRow 42 2 (some ⟨b266,0,none⟩)) ?_
     refine SX.br1 3 (by kernel_rfl) ?_
     ·refine SB.o (i:=3) rfl (cL kT34 rfl (mod_spec E g1 _ q2 3 dC)) dC (.inr (by rintro _ _ _ ⟨rfl,rfl,rfl⟩; exact ⟨by exact Le.refl _,(by exact .cons _ (.refl _))⟩)) ?_
      rintro _ _ _ ⟨rfl,rfl,rfl⟩
      refine SX.u (i:=4) I (by kernel_rfl) (aD I I oM) dC ?_
      refine SX.br1 6 (by kernel_rfl) ?_
      ·refine SB.o (i:=6) rfl (cL kT34 rfl (mod_spec E g1 _ q2 4 dC)) dC (.inr (by rintro _ _ _ ⟨rfl,rfl,rfl⟩; exact ⟨by exact Le.refl _,(by exact .cons _ (.refl _))⟩)) ?_
       rintro _ _ _ ⟨rfl,rfl,rfl⟩
       refine SX.br1 12 (by kernel_rfl) ?_
       ·refine SB.o (i:=12) rfl (SO.appendE (m:=x.sides.length) 0 x.sides.length (x.sides.flatMap encSide.enc) sty38 rfl rfl rfl rfl rfl (Rd.rowA 2 rfl) (encSide.length _) (encSide.ones _) oM (by simp) oM oM) dC (.inr (by rintro v271 _ _ ⟨rfl,rfl⟩; exact ⟨by exact Le.refl _,(by exact .cons _ (.refl _))⟩)) ?_
        rintro v271 _ _ ⟨rfl,rfl⟩
        refine SX.freezeRow fun gq hleq hsq=>?_
        have hsd : SlA encSide gq v271 x.sides:=hsq
        obtain ⟨q7,d7,rfl⟩:=SlA.form hsd
        refine SX.u (i:=13) I (by kernel_rfl) (SU.build I (buildF40 _ _ _ I)) dC ?_
        refine SX.br1 14 (by kernel_rfl) ?_
        ·refine SB.o (i:=14) rfl (bS sty29 rfl rfl rfl (szs_mk sB) dC) dC (.inr (by rintro _ _ _ ⟨b273,rfl,rfl,rfl⟩; exact ⟨by assumption,(by exact .cons _ (.refl _))⟩)) ?_
         rintro _ _ _ ⟨b273,rfl,rfl,rfl⟩
         refine SX.br1 15 (by kernel_rfl) ?_
         ·refine SB.o (i:=15) I (aP (e:=encCell) 0 ⟨500 + modW q2 3,modW q2 4,⟨q7,x.sides.length,d7⟩⟩ sty29 I I I I I oM oM) dC (.inl dC) ?_
          rintro v274 _ _ ⟨rfl,rfl⟩
          refine SX.facts fun ⟨w0,hw0⟩=>?_
          obtain ⟨q8,d8,rfl⟩:=rowA_form (i:=0) hw0 rfl
          clear hw0 w0
          refine SX.u (i:=16) I (by kernel_rfl) (fA uT31 I zT29 I) dC ?_
          refine SX.br1 17 (by kernel_rfl) ?_
          ·refine SB.on (i:=17) I (sK 2 zT29 I I I I I sB) (.inl dC) ?_
           rintro _ _ _ ⟨rfl,rfl⟩
           refine SX.nil (by kernel_rfl) (bN ?_)
           (refine fT fun ga hlea hsa=>?_; refine fT fun gb hleb hsb=>?_; exact ST.mid (gb,_) sB rfl rfl ⟨hleq.trans (hlea.trans hleb),_,SlA.mono (e:=encCell) hsa hleb,(hfinA gb (hleq.trans (hlea.trans hleb)) ⟨rfl,rfl,hsb⟩).append ⟨⟨rfl,rfl,hsd.mono (hlea.trans hleb)⟩,trivial⟩⟩)
   ·refine SC.sR (lU (iB uT25 zT3 I I dC dC) (lK (qL (v:=vi q0) iT3 I (cO 4 I I)) (lW (cL kT34 I (mod_spec E g1 _ q0 13 dC)) ?_)))
    rintro _ _ _ ⟨rfl,rfl,rfl⟩
    rw [hm]
    refine SL.nT (bK (SC.sR (lU (eQ I I) (lA I (SL.nT (cF I (SC.sR (lU (eQ I I) (lA I (SL.nT (cF I (SC.sR (lU (eQ I I) (lA I (SL.nT (cF I (SC.sR (lU (eQ I I) (lA I (SL.nT ?_))))))))))))))))))))
    refine cF I (SC.sR (lU (eQ I I) (lA I (SL.nT (cF I (SC.sR (lU (eQ I I) (lA I (SL.nT (cF I (SC.sR (lU (eQ I I) (lA I (SL.nT (cF I (SC.sR (lU (eQ I I) (lA I (SL.nT (cF I (sQ ?_)))))))))))))))))))))
    refine rG (lU (eQ I I) (lA I (SL.nT (cF I (SC.sR (lU (eQ I I) (lA I (SL.nT (cF I (SC.sR (lU (eQ I I) (lA I (SL.nT (cF I (SC.sR (lU (eQ I I) (lA I (SL.nT (cF I (kP (bN (fT fun ga hlea hsa=>?_))))))))))))))))))))))
    refine fT fun gb hleb hsb=>?_
    exact ST.mid (gb,(.slice (some ⟨bu,0,none⟩) rs.length cap)) sB I I ⟨hlea.trans hleb,_,SlA.mono (e:=encCell) hsa hleb,hfinA gb (hlea.trans hleb) ⟨I,I,hsb⟩⟩
  rintro ⟨g2,bv⟩ ⟨hle2,hbv⟩
  dsimp only at hle2 hbv ⊢
  obtain ⟨q3,d3,rfl⟩:=hbv.form
  refine SC.sR (lK (qV 0 iT31 zT31 I I I) (SL.O2 (sK 1 zT31 I I I I I sB) ?_))
  refine SL.nT (rE ?_)
  exact ST.retCD 1 s (.inl I) results8 I iT31 zT31 I I (.cons _ (.cons _ (.cons _ (.cons _ (.refl _))))) ⟨I,hle1.trans hle2,_,I,hbv⟩
open Go.ChangeShapes Go.WideShapes Go.ChangeAt Go.RowKit
set_option maxRecDepth 100000
def held (W : World) : PH:=fun b=>W.heap[b]?
def E0 (W : World) : World:={ W with drawn:=0 }
theorem at_start (W : World) : At (E0 W) (held W) [] W:=⟨rfl,⟨rfl,Nat.zero_le _⟩,rfl,fun _ _ h=>h,by simp,by simp,List.Pairwise.nil⟩
theorem at_below {W W' : World} {g : PH} {s : Own} (h : At (E0 W) g s W') (hl : Le (held W) g) : Below W.heap.size W W':=by
 have hb : ∀ k,k < W.heap.size → W'.heap[k]? = W.heap[k]?:=fun k hk=>by
  have h1 : W.heap[k]? = some W.heap[k]:=Array.getElem?_eq_getElem hk
  rw [h1]
  exact h.known k _ (hl k _ h1)
 refine ⟨h.os,h.tape.1,h.output,?_,hb⟩
 refine Decidable.of_not_not fun hc=>?_
 have h1:=hb W'.heap.size oM
 rw [Array.getElem?_eq_none (lR _),Array.getElem?_eq_getElem oM] at h1
 cases h1
theorem row_sl {W : World} {a : Addr} {len cap : Nat} {xs : List Value} (hl : len ≤ cap) (hx : xs.length = len) (hc : ∀ i x,xs[i]? = some x → W.cell? (a.add i) = some x) : Sl (held W) 1 (.slice (some a) len cap) len xs:=by
 refine ⟨some a,cap,I,⟨oM,hl⟩,fun hne=>?_⟩
 obtain ⟨b,o,sp⟩:=a
 have h0 : 0 < xs.length:=List.length_pos_iff.2 hne
 have hc0:=hc 0 xs[0] (gE h0)
 have hsp : sp = none:=by simpa [Addr.add] using World.cell?_spot hc0
 subst hsp
 have hadd : ∀ i,(⟨b,o,none⟩ : Addr).add i = ⟨b,o + i,none⟩:=fun i=>by unfold Addr.add; split <;> simp_all
 simp only [hadd] at hc
 have hcell : ∀ i x,xs[i]? = some x → ∃ cs T fr,W.heap[b]? = some (.cells cs T fr) ∧ cs[o + i]? = some x:=fun i x hi=>by
  have h1:=hc i x hi
  unfold World.cell? at h1
  split at h1
  ·rename_i cs T fr hh
   exact ⟨cs,T,fr,hh,by simpa using h1⟩
  ·cases h1
 obtain ⟨cs,T,fr,hb,_⟩:=hcell 0 xs[0] (gE h0)
 refine ⟨b,o,cs,T,fr,I,hb,fun j x hj=>?_⟩
 obtain ⟨cs',T',fr',hb',h2⟩:=hcell j x hj
 rw [hb] at hb'
 cases hb'
 exact h2
section
variable {H : Type} {enc : TypeId × Value → H} {W : World} {base : Nat} {spare : Nat → Bool} {hd : Bool}
theorem Tryz.cells3 : Tryz.prog.cellsOf 3 = 1:=by kernel_rfl
theorem Tryz.cells27 : Tryz.prog.cellsOf 27 = 1:=by kernel_rfl
theorem Tryz.cells25 : Tryz.prog.cellsOf 25 = 3:=by kernel_rfl
theorem Tryz.cells24 : Tryz.prog.cellsOf 24 = 3:=by kernel_rfl
theorem ints_of {fuel : Nat} {v : Value} {x : DataW H × List MemPlace} (h : DataW.trod enc Tryz.prog W base spare hd fuel 27 [v] = some x) : ∃ (l : List Int) (r : Sv),v = .slice r.p r.n r.c ∧ Ints (held W) v l:=by
 rcases open_ints uT27 uT3 cells3 h with ⟨hcs,_⟩ | ⟨a,len,cap,zs,hcs,_,hl,_,hz,_,hcell,_⟩
 ·simp at hcs
  subst hcs
  exact ⟨[],⟨none,0,0⟩,I,Sl.nil _ _⟩
 ·simp at hcs
  subst hcs
  have hlz : len ≤ zs.length:=by rw [hz]; split <;> omega
  have hlen : (zs.take len).length = len:=by rw [List.length_take]; omega
  have he : (zs.take len).flatMap encInt.enc = (zs.take len).map vi:=by
   rw [List.flatMap_def]
   induction zs.take len with
   | nil=>rfl
   | cons y t ih=>simp [encInt] at ih ⊢; exact ih
  refine ⟨zs.take len,⟨some a,len,cap⟩,I,?_⟩
  show Sl (held W) 1 _ (zs.take len).length ((zs.take len).flatMap encInt.enc)
  rw [he,hlen]
  refine row_sl hl (by rw [List.length_map,hlen]) fun i y hi=>?_
  rw [List.getElem?_map] at hi
  cases hc : (zs.take len)[i]? with
  | none=>rw [hc] at hi; cases hi
  | some z =>
   rw [hc] at hi
   cases hi
   have hil : i < (zs.take len).length:=(List.getElem?_eq_some_iff.1 hc).1
   have hi2 : i < zs.length:=oM
   rw [hcell i hi2]
   have : zs.getD i 0 = z:=by
    rw [List.getElem?_take] at hc
    split at hc
    ·rw [List.getD_eq_getElem?_getD,hc]; rfl
    ·cases hc
   rw [this]
theorem all2_map {α β γ : Type} {R : α → β → Prop} {f : γ → α} {k : γ → β} : ∀ {l : List γ},(∀ i ∈ l,R (f i) (k i)) → All2 R (l.map f) (l.map k)
 | [],_=>trivial
 | x :: l,h=>⟨h x (by simp),all2_map fun i hi=>h i (by simp [hi])⟩
instance : Inhabited (List Int × Sv):=⟨([],⟨none,0,0⟩)⟩
theorem lists_of {fuel : Nat} {v : Value} {x : DataW H × List MemPlace} (h : DataW.trod enc Tryz.prog W base spare hd fuel 22 [v] = some x) : ∃ ls,Lists (held W) v ls:=by
 rcases Go.Deep.open_slice1 uT22 cells27 h with ⟨hcs,_⟩ | ⟨a,len,cap,m,n,V,D,Pl,hcs,_,hl,_,hmm,_,hx⟩
 ·simp at hcs
  subst hcs
  exact ⟨[],[],Sl.nil _ _,trivial⟩
 ·simp at hcs
  subst hcs
  have hlm : len ≤ m:=by rw [hmm]; split <;> omega
  obtain ⟨f,hf⟩:=Go.Deep.choose_lt (α:=List Int × Sv) (n:=len) (p:=fun i y=>V i = .slice y.2.p y.2.n y.2.c ∧ Ints (held W) (V i) y.1) fun i hi=>by
   obtain ⟨l,r,h1,h2⟩:=ints_of (hx i oM).2
   exact ⟨(l,r),h1,h2⟩
  refine ⟨(List.range len).map fun i=>(f i).1,(List.range len).map fun i=>(f i).2,?_,all2_map fun i hi=>?_⟩
  ·show Sl (held W) 1 _ ((List.range len).map fun i=>(f i).2).length (((List.range len).map fun i=>(f i).2).flatMap encSv.enc)
   have he : ((List.range len).map fun i=>(f i).2).flatMap encSv.enc = (List.range len).map fun i=>V i:=by
    have : ∀ l : List Nat,(∀ i ∈ l,i < len) → (l.map fun i=>(f i).2).flatMap encSv.enc = l.map fun i=>V i:=by
     intro l
     induction l with
     | nil=>intro _; rfl
     | cons y t ih =>
      intro hy
      rw [List.map_cons,List.flatMap_cons,ih fun i hi=>hy i (by simp [hi]),List.map_cons,(hf y (hy y (by simp))).1]
      rfl
    exact this _ fun i hi=>List.mem_range.1 hi
   rw [he,List.length_map,List.length_range]
   refine row_sl hl (by simp) fun i y hi=>?_
   rw [List.getElem?_map] at hi
   cases hc : (List.range len)[i]? with
   | none=>rw [hc] at hi; cases hi
   | some z =>
    rw [hc] at hi
    cases hi
    obtain ⟨h1,h2⟩:=List.getElem?_eq_some_iff.1 hc
    simp at h1 h2
    subst h2
    exact (hx i oM).1
  ·have:=hf i (List.mem_range.1 hi)
   unfold ListR
   rw [← this.1]
   exact this.2
theorem okWide_array {r : Reach} {b0 : Nat} {P : Program} {w : World} {t e : TypeId} {n : Nat} {v : Value} (ht : P.underlying t = some (.array n e)) (h : Value.okWide P w r b0 t v) : ∃ cs,v = .agg cs ∧ cs.size = P.cellsOf t:=by
 simp only [Value.okWide,ht] at h
 obtain ⟨cs,h1,h2,_⟩:=h
 exact ⟨cs,h1,h2⟩
theorem three_of {r : Reach} {b0 : Nat} {v : Value} {d : DataW H} {p : List MemPlace} (hv : Value.okWide Tryz.prog W r b0 25 v) (h : DataW.Trod enc Tryz.prog W base spare hd 25 v d p) : ∃ a b c : Int,v = .agg #[vi a,vi b,vi c]:=by
 obtain ⟨cs,rfl,hsz⟩:=okWide_array uT25 hv
 rw [cells25] at hsz
 obtain ⟨l⟩:=cs
 match l,hsz with
 | [c0,c1,c2],_ =>
  obtain ⟨fuel,hf⟩:=h
  obtain ⟨y0,y1,y2,n,_,h0,h1,h2⟩:=trod_array3 uT25 cells3 (by simpa [Value.cells] using hf)
  obtain ⟨a,e0,_,_⟩:=DataW.trod_int uT3 h0
  obtain ⟨b,e1,_,_⟩:=DataW.trod_int uT3 h1
  obtain ⟨c,e2,_,_⟩:=DataW.trod_int uT3 h2
  simp at e0 e1 e2
  subst e0
  subst e1
  subst e2
  exact ⟨a,b,c,I⟩
theorem shape_of {r : Reach} {b0 : Nat} {v : Value} {d : DataW H} {p : List MemPlace} (hv : Value.okWide Tryz.prog W r b0 24 v) (h : DataW.Trod enc Tryz.prog W base spare hd 24 v d p) : ∃ (k y : Int) (u : Value) (ls : List (List Int)),v = .agg #[vi k,u,vi y] ∧ Lists (held W) u ls:=by
 obtain ⟨c0,c1,c2,y0,y1,y2,n,rfl,_,_,h0,h1,h2⟩:=Go.Joins.open_agg3 uT24 (by kernel_rfl) cells24 hv h
 obtain ⟨a,e0,_,_⟩:=DataW.trod_int uT3 h0
 obtain ⟨c,e2,_,_⟩:=DataW.trod_int uT3 h2
 obtain ⟨ls,hls⟩:=lists_of h1
 simp at e0 e2
 subst e0
 subst e2
 exact ⟨a,c,c1,ls,I,hls⟩
end
theorem lawSame_spec (E : World) (g : PH) (s : Own) (v u : Value) (l m : List Cl) (hv : Cells g v l) (hu : Cells g u m) (hf : Fits l) :
  Ctr Tryz.prog E 15 #[.agg #[v],.agg #[u]] g s (fun r g' s'=>r = vb (decide (l = m)) ∧ g = g' ∧ s = s'):=by
 obtain ⟨ra,hra,halla⟩:=hv
 obtain ⟨rb,hrb,hallb⟩:=hu
 have eal:=halla.length
 have ebl:=hallb.length
 have hll:=hf.1
 obtain ⟨pa,ca,rfl⟩:=hra.form
 obtain ⟨pb,cb,rfl⟩:=hrb.form
 refine Ctr.of (args:=[.agg #[.slice pa ra.length ca],.agg #[.slice pb rb.length cb]]) func15 I ntmps15 (bE I) ?_
 refine SC.sR (SL.bx (bO I) fun b2=>?_)
 refine SL.bx (bO I) fun b3=>?_
 refine lA I (SL.nT (sQ (SC.sR (lU (fA uT31 I zT29 I) (lK (qL (v:=.slice pa ra.length ca) iT29 I (cO 1 I I)) (lU (eN uT29 I) (lU (fA uT31 I zT29 I) (lK (qL (v:=.slice pb rb.length cb) iT29 I (cO 0 I I)) (lU (eN uT29 I) (lU (nQ I I) (SL.nT ?_)))))))))))
 refine iP I (fun hne=>?_) (fun hne=>?_)
 ·refine SC.sR (lA I (SL.nT (rE (tR (dR (s':=s) (.cons _ (.cons _ (.refl _))) ?_)))))
  exact ST.ret1 (.inl I) results15 I ⟨by rw [decide_eq_false (fun e : l = m=>by rw [e] at eal; omega)],I,I⟩
 ·refine kP (tN (sQ (SC.sR (lA I (SL.nT (bK ?_))))))
  have hlen : l.length = m.length:=oM
  refine oP (ι:=Nat) (fun k=>[(2,pp b2 0),(3,pp b3 0),(5,vi k)]) (fun _=>g) (fun _=>pt b3 (.cells #[.slice pb rb.length cb] 31 (0,0)) :: pt b2 (.cells #[.slice pa ra.length ca] 31 (0,0)) :: s) (fun k=>k ≤ l.length ∧ l.take k = m.take k) (fun k=>l.length - k) 0
   sB rfl rfl ⟨Nat.zero_le _,by simp⟩ ?_
  rintro k ⟨hk,heq⟩
  refine sQ (SC.sR (lM I (lU (fA uT31 I zT29 I) (lK (qL (v:=.slice pa ra.length ca) iT29 I (cO 1 I I)) (lU (eN uT29 I) (lU (lS I I) (SL.nT ?_)))))))
  refine iP I (fun hlt=>?_) (fun hlt=>?_)
  ·have hkl : k < l.length:=oM
   have hkm : k < m.length:=oM
   have hb1:=hra.based oM
   have hb2:=hrb.based oM
   have h1:=halla.get (gE hkl) (gE (show k < ra.length by omega))
   have h2:=hallb.get (gE hkm) (gE (show k < rb.length by omega))
   have g1 : ra[((k : Nat) : Int).toNat]? = some ra[k]:=gE (show k < ra.length by omega)
   have g2 : rb[((k : Nat) : Int).toNat]? = some rb[k]:=gE (show k < rb.length by omega)
   have hxl:=hf.2 _ (gM hkl)
   refine kP (tN (sQ (bK (sQ ?_))))
   refine dW [] [(0,2),(1,1),(2,2),(3,2),(4,1),(5,2),(6,1),(7,2),(8,2),(9,1),(10,0),(11,2)] Tryz.mixed (by kernel_rfl) ?_
   refine pU rfl (fA uT31 rfl zT29 rfl) (pK rfl (qL (v:=.slice pa ra.length ca) iT29 rfl (cO 1 rfl rfl)) (pU rfl (mV rfl) (pU rfl (iA uT29 zT40 rfl rfl hb1 oM sL) (pK rfl (eA iT40 zT40 rfl hra.rd g1) (pU rfl (fA uT31 rfl zT29 rfl) (pK rfl (qL (v:=.slice pb rb.length cb) iT29 rfl (cO 0 rfl rfl)) (pU rfl (mV rfl) (pU rfl (iA uT29 zT40 rfl rfl hb2 oM sL) (pK rfl (eA iT40 zT40 rfl hrb.rd g2) (SP.o rfl (cL call52 rfl (sameCell_spec E g _ l[k] m[k] _ _ h1 h2 hxl)) dC (.inr (by rintro _ _ _ ⟨rfl,rfl,rfl⟩; exact ⟨by exact Le.refl _,(by exact .refl _)⟩)) ?_))))))))))
   rintro _ _ _ ⟨rfl,rfl,rfl⟩
   refine pU I (SU.notP I) (pN (tN ?_))
   refine iP I (fun hd=>?_) (fun hd=>?_)
   ·refine SC.sR (lA I (SL.nT (rE (bR (tR (tR (bR (tR (dR (s':=s) (.cons _ (.cons _ (.refl _))) ?_)))))))))
    exact ST.ret1 (.inl I) results15 I ⟨by rw [decide_eq_false (fun e : l = m=>hd (by simp [e]))],I,I⟩
   ·refine kP (bN (tN (rG (lM I (lU (aD I I oM) (lA I (nL ?_)))))))
    exact gA (k + 1) sB I I ⟨oM,by rw [tS hkl,tS hkm,heq,Decidable.of_not_not hd]⟩ oM
  ·refine xI (tX (tX (bX (tN (SC.sR (lA I (SL.nT (rE ?_))))))))
   have heq2 : l = m:=by rw [tL oM,tL oM] at heq; exact heq
   refine dR (s':=s) (.cons _ (.cons _ (.refl _))) ?_
   exact ST.ret1 (.inl I) results15 I ⟨by rw [decide_eq_true heq2],I,I⟩
end Go.Proofs.YtkdibcicncjpdaaGreatDoor
namespace Go.Sy
open Go
section
variable {P : Program} {N : Nat} {E : World} {f : Fr} {g : PH} {s s1 : Own} {dst : Option Tmp} {ty : TypeId} {pos : String} {af : Array Edge} {gd : Option (Nat × Bool)} {α : Type} {k : Nat} {e : Enc α k}
end
end Go.Sy
namespace Go.Proofs.YtkdibcicncjpdaaGreatDoor
open _root_.Go.Proofs.Tryz _root_.Go.Proofs.YtkdibcicncjpdaaGreatDoor.Tryz
open Go Go.Sy Go.Pl Go.Proofs
def adjT (A : List Cl) (k : Int) : Option (List Int):=(findT A k).map fun c=>c.sides.map Side.cell
def costF (A : List Cl) (m : List Int) : Nat:=((A.filter fun c=>!m.contains c.id).map fun c=>c.sides.length).sum
structure Wide (A : List Cl) (ids left m : List Int) : Prop where
 sound : ∀ x ∈ m,∃ id ∈ ids,Rch (adjT A) id x
 todo : ∀ x ∈ left,adjT A x ≠ none → ∃ id ∈ ids,Rch (adjT A) id x
 start : ∀ x ∈ ids,adjT A x ≠ none → x ∈ left ∨ x ∈ m
 sides : ∀ x ∈ m,∀ l,adjT A x = some l → ∀ y ∈ l,adjT A y ≠ none → y ∈ left ∨ y ∈ m
 few : left.length + costF A m ≤ ids.length + costF A []
set_option maxRecDepth 100000
set_option maxHeartbeats 1000000
open Go.ChangeShapes Go.WideShapes Go.ChangeAt Go.RowKit
set_option maxRecDepth 100000
section
variable {H : Type} {enc : TypeId × Value → H} {W : World} {base : Nat} {spare : Nat → Bool} {hd : Bool}
end
inductive Cn (E : Int → Int → Prop) : Int → Int → Prop
 | refl (a : Int) : Cn E a a
 | step {a b c : Int} (h : E a b ∨ E b a) (r : Cn E b c) : Cn E a c
def linked (ml : List (Int × List Int)) (a b : Int) : Prop:=∃ p ∈ ml,p.2.head? = some a ∧ b ∈ p.2
def RZ (e : En) (z : Int × Int) : Prop:=e.id = z.1 ∧ e.sum = z.2
def RM (e : En) (p : Int × List Int) : Prop:=e.id = p.1 ∧ e.many = p.2.length ∧ p.2.head? = some (e.fst : Int)
structure Sd (n t k : Nat) (es : List En) (part : List Int) (zl : List (Int × Int)) (ml : List (Int × List Int)) : Prop where
 z : All2 RZ es zl
 m : All2 RM es ml
 bz : ∀ e ∈ es,-(t : Int) ≤ e.sum ∧ e.sum ≤ t ∧ 0 ≤ e.many ∧ e.many ≤ t
 bf : ∀ e ∈ es,e.fst < k
 bm : ∀ p ∈ ml,∀ x ∈ p.2,0 ≤ x ∧ x < k
 len : part.length = n
 bp : ∀ a,a < k → 0 ≤ part.getD a 0 ∧ part.getD a 0 < k
 cn : ∀ a b : Nat,a < k → b < k → (part.getD a 0 = part.getD b 0 ↔ Cn (linked ml) a b)
theorem subP (E : World) (g : PH) (b m : Nat) (sm : List (Int × Value)) (q : Int → Bool) (tl : List Cl) (hb : g b = some (.cells #[.map (some m)] 84 (0,0))) (hm : Mp g m sm) (hs : SetI sm q) : PredOk E (.func (.func 67) #[] #[pp b 0]) (fun c=>q c.id) tl g:=by
 intro g s c r hle hmem hc
 refine CallV.mk (cap:=[pp b 0]) call67 ?_
 have hb':=hle _ _ hb
 have hm':=hm.mono hle
 refine Ctr.of (args:=[rcv r,pp b 0]) func67 I ntmps67 (bE I) ?_
 refine SC.sR (SL.bx (bO I) fun b2=>?_)
 refine lA I (SL.nT (SC.sR (lK (qL isAgg84 I (cK hb' I)) (lU (fA uT40 I zT3 I) (lK (qL iT3 I (cO 0 I I)) (lK (SQ.eq (v':=vb (q c.id)) (SQ.lookup mty84 I I (MapAt.known hm')) (by rw [← hc.1]; exact hs.get _)) ?_))))))
 refine lA I (SL.nT (rE (dR (s':=s) (.cons _ (.refl _)) ?_)))
 exact ST.ret1 (.inl I) results67 I ⟨I,I,I⟩
theorem sub_new (E : World) (g : PH) (s : Own) (v iv : Value) (l : List Cl) (ids : List Int) (hv : Cells g v l) (hf : Fits l) (hi : Ints g iv ids) (hl : ids.length < 1099511627776) :
  Ctr Tryz.prog E 17 #[.agg #[v],iv] g s (fun r g' s'=>s = s' ∧ Le g g' ∧ ∃ u,r = .agg #[u] ∧ CellsK (mns g' g) u ((tabC l).filter fun c=>(closF (tabC l) ids).contains c.id)):=by
 have hft:=tabC_fits hf
 obtain ⟨ip,ic,rfl⟩:=SlA.form hi
 refine Ctr.of (args:=[.agg #[v],.slice ip ids.length ic]) func17 I ntmps17 (bE I) ?_
 refine SC.sR (SL.bx (bO I) fun b2=>?_)
 refine SL.bx (aL zeroValue31) fun b4=>?_
 refine SL.nT (SC.sR (lK (qV 1 iT31 zT31 I I I) (lW (cL kT56 I (of_new E g _ v l hv hf)) ?_)))
 rintro tv g1 _ ⟨rfl,hle1,htk⟩
 have ht : Tab g1 tv (tabC l):=htk.mono (Le.refl _) fun _ _=>CellK.cr (mns_le _ _)
 refine lA I (SL.nT (SC.sR (lM I (lM I (lW (cL call65 I (closure_spec E g1 _ _ _ (tabC l) ids ht hft (hi.mono hle1) hl)) ?_)))))
 rintro _ g2 _ ⟨m,rfl,hle2,rfl⟩
 refine SL.bx (aL zeroValue84) fun b6=>?_
 refine SL.O2 (sK 0 sizeOf84 I I I I I ⟨I,trivial⟩) (SL.freeze fun g3 hle3 hb6=>?_)
 refine SL.freezeMap fun g4 hle4 hm4=>?_
 have hle14:=hle2.trans (hle3.trans hle4)
 refine SL.nT (SC.sR (lM I (lU (SU.mkFunc I) (lW (cL call66 I (only_gen (CellK (mns g1 g)) E g4 _ _ _ (tabC l) _ (fun _ _ h=>CellK.cr ((mns_le _ _).trans hle14) h) (htk.mono hle14 fun _ _ h=>h) (tabC_nodup l) hft (subP E g4 b6 m _ (fun k=>(closF (tabC l) ids).contains k) _ (hle4 _ _ hb6) hm4 (setP_set _)))) ?_))))
 rintro _ g5 _ ⟨rfl,hle5,x,rs9,rfl,hx1,hx2⟩
 have hx : CellsK (mns g5 g) x _:=⟨rs9,hx1.mono (mns_anti (hle1.trans hle14)),hx2.mono fun _ _=>CellK.mono (mns_mono (hle14.trans hle5))⟩
 obtain ⟨q,d,rfl⟩:=hx1.form
 refine SL.O2 (sK 0 zT31 I I I I I sB) ?_
 refine SL.nT (rE ?_)
 exact ST.retCD 0 s (.inl I) results17 I iT31 zT31 I I (.cons _ (.cons _ (.refl _))) ⟨I,hle1.trans (hle14.trans hle5),_,I,hx⟩
theorem sub_spec (E : World) (g : PH) (s : Own) (v iv : Value) (l : List Cl) (ids : List Int) (hv : Cells g v l) (hf : Fits l) (hi : Ints g iv ids) (hl : ids.length < 1099511627776) :
  Ctr Tryz.prog E 17 #[.agg #[v],iv] g s (fun r g' s'=>s = s' ∧ Le g g' ∧ ∃ u,r = .agg #[u] ∧ Cells g' u ((tabC l).filter fun c=>(closF (tabC l) ids).contains c.id)) :=
 (sub_new E g s v iv l ids hv hf hi hl).mono fun _ _ _ ⟨h1,h2,u,h3,h4⟩=>⟨h1,h2,u,h3,h4.cells (mns_le _ _)⟩
def swp {α : Type} (l : List α) (i k : Nat) (hi : i < l.length) (hk : k < l.length) : List α:=(l.set i l[k]).set k l[i]
theorem swp_perm {α : Type} (l : List α) (i k : Nat) (hi : i < l.length) (hk : k < l.length) : (swp l i k hi hk).Perm l:=List.set_set_perm hi hk
theorem swp_length {α : Type} (l : List α) (i k : Nat) (hi : i < l.length) (hk : k < l.length) : (swp l i k hi hk).length = l.length:=by simp [swp]
theorem All2.set {α β : Type} {R : α → β → Prop} {a : α} {b : β} (h : R a b) : ∀ {l : List α} {m : List β} (k : Nat),All2 R l m → All2 R (l.set k a) (m.set k b)
 | [],[],_,_=>trivial
 | _ :: _,_ :: _,0,h'=>⟨h,h'.2⟩
 | _ :: _,_ :: _,k + 1,h'=>⟨h'.1,All2.set h k h'.2⟩
 | [],_ :: _,_,h'=>h'.elim
 | _ :: _,[],_,h'=>h'.elim
theorem all2_at {α β : Type} {R : α → β → Prop} {l : List α} {m : List β} (h : All2 R l m) {i : Nat} (h1 : i < l.length) (h2 : i < m.length) : R l[i] m[i] :=
 h.get (gE h1) (gE h2)
theorem ownS_swp {l : List Cl} {rs : List Rc} (h : l.length = rs.length) (i k : Nat) (hi : i < l.length) (hk : k < l.length) : (ownS l rs).Perm (ownS (swp l i k hi hk) (swp rs i k (h ▸ hi) (h ▸ hk))):=by
 have h1 : ∀ j (hj : j < l.length),(ownS l rs)[j]'(by rw [ownS_length h]; exact hj) = ownC l[j] (rs[j]'(h ▸ hj)):=fun j hj=>by
  have:=ownS_get (gE hj) (gE (h ▸ hj : j < rs.length))
  rw [gE (by rw [ownS_length h]; exact hj)] at this
  exact Option.some.inj this
 unfold swp
 rw [← ownS_set _ _ (by simp [h]),← ownS_set _ _ h,← h1 i hi,← h1 k hk]
 exact (List.set_set_perm _ _).symm
def ShC (a b : Cl) : Prop:=a.id = b.id ∧ a.dim = b.dim ∧ a.sides.Perm b.sides
def ShL (l m : List Cl) : Prop:=∃ l1 : List Cl,l1.Perm l ∧ All2 ShC l1 m
theorem ShL.fits {l m : List Cl} (h : ShL l m) (hf : Fits l) : Fits m:=by
 obtain ⟨l1,h1,h2⟩:=h
 refine ⟨by rw [← h2.length,h1.length_eq]; exact hf.1,fun c hc=>?_⟩
 have : ∀ {l m : List Cl},All2 ShC l m → ∀ c ∈ m,∃ d ∈ l,ShC d c:=by
  intro l
  induction l with
  | nil=>intro m h c hc; cases m with | nil=>cases hc | cons _ _=>exact h.elim
  | cons x t ih =>
   intro m h c hc
   cases m with
   | nil=>cases hc
   | cons y m =>
    rcases List.mem_cons.1 hc with rfl | hc
    ·exact ⟨x,by simp,h.1⟩
    ·obtain ⟨d,hd,he⟩:=ih h.2 c hc
     exact ⟨d,by simp [hd],he⟩
 obtain ⟨d,hd,he⟩:=this h2 c hc
 rw [← he.2.2.length_eq]
 exact hf.2 d (h1.mem_iff.1 hd)
theorem mod_some (E : World) (g : PH) (s : Own) (a : Int) (n : Nat) (h : n < 1099511627776) : Ctr Tryz.prog E 34 #[vi a,vi ((n : Int) + 1)] g s (fun r g' s'=>∃ k : Nat,k ≤ n ∧ r = vi (k : Int) ∧ g = g' ∧ s = s'):=by
 obtain ⟨h1,h2⟩:=modW_nat a (n + 1) oM oM
 refine (mod_spec E g s a ((n : Int) + 1) oM).mono ?_
 rintro _ _ _ ⟨rfl,rfl,rfl⟩
 exact ⟨(modW a ((n + 1 : Nat) : Int)).toNat,oM,by rw [← h1]; rfl,rfl,rfl⟩
theorem shuffled_spec (E : World) (g : PH) (s : Own) (v : Value) (l : List Cl) (y : Int) (hv : Cells g v l) (hf : Fits l) :
  Ctr Tryz.prog E 12 #[.agg #[v],vi y] g s (fun r g' s'=>s = s' ∧ Le g g' ∧ ∃ u m,r = .agg #[u] ∧ Cells g' u m ∧ ShL l m):=by
 obtain ⟨p,c,rfl⟩:=hv.form
 have hll:=hf.1
 refine Ctr.of (args:=[.agg #[.slice p l.length c],vi y]) func12 I ntmps12 (bE I) ?_
 refine SC.sR (SL.bx (bO I) fun b2=>?_)
 refine SL.bx (aL zeroValue31) fun b4=>?_
 refine SL.nT (SC.sR (lK (qV 1 iT31 zT31 I I I) (lW (cL call28 I (copy_own E g _ _ l hv hf)) ?_)))
 rintro _ _ _ ⟨rfl,u,rs,rfl,hO,rfl⟩
 have el:=hO.length
 refine SL.facts fun ⟨w0,hw0⟩=>?_
 obtain ⟨q,d,rfl⟩:=rowA_form (i:=0) hw0 rfl
 have hbq : 0 < rs.length → based (.slice q rs.length d) = true:=fun h=>(by obtain ⟨b0,c0,he⟩:=rowA_based (i:=0) hw0 rfl h; rw [he]; rfl)
 clear hw0 w0
 refine SL.bx (aL zeroValue31) fun b5=>?_
 refine SL.O2 (sK 0 zT31 I I I I I sB) ?_
 refine SL.nT ?_
 refine SC.to (fun w hw=>hw) (g':=g) (s':=pt b5 (.cells #[.slice q rs.length d] 31 (0,0)) :: rowA encCell 40 (.slice q rs.length d) rs :: (ownS l rs ++ (pt b4 (.cells #[.slice none 0 0] 31 (0,0)) :: pt b2 (.cells #[.slice p l.length c] 31 (0,0)) :: s))) ?_
 generalize hR : (pt b4 (.cells #[.slice none 0 0] 31 (0,0)) :: pt b2 (.cells #[.slice p l.length c] 31 (0,0)) :: s) = R
 refine SC.cut (ι:=List Cl × List Rc) (fun _=>[(1,vi y),(2,pp b2 0),(4,pp b4 0),(5,pp b5 0)]) (fun _=>g)
  (fun i=>pt b5 (.cells #[.slice q rs.length d] 31 (0,0)) :: rowA encCell 40 (.slice q rs.length d) i.2 :: (ownS i.1 i.2 ++ R))
  (fun i=>i.1.Perm l ∧ All2 CellO i.1 i.2 ∧ i.2.length = rs.length) ?_ ?_
 ·refine SC.sR (lU (fA uT31 I zT29 I) (lK (qL (v:=.slice q rs.length d) iT29 I (cO 0 I I)) (lU (eN uT29 I) (lU (sU I I oM) (lA I (SL.nT (bK ?_)))))))
  refine oP (ι:=List Cl × List Rc × Int) (fun i=>[(1,vi y),(2,pp b2 0),(4,pp b4 0),(5,pp b5 0),(6,vi i.2.2)]) (fun _=>g)
   (fun i=>pt b5 (.cells #[.slice q rs.length d] 31 (0,0)) :: rowA encCell 40 (.slice q rs.length d) i.2.1 :: (ownS i.1 i.2.1 ++ R))
   (fun i=>i.1.Perm l ∧ All2 CellO i.1 i.2.1 ∧ i.2.1.length = rs.length ∧ (-1 ≤ i.2.2 ∧ i.2.2 < rs.length)) (fun i=>(i.2.2 + 1).toNat) (l,rs,(rs.length : Int) - 1)
   sB rfl rfl ⟨.refl _,hO,rfl,by dsimp only; omega,by dsimp only; omega⟩ ?_
  rintro ⟨l1,rs1,j⟩ ⟨hp,hO1,hrl,hj0,hj1⟩
  dsimp only at hp hO1 hrl hj0 hj1 ⊢
  have hll1:=hO1.length
  refine sQ (SC.sR (lM I (lU (gR I I) (SL.nT ?_))))
  refine iP I (fun hgt=>?_) (fun hgt=>?_)
  ·obtain ⟨jn,rfl⟩ : ∃ n : Nat,j = n:=⟨j.toNat,oM⟩
   have hjl : jn < rs1.length:=oM
   have hbs:=hbq oM
   have hgj : rs1[((jn : Nat) : Int).toNat]? = some rs1[jn]:=gE hjl
   obtain ⟨⟨xi,xd,⟨xp,xn,xc⟩⟩,hx⟩ : ∃ x,x = rs1[jn]:=⟨_,rfl⟩
   rw [← hx] at hgj
   refine kP (tN (sQ (bK (SC.sR (lM I (lM I (lU (SU.mulW I I) (lU (SU.addW I I) (lM I (lU (aD I I oM) (lW (cL kT34 I (mod_some E g _ _ jn oM)) ?_)))))))))))
   rintro _ _ _ ⟨kn,hkn,rfl,rfl,rfl⟩
   have hkl : kn < rs1.length:=oM
   have hgk : rs1[((kn : Nat) : Int).toNat]? = some rs1[kn]:=gE hkl
   refine lA I (SL.nT (SC.sR (lU (fA uT31 I zT29 I) (lK (qL (v:=.slice q rs.length d) iT29 I (cO 0 I I)) (lM I (lU (iA uT29 zT40 I I hbs oM sL) (lK (eA iT40 zT40 I (Rd.rowA 1 I) hgj) (SL.bx (aL zeroValue40) fun b8=>?_))))))))
   refine SL.O2 (sK 0 zT40 I I I I I sB) ?_
   refine SL.nT (sQ ?_)
   refine dW [9] [(0,2),(1,1),(2,2),(3,2),(4,1),(5,2),(6,2),(7,1),(8,2),(9,0)] Tryz.mixed (by kernel_rfl) ?_
   refine pU I (fA uT31 I zT29 I) (pK I (qL (v:=.slice q rs.length d) iT29 I (cO 1 I I)) (pU I (mV I) (pU I (fA uT31 I zT29 I) (pK I (qL (v:=.slice q rs.length d) iT29 I (cO 1 I I)) (pU I (mV I) (pU I (iA uT29 zT40 I I hbs oM sL) (pK I (eA iT40 zT40 I (Rd.rowA 2 I) hgk) (pU I (iA uT29 zT40 I I hbs oM sL) (SP.on I (sT (a:=rs1[kn]) 2 zT40 I I I hjl I) (.inl dC) ?_)))))))))
   rintro _ _ _ ⟨rfl,rfl⟩
   refine pN (tN (rG (lU (fA uT31 I zT29 I) (lK (qL (v:=.slice q rs.length d) iT29 I (cO 1 I I)) (lM I (lK (qV 0 iT40 zT40 I I I) (lU (iA uT29 zT40 I I hbs oM sL) (SL.O2 (sT (a:=(⟨xi,xd,⟨xp,xn,xc⟩⟩ : Rc)) 2 zT40 I I I (by simp only [List.length_set]; exact hkl) I) ?_))))))))
   refine nL (bN (tN (rG (lM I (lU (sU I I oM) (lA I (nL ?_)))))))
   refine ST.to (fun w hw=>?_) (g':=g) (s':=pt b5 (.cells #[.slice q rs.length d] 31 (0,0)) :: rowA encCell 40 (.slice q rs.length d) (swp rs1 jn kn hjl hkl) :: (ownS (swp l1 jn kn oM oM) (swp rs1 jn kn hjl hkl) ++ R)) ?_
   ·have h1:=hw.sublist (List.sublist_cons_self _ _)
    have h2:=h1.perm (.cons _ (.cons _ ((ownS_swp hll1 jn kn oM oM).append_right R)))
    have e : swp rs1 jn kn hjl hkl = (rs1.set jn rs1[kn]).set kn (⟨xi,xd,⟨xp,xn,xc⟩⟩ : Rc):=by unfold swp; rw [hx]
    rw [show rowA encCell 40 (.slice q rs.length d) (swp rs1 jn kn hjl hkl) = rowA encCell 40 (.slice q rs.length d) ((rs1.set jn rs1[kn]).set kn (⟨xi,xd,⟨xp,xn,xc⟩⟩ : Rc)) by rw [e]]
    exact h2
   exact gA (swp l1 jn kn oM oM,swp rs1 jn kn hjl hkl,(jn : Int) - 1) sB I I ⟨(swp_perm _ _ _ _ _).trans hp,All2.set (all2_at hO1 oM hjl) kn (All2.set (all2_at hO1 oM hkl) jn hO1),by rw [swp_length]; exact hrl,by dsimp only; omega,by dsimp only; omega⟩ (by dsimp only; omega)
  ·refine xI (tX (tX (bX ?_)))
   exact ST.mid (l1,rs1) sB I I ⟨hp,hO1,hrl⟩
 ·rintro ⟨l1,rs1⟩ ⟨hp,hO1,hrl⟩
  dsimp only at hp hO1 hrl ⊢
  have hll1:=hO1.length
  have hfl:=fun x hx=>hf.2 x (hp.mem_iff.1 hx)
  refine sQ (SC.sR (lA I (SL.nT (bK ?_))))
  refine oP (ι:=PH × List Cl × List Cl × List Rc × List Cl × List Rc) (fun i=>[(1,vi y),(2,pp b2 0),(4,pp b4 0),(5,pp b5 0),(9,vi i.2.2.2.1.length)]) (fun i=>i.1)
   (fun i=>pt b5 (.cells #[.slice q rs.length d] 31 (0,0)) :: rowA encCell 40 (.slice q rs.length d) rs1 :: (ownS i.2.2.2.2.1 i.2.2.2.2.2 ++ R))
   (fun i=>Le g i.1 ∧ rs1 = i.2.2.2.1 ++ i.2.2.2.2.2 ∧ l1 = i.2.1 ++ i.2.2.2.2.1 ∧ All2 ShC i.2.1 i.2.2.1 ∧ All2 (CellR i.1) i.2.2.1 i.2.2.2.1 ∧ All2 CellO i.2.2.2.2.1 i.2.2.2.2.2) (fun i=>i.2.2.2.2.2.length) (g,[],[],[],l1,rs1)
   sB rfl rfl ⟨Le.refl g,rfl,rfl,trivial,trivial,hO1⟩ ?_
  rintro ⟨g1,D0,D,RD,L,RL⟩ ⟨hle,hrs,hls,hsh,hcr,hOL⟩
  dsimp only at hle hrs hls hsh hcr hOL ⊢
  have hlr : rs1.length = RD.length + RL.length:=by rw [hrs]; simp
  have hLl:=hOL.length
  refine sQ (SC.sR (lM I (lU (fA uT31 I zT29 I) (lK (qL iT29 I (cO 0 I I)) (lU (eN uT29 I) (lU (lS I I) (SL.nT ?_)))))))
  refine iP I (fun hlt=>?_) (fun hlt=>?_)
  ·cases RL with
   | nil=>simp at hlr; omega
   | cons x RL =>
   obtain ⟨cx,L',hLe,hcx,hOL'⟩:=hOL.cons_right
   subst hLe
   obtain ⟨xi,xd,⟨xp,xn,xc⟩⟩:=x
   obtain ⟨e1,e2,e3⟩:=hcx
   dsimp only at e1 e2 e3
   subst e1 e2 e3
   have hbs:=hbq (by simp at hlr; omega)
   have hgx : rs1[((RD.length : Nat) : Int).toNat]? = some (⟨cx.id,cx.dim,⟨xp,cx.sides.length,xc⟩⟩ : Rc):=by rw [hrs]; exact get_mid oM
   have hxl : cx.sides.length < 1099511627776:=hfl cx (by rw [hls]; simp)
   simp only [List.length_cons] at hlr
   refine cP (s':=rowA encSide 42 (.slice xp cx.sides.length xc) cx.sides :: pt b5 (.cells #[.slice q rs.length d] 31 (0,0)) :: rowA encCell 40 (.slice q rs.length d) rs1 :: (ownS L' RL ++ R)) (List.perm_middle (l₁:=[_,_])) ?_
   refine SC.facts fun ⟨w0,hw0⟩=>?_
   have hbx : 0 < cx.sides.length → based (.slice xp cx.sides.length xc) = true:=fun h=>by obtain ⟨b0,c0,he⟩:=rowA_based (i:=0) hw0 rfl h; rw [he]; rfl
   clear hw0 w0
   refine kP (tN (sQ (bK (SC.sR (lU (fA uT31 I zT29 I) (lK (qL (v:=.slice q rs.length d) iT29 I (cO 1 I I)) (lM I (lU (iA uT29 zT40 I I hbs oM sL) (lU (fC uT40 I zT38 I hbs) (lK (pA (o:=2) (u:=.slice xp cx.sides.length xc) iT38 I (Rd.rowA 2 I) hgx I) (lA I (SL.nT (SC.sR (lM I (lU (eN uT38 I) (lU (sU I I oM) (lA I (SL.nT (bK ?_)))))))))))))))))))
   refine oP (ι:=List Side × Int) (fun i=>[(1,vi y),(2,pp b2 0),(4,pp b4 0),(5,pp b5 0),(9,vi RD.length),(10,.slice xp cx.sides.length xc),(11,vi i.2)]) (fun _=>g1)
    (fun i=>rowA encSide 42 (.slice xp cx.sides.length xc) i.1 :: pt b5 (.cells #[.slice q rs.length d] 31 (0,0)) :: rowA encCell 40 (.slice q rs.length d) rs1 :: (ownS L' RL ++ R))
    (fun i=>i.1.Perm cx.sides ∧ (-1 ≤ i.2 ∧ i.2 < cx.sides.length)) (fun i=>(i.2 + 1).toNat) (cx.sides,(cx.sides.length : Int) - 1)
    sB rfl rfl ⟨.refl _,by dsimp only; omega,by dsimp only; omega⟩ ?_
   rintro ⟨ss,j⟩ ⟨hps,hj0,hj1⟩
   dsimp only at hps hj0 hj1 ⊢
   have hsl:=hps.length_eq
   refine sQ (SC.sR (lM I (lU (gR I I) (SL.nT ?_))))
   refine iP I (fun hgt=>?_) (fun hgt=>?_)
   ·obtain ⟨jn,rfl⟩ : ∃ n : Nat,j = n:=⟨j.toNat,oM⟩
    have hjl : jn < ss.length:=oM
    have hbsx:=hbx oM
    have hgj : ss[((jn : Nat) : Int).toNat]? = some ss[jn]:=gE hjl
    obtain ⟨⟨zc,zs⟩,hz⟩ : ∃ z,z = ss[jn]:=⟨_,rfl⟩
    rw [← hz] at hgj
    refine kP (tN (sQ (bK (SC.sR (lM I (lU (SU.quo I I dC) (lM I (lU (SU.mulW I I) (lU (SU.addW I I) (lM I (lU (aD I I oM) (lW (cL kT34 I (mod_some E g1 _ _ jn oM)) ?_))))))))))))
    rintro _ _ _ ⟨kn,hkn,rfl,rfl,rfl⟩
    have hkl : kn < ss.length:=oM
    have hgk : ss[((kn : Nat) : Int).toNat]? = some ss[kn]:=gE hkl
    refine lA I (SL.nT (SC.sR (lM I (lM I (lU (iA uT38 zT42 I I hbsx oM sL) (lK (eA iT42 zT42 I (Rd.rowA 0 I) hgj) (SL.bx (aL zeroValue42) fun b13=>?_)))))))
    refine SL.O2 (sK 0 zT42 I I I I I sB) ?_
    refine SL.nT (SC.sR (lM I (lM I (lM I (lM I (lU (iA uT38 zT42 I I hbsx oM sL) (lK (eA iT42 zT42 I (Rd.rowA 1 I) hgk) (lU (iA uT38 zT42 I I hbsx oM sL) (SL.O2 (sT (a:=ss[kn]) 1 zT42 I I I hjl I) (SL.nT (rG (lM I (lM I (lK (qV 0 iT42 zT42 I I I) (lU (iA uT38 zT42 I I hbsx oM sL) (SL.O2 (sT (a:=(⟨zc,zs⟩ : Side)) 1 zT42 I I I (by simp only [List.length_set]; exact hkl) I) ?_))))))))))))))))
    refine nL (bN (tN (rG (lM I (lU (sU I I oM) (lA I (nL (dR (List.sublist_cons_self _ _) ?_))))))))
    have e : swp ss jn kn hjl hkl = (ss.set jn ss[kn]).set kn (⟨zc,zs⟩ : Side):=by unfold swp; rw [hz]
    exact gA ((ss.set jn ss[kn]).set kn (⟨zc,zs⟩ : Side),(jn : Int) - 1) sB I I ⟨by dsimp only; rw [← e]; exact (swp_perm _ _ _ _ _).trans hps,by dsimp only; omega,by dsimp only; omega⟩ (by dsimp only; omega)
   ·refine xI (tX (tX (bX (bN (tN (fS fun g2 hle2 hs2=>?_))))))
    refine rG (lM I (lU (aD I I oM) (lA I (nL ?_))))
    exact gA (g2,D0 ++ [cx],D ++ [⟨cx.id,cx.dim,ss⟩],RD ++ [⟨cx.id,cx.dim,⟨xp,cx.sides.length,xc⟩⟩],L',RL) ⟨I,I,I,I,vi_eq lN,trivial⟩ I I
     ⟨hle.trans hle2,by rw [hrs]; simp,by rw [hls]; simp,hsh.append ⟨⟨rfl,rfl,hps.symm⟩,trivial⟩,(hcr.mono fun _ _=>CellR.mono hle2).append ⟨(show CellR g2 ⟨cx.id,cx.dim,ss⟩ ⟨cx.id,cx.dim,⟨xp,cx.sides.length,xc⟩⟩ from ⟨rfl,rfl,hs2⟩),trivial⟩,hOL'⟩ lN
  ·have hr0 : RL = []:=List.eq_nil_of_length_eq_zero oM
   subst hr0
   have hl0 : L = []:=List.eq_nil_of_length_eq_zero (by simpa using hLl)
   subst hl0
   rw [List.append_nil] at hrs hls
   subst hrs hls
   subst hR
   refine SC.to (fun w hw=>hw.perm (List.Perm.swap _ _ _)) (g':=g1) (s':=rowA encCell 40 (.slice q rs.length d) rs1 :: pt b5 (.cells #[.slice q rs.length d] 31 (0,0)) :: (pt b4 (.cells #[.slice none 0 0] 31 (0,0)) :: pt b2 (.cells #[.slice p l.length c] 31 (0,0)) :: s)) ?_
   refine fS fun g2 hle2 hs2=>?_
   refine xI (tX (tX (bX (tN (SC.sR (lK (qV 0 iT31 zT31 I I I) (SL.O2 (sK 1 zT31 I I I I I sB) ?_)))))))
   refine SL.nT (rE ?_)
   exact ST.retCD 1 s (.inl I) results12 I iT31 zT31 I I (.cons _ (.cons _ (.cons _ (.refl _)))) ⟨I,hle.trans hle2,_,D,I,⟨rs1,hs2,hcr.mono fun _ _=>CellR.mono hle2⟩,⟨l1,hp,hsh⟩⟩
end Go.Proofs.YtkdibcicncjpdaaGreatDoor
