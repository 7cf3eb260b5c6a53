/- Pro Cpy Cmp Sub Cpt Con Ord SoA -/
import Derived.Test.YtkdibcicncjpdaaGreatDoorOr05
import Derived.Test.YtkdibcicncjpdaaGreatDoorOr03
import Derived.Shelf.SlSortCmp.Whole1
set_option linter.unusedSimpArgs false
set_option linter.unusedVariables false
namespace Go.Proofs.YtkdibcicncjpdaaGreatDoor
open _root_.Go.Proofs.Tryz _root_.Go.Proofs.YtkdibcicncjpdaaGreatDoor.Tryz
open Go Go.Sy Go.Pl Go.Proofs
set_option maxRecDepth 100000
theorem Tab.ptr {g : PH} {v : Value} {tl : List Cl} (h : Tab g v tl) : ∃ b,v = pp b 0:=by
 obtain ⟨b,_,_,_,h1,_⟩:=h
 exact ⟨b,h1⟩
theorem check_len {l : List Cl} (h : (checkC l).2 = 0) : l.length ≤ 4000:=by
 unfold checkC at h
 split at h
 ·simp at h
 ·omega
theorem Tryz.buildE31 (w : World) : (Instr.build 31 #[]).run Tryz.prog w = .ok (.agg #[.slice none 0 0]) w:=by
 simp [Instr.build,Instr.fill]
 rfl
theorem Tryz.buildC40 (x y : Int) (w : World) : (Instr.build 40 #[(0,vi x),(1,vi y)]).run Tryz.prog w = .ok (.agg #[vi x,vi y,.slice none 0 0]) w:=by
 have hz : (Value.agg #[vi 0,vi 0,Value.slice none 0 0]).cells = #[vi 0,vi 0,.slice none 0 0]:=rfl
 have h1 : ∀ z : Int,(vi z).cells = #[vi z]:=fun _=>rfl
 simp [Instr.build,Instr.fill,hz,h1]
theorem Tryz.buildS42 (x y : Int) (w : World) : (Instr.build 42 #[(0,vi x),(1,vi y)]).run Tryz.prog w = .ok (.agg #[vi x,vi y]) w:=by
 have hz : (Value.agg #[vi 0,vi 0]).cells = #[vi 0,vi 0]:=rfl
 have h1 : ∀ z : Int,(vi z).cells = #[vi z]:=fun _=>rfl
 simp [Instr.build,Instr.fill,hz,h1]
theorem flatMap_len {α β γ : Type} (l : List α) (m : List β) (f : α → β → γ) : (l.flatMap fun x=>m.map (f x)).length = l.length * m.length:=by
 induction l with
 | nil=>simp
 | cons x t ih=>rw [List.flatMap_cons,List.length_append,ih,List.length_map,List.length_cons,Nat.succ_mul]; omega
theorem signC_cases (n : Int) : signC n = 1 ∨ signC n = -1:=by unfold signC; omega
def prodBad (a b : List Cl) : Bool:=!decide ((checkC a).2 = 0) || !decide ((checkC b).2 = 0) || decide ((a.length : Int) * b.length > 4000)
theorem prodBad_a {a b : List Cl} (h : ¬ (checkC a).2 = 0) : prodBad a b = true:=by simp [prodBad,h]
theorem prodBad_b {a b : List Cl} (h : (checkC a).2 = 0) (h2 : ¬ (checkC b).2 = 0) : prodBad a b = true:=by simp [prodBad,h2]
theorem prodBad_c {a b : List Cl} (h : (checkC a).2 = 0) (h2 : (checkC b).2 = 0) : prodBad a b = decide ((a.length : Int) * b.length > 4000):=by simp [prodBad,h,h2]
theorem prodBad_no {a b : List Cl} (h : prodBad a b = false) : (checkC a).2 = 0 ∧ (checkC b).2 = 0 ∧ (a.length : Int) * b.length ≤ 4000:=by
 simp only [prodBad,Bool.or_eq_false_iff,Bool.not_eq_false',decide_eq_true_eq,decide_eq_false_iff_not] at h
 exact ⟨h.1.1,h.1.2,oM⟩
theorem chk1_ne {tl : List Cl} : ∀ {l : List Cl} {last : Int} {p : Int × Int},chk1 tl l last = some p → p.2 ≠ 0
 | [],_,_,h=>by simp [chk1] at h
 | y :: r,last,p,h=>by
  unfold chk1 at h
  split at h
  ·injection h with h; subst h; show (20 : Int) ≠ 0; decide
  ·split at h
   ·rename_i h0; injection h with h; subst h; exact h0
   ·exact chk1_ne h
theorem form_dim {tl : List Cl} {c : Cl} (h : formC tl c = 0) : 0 ≤ c.dim ∧ c.dim ≤ 8:=by
 unfold formC at h
 split at h
 ·simp at h
 ·rename_i hdb
  simp [dimBad] at hdb
  omega
theorem check_form {l : List Cl} (h : (checkC l).2 = 0) : ∀ x ∈ canonC l,formC (tabC l) x = 0:=by
 unfold checkC at h
 split at h
 ·simp at h
 ·cases h1 : chk1 (tabC l) (canonC l) 0 with
  | none=>exact chk1_none h1
  | some p=>rw [h1] at h; exact absurd h (chk1_ne h1)
theorem canonC_length (l : List Cl) : (canonC l).length = l.length:=by simp [canonC,sortBy_length]
theorem tabC_length (l : List Cl) : (tabC l).length ≤ l.length:=by
 rw [← canonC_length l]
 exact (tabC_sub l).length_le
def prodCell (tl ul : List Cl) (x y : Cl) : Cl:=⟨prodId tl ul x.id y.id,x.dim + y.dim,x.sides.map (fun q=>⟨prodId tl ul q.cell y.id,q.sign⟩) ++ y.sides.map (fun q=>⟨prodId tl ul x.id q.cell,signC x.dim * q.sign⟩)⟩
def prodAll (a b : List Cl) : List Cl:=(canonC a).flatMap fun x=>(canonC b).map (prodCell (tabC a) (tabC b) x)
def prodC (a b : List Cl) : List Cl:=if prodBad a b then [] else if (checkC (prodAll a b)).2 = 0 then canonC (prodAll a b) else []
theorem product_spec (E : World) (g : PH) (s : Own) (v u : Value) (a b : List Cl) (hv : Cells g v a) (hu : Cells g u b) (ha : Fits a) (hb : Fits b) :
  Ctr Tryz.prog E 32 #[.agg #[v],.agg #[u]] g s (fun r g' s'=>s = s' ∧ Le g g' ∧ ∃ x,r = .agg #[x] ∧ Cells g' x (prodC a b)):=by
 obtain ⟨p1,c1,e1⟩:=hv.form
 subst e1
 obtain ⟨p2,c2,e2⟩:=hu.form
 subst e2
 refine Ctr.of (args:=[.agg #[.slice p1 a.length c1],.agg #[.slice p2 b.length c2]]) func32 I ntmps32 (bE I) ?_
 refine SC.sR (SL.bx (bO I) fun b2=>?_)
 refine SL.bx (bO I) fun b3=>?_
 refine SL.bx (aL zeroValue31) fun b4=>?_
 refine SL.nT (sQ ?_)
 refine SC.cutB 35 (prodBad a b) ?_ ?_
 ·refine rG (lK (qV 2 iT31 zT31 I I I) (lW (cL call97 I (right_spec E g _ _ a hv ha)) ?_))
  rintro _ _ _ ⟨rfl,rfl,rfl⟩
  refine lU (SU.notP I) (lM I ?_)
  refine sP ?_ ?_
  ·intro h21
   refine lZ I I I (lZ I I I (lZ I I I (lU (pT I I) (lM I (lZ I I I (lZ I I I (lZ I I I (lZ I I I (lZ I I I (lZ I I I (lZ I I I (lZ I I I (lU (pT I I) (nL ?_))))))))))))))
   exact ST.mid1 (by exact congrArg (fun b=>some (Value.bool b)) (prodBad_a h21).symm) mI
  ·intro h21
   refine SL.gq (gT I I I dC) (qV 1 iT31 zT31 I I I) dC (SL.go (gT I I I dC) (cL call97 I (right_spec E g _ _ b hu hb)) dC ?_)
   rintro _ _ _ ⟨rfl,rfl,rfl⟩
   refine lY I I I (SU.notP I) (lU (pF I I) (lM I ?_))
   refine sP ?_ ?_
   ·intro h26
    refine lZ I I I (lZ I I I (lZ I I I (lZ I I I (lZ I I I (lZ I I I (lZ I I I (lZ I I I (lU (pT I I) (nL ?_)))))))))
    exact ST.mid1 (by exact congrArg (fun b=>some (Value.bool b)) (prodBad_b (Decidable.of_not_not h21) h26).symm) mI
   ·intro h26
    refine lY I I I (fA uT31 I zT29 I) (SL.gq (gT I I I dC) (qL iT29 I (cO 2 I I)) dC (lY I I I (eN uT29 I) (lY I I I (fA uT31 I zT29 I) (SL.gq (gT I I I dC) (qL iT29 I (cO 1 I I)) dC (lY I I I (eN uT29 I) (lY I I I (SU.mul (m:=a.length) (n:=b.length) I I (by have h1:=mul_le_4000 (check_len (Decidable.of_not_not h21)) (check_len (Decidable.of_not_not h26)); omega)) ?_))))))
    refine lY I I I (gR I I) (lU (pF I I) (nL ?_))
    exact ST.mid1 (by exact congrArg (fun b=>some (Value.bool b)) (prodBad_c (Decidable.of_not_not h21) (Decidable.of_not_not h26)).symm) mI
 refine iQ I (fun hbad=>?_) (fun hbad=>?_)
 ·refine SC.sR (lU (SU.build I (buildE31)) (SL.O2 (sK 0 zT31 I I I I I sB) ?_))
  refine SL.nT (rE (tR ?_))
  exact ST.retCD 0 s (.inl I) results32 I iT31 zT31 I I (.cons _ (.cons _ (.cons _ (.refl _)))) ⟨I,Le.refl g,_,I,by unfold prodC; rw [if_pos hbad]; exact ⟨[],Sl.nil g _,trivial⟩⟩
 ·refine kP (tN ?_)
  refine SC.cut (ι:=Nat × Nat × Value × Value × PH) (fun i=>[(2,pp b2 0),(3,pp b3 0),(4,pp b4 0),(5,pp i.1 0),(6,pp i.2.1 0)]) (fun i=>i.2.2.2.2)
   (fun i=>pt i.2.1 (.cells #[i.2.2.2.1] 76 (0,0)) :: pt i.1 (.cells #[i.2.2.1] 76 (0,0)) :: pt b4 (.cells #[.slice none 0 0] 31 (0,0)) :: pt b3 (.cells #[.slice p2 b.length c2] 31 (0,0)) :: pt b2 (.cells #[.slice p1 a.length c1] 31 (0,0)) :: s)
   (fun i=>Le g i.2.2.2.2 ∧ Tab i.2.2.2.2 i.2.2.1 (tabC a) ∧ Tab i.2.2.2.2 i.2.2.2.1 (tabC b)) ?_ ?_
  ·refine SC.drawX [] Tryz.mixed (by kernel_rfl) ?_
   refine SX.q (i:=0) I (by kernel_rfl) (qV 2 iT31 zT31 I I I) dC (SX.q (i:=2) I (by kernel_rfl) (qV 1 iT31 zT31 I I I) dC ?_)
   refine SX.br3 1 4 5 (by kernel_rfl) ?_ ?_ ?_
   ·refine SB.o (i:=1) rfl (cL kT56 rfl (of_spec E g _ _ a hv ha)) dC (.inr (by rintro tv g1 _ ⟨rfl,hle1,ht⟩; exact ⟨by assumption,(by exact .refl _)⟩)) ?_
    rintro tv g1 _ ⟨rfl,hle1,ht⟩
    obtain ⟨bt,rfl⟩:=ht.ptr
    refine SX.br3 3 4 5 (by kernel_rfl) ?_ ?_ ?_
    ·refine SB.o (i:=3) rfl (cL kT56 rfl (of_spec E g1 _ _ b (hu.mono hle1) hb)) dC (.inr (by rintro uv g2 _ ⟨rfl,hle2,hut⟩; exact ⟨by exact Le.trans (by assumption) (by assumption),(by exact .refl _)⟩)) ?_
     rintro uv g2 _ ⟨rfl,hle2,hut⟩
     obtain ⟨bu,rfl⟩:=hut.ptr
     refine SX.br2 4 5 (by kernel_rfl) ?_ ?_
     ·refine SB.o (i:=4) rfl (aL zeroValue76) dC (.inr (by rintro _ _ _ ⟨b5,rfl,rfl,rfl⟩; exact ⟨by exact Le.trans (by assumption) (by assumption),(by exact .cons _ (.refl _))⟩)) ?_
      rintro _ _ _ ⟨b5,rfl,rfl,rfl⟩
      refine SX.br1 5 (by kernel_rfl) ?_
      ·refine SB.o (i:=5) rfl (aL zeroValue76) dC (.inr (by rintro _ _ _ ⟨b6,rfl,rfl,rfl⟩; exact ⟨by exact Le.trans (by assumption) (by assumption),(by exact .cons _ (.cons _ (.refl _)))⟩)) ?_
       rintro _ _ _ ⟨b6,rfl,rfl,rfl⟩
       refine SX.br1 6 (by kernel_rfl) ?_
       ·refine SB.on (i:=6) rfl (sK 1 zT76 rfl rfl rfl rfl rfl sB) (.inr (by rintro _ _ _ ⟨rfl,rfl⟩; exact ⟨by exact Le.trans (by assumption) (by assumption),(by exact .cons _ (.cons _ (.refl _)))⟩)) ?_
        rintro _ _ _ ⟨rfl,rfl⟩
        refine SX.br1 7 (by kernel_rfl) ?_
        ·refine SB.on (i:=7) rfl (sK 0 zT76 rfl rfl rfl rfl rfl sB) (.inr (by rintro _ _ _ ⟨rfl,rfl⟩; exact ⟨by exact Le.trans (by assumption) (by assumption),(by exact .cons _ (.cons _ (.refl _)))⟩)) ?_
         rintro _ _ _ ⟨rfl,rfl⟩
         refine SX.nil (by kernel_rfl) ?_
         first | exact ST.mid (b5,b6,pp bt 0,pp bu 0,g2) sB rfl rfl ⟨hle1.trans hle2,ht.mono hle2,hut⟩ | (refine ST.perm (List.Perm.swap _ _ _) ?_; exact ST.mid (b5,b6,pp bt 0,pp bu 0,g2) sB rfl rfl ⟨hle1.trans hle2,ht.mono hle2,hut⟩)
     ·refine SB.o (i:=5) rfl (aL zeroValue76) dC (.inr (by rintro _ _ _ ⟨b6,rfl,rfl,rfl⟩; exact ⟨by exact Le.trans (by assumption) (by assumption),(by exact .cons _ (.refl _))⟩)) ?_
      rintro _ _ _ ⟨b6,rfl,rfl,rfl⟩
      refine SX.br1 4 (by kernel_rfl) ?_
      ·refine SB.o (i:=4) rfl (aL zeroValue76) dC (.inr (by rintro _ _ _ ⟨b5,rfl,rfl,rfl⟩; exact ⟨by exact Le.trans (by assumption) (by assumption),(by exact .cons _ (.cons _ (.refl _)))⟩)) ?_
       rintro _ _ _ ⟨b5,rfl,rfl,rfl⟩
       refine SX.br1 6 (by kernel_rfl) ?_
       ·refine SB.on (i:=6) rfl (sK 0 zT76 rfl rfl rfl rfl rfl sB) (.inr (by rintro _ _ _ ⟨rfl,rfl⟩; exact ⟨by exact Le.trans (by assumption) (by assumption),(by exact .cons _ (.cons _ (.refl _)))⟩)) ?_
        rintro _ _ _ ⟨rfl,rfl⟩
        refine SX.br1 7 (by kernel_rfl) ?_
        ·refine SB.on (i:=7) rfl (sK 1 zT76 rfl rfl rfl rfl rfl sB) (.inr (by rintro _ _ _ ⟨rfl,rfl⟩; exact ⟨by exact Le.trans (by assumption) (by assumption),(by exact .cons _ (.cons _ (.refl _)))⟩)) ?_
         rintro _ _ _ ⟨rfl,rfl⟩
         refine SX.nil (by kernel_rfl) ?_
         first | exact ST.mid (b5,b6,pp bt 0,pp bu 0,g2) sB rfl rfl ⟨hle1.trans hle2,ht.mono hle2,hut⟩ | (refine ST.perm (List.Perm.swap _ _ _) ?_; exact ST.mid (b5,b6,pp bt 0,pp bu 0,g2) sB rfl rfl ⟨hle1.trans hle2,ht.mono hle2,hut⟩)
    ·refine SB.o (i:=4) rfl (aL zeroValue76) dC (.inr (by rintro _ _ _ ⟨b5,rfl,rfl,rfl⟩; exact ⟨by assumption,(by exact .cons _ (.refl _))⟩)) ?_
     rintro _ _ _ ⟨b5,rfl,rfl,rfl⟩
     refine SX.br2 3 5 (by kernel_rfl) ?_ ?_
     ·refine SB.o (i:=3) rfl (cL kT56 rfl (of_spec E g1 _ _ b (hu.mono hle1) hb)) dC (.inr (by rintro uv g2 _ ⟨rfl,hle2,hut⟩; exact ⟨by exact Le.trans (by assumption) (by assumption),(by exact .cons _ (.refl _))⟩)) ?_
      rintro uv g2 _ ⟨rfl,hle2,hut⟩
      obtain ⟨bu,rfl⟩:=hut.ptr
      refine SX.br1 5 (by kernel_rfl) ?_
      ·refine SB.o (i:=5) rfl (aL zeroValue76) dC (.inr (by rintro _ _ _ ⟨b6,rfl,rfl,rfl⟩; exact ⟨by exact Le.trans (by assumption) (by assumption),(by exact .cons _ (.cons _ (.refl _)))⟩)) ?_
       rintro _ _ _ ⟨b6,rfl,rfl,rfl⟩
       refine SX.br1 6 (by kernel_rfl) ?_
       ·refine SB.on (i:=6) rfl (sK 1 zT76 rfl rfl rfl rfl rfl sB) (.inr (by rintro _ _ _ ⟨rfl,rfl⟩; exact ⟨by exact Le.trans (by assumption) (by assumption),(by exact .cons _ (.cons _ (.refl _)))⟩)) ?_
        rintro _ _ _ ⟨rfl,rfl⟩
        refine SX.br1 7 (by kernel_rfl) ?_
        ·refine SB.on (i:=7) rfl (sK 0 zT76 rfl rfl rfl rfl rfl sB) (.inr (by rintro _ _ _ ⟨rfl,rfl⟩; exact ⟨by exact Le.trans (by assumption) (by assumption),(by exact .cons _ (.cons _ (.refl _)))⟩)) ?_
         rintro _ _ _ ⟨rfl,rfl⟩
         refine SX.nil (by kernel_rfl) ?_
         first | exact ST.mid (b5,b6,pp bt 0,pp bu 0,g2) sB rfl rfl ⟨hle1.trans hle2,ht.mono hle2,hut⟩ | (refine ST.perm (List.Perm.swap _ _ _) ?_; exact ST.mid (b5,b6,pp bt 0,pp bu 0,g2) sB rfl rfl ⟨hle1.trans hle2,ht.mono hle2,hut⟩)
     ·refine SB.o (i:=5) rfl (aL zeroValue76) dC (.inr (by rintro _ _ _ ⟨b6,rfl,rfl,rfl⟩; exact ⟨by assumption,(by exact .cons _ (.cons _ (.refl _)))⟩)) ?_
      rintro _ _ _ ⟨b6,rfl,rfl,rfl⟩
      refine SX.br1 3 (by kernel_rfl) ?_
      ·refine SB.o (i:=3) rfl (cL kT56 rfl (of_spec E g1 _ _ b (hu.mono hle1) hb)) dC (.inr (by rintro uv g2 _ ⟨rfl,hle2,hut⟩; exact ⟨by exact Le.trans (by assumption) (by assumption),(by exact .cons _ (.cons _ (.refl _)))⟩)) ?_
       rintro uv g2 _ ⟨rfl,hle2,hut⟩
       obtain ⟨bu,rfl⟩:=hut.ptr
       refine SX.br1 6 (by kernel_rfl) ?_
       ·refine SB.on (i:=6) rfl (sK 1 zT76 rfl rfl rfl rfl rfl sB) (.inr (by rintro _ _ _ ⟨rfl,rfl⟩; exact ⟨by exact Le.trans (by assumption) (by assumption),(by exact .cons _ (.cons _ (.refl _)))⟩)) ?_
        rintro _ _ _ ⟨rfl,rfl⟩
        refine SX.br1 7 (by kernel_rfl) ?_
        ·refine SB.on (i:=7) rfl (sK 0 zT76 rfl rfl rfl rfl rfl sB) (.inr (by rintro _ _ _ ⟨rfl,rfl⟩; exact ⟨by exact Le.trans (by assumption) (by assumption),(by exact .cons _ (.cons _ (.refl _)))⟩)) ?_
         rintro _ _ _ ⟨rfl,rfl⟩
         refine SX.nil (by kernel_rfl) ?_
         first | exact ST.mid (b5,b6,pp bt 0,pp bu 0,g2) sB rfl rfl ⟨hle1.trans hle2,ht.mono hle2,hut⟩ | (refine ST.perm (List.Perm.swap _ _ _) ?_; exact ST.mid (b5,b6,pp bt 0,pp bu 0,g2) sB rfl rfl ⟨hle1.trans hle2,ht.mono hle2,hut⟩)
    ·refine SB.o (i:=5) rfl (aL zeroValue76) dC (.inr (by rintro _ _ _ ⟨b6,rfl,rfl,rfl⟩; exact ⟨by assumption,(by exact .cons _ (.refl _))⟩)) ?_
     rintro _ _ _ ⟨b6,rfl,rfl,rfl⟩
     refine SX.br2 3 4 (by kernel_rfl) ?_ ?_
     ·refine SB.o (i:=3) rfl (cL kT56 rfl (of_spec E g1 _ _ b (hu.mono hle1) hb)) dC (.inr (by rintro uv g2 _ ⟨rfl,hle2,hut⟩; exact ⟨by exact Le.trans (by assumption) (by assumption),(by exact .cons _ (.refl _))⟩)) ?_
      rintro uv g2 _ ⟨rfl,hle2,hut⟩
      obtain ⟨bu,rfl⟩:=hut.ptr
      refine SX.br1 4 (by kernel_rfl) ?_
      ·refine SB.o (i:=4) rfl (aL zeroValue76) dC (.inr (by rintro _ _ _ ⟨b5,rfl,rfl,rfl⟩; exact ⟨by exact Le.trans (by assumption) (by assumption),(by exact .cons _ (.cons _ (.refl _)))⟩)) ?_
       rintro _ _ _ ⟨b5,rfl,rfl,rfl⟩
       refine SX.br1 6 (by kernel_rfl) ?_
       ·refine SB.on (i:=6) rfl (sK 0 zT76 rfl rfl rfl rfl rfl sB) (.inr (by rintro _ _ _ ⟨rfl,rfl⟩; exact ⟨by exact Le.trans (by assumption) (by assumption),(by exact .cons _ (.cons _ (.refl _)))⟩)) ?_
        rintro _ _ _ ⟨rfl,rfl⟩
        refine SX.br1 7 (by kernel_rfl) ?_
        ·refine SB.on (i:=7) rfl (sK 1 zT76 rfl rfl rfl rfl rfl sB) (.inr (by rintro _ _ _ ⟨rfl,rfl⟩; exact ⟨by exact Le.trans (by assumption) (by assumption),(by exact .cons _ (.cons _ (.refl _)))⟩)) ?_
         rintro _ _ _ ⟨rfl,rfl⟩
         refine SX.nil (by kernel_rfl) ?_
         first | exact ST.mid (b5,b6,pp bt 0,pp bu 0,g2) sB rfl rfl ⟨hle1.trans hle2,ht.mono hle2,hut⟩ | (refine ST.perm (List.Perm.swap _ _ _) ?_; exact ST.mid (b5,b6,pp bt 0,pp bu 0,g2) sB rfl rfl ⟨hle1.trans hle2,ht.mono hle2,hut⟩)
     ·refine SB.o (i:=4) rfl (aL zeroValue76) dC (.inr (by rintro _ _ _ ⟨b5,rfl,rfl,rfl⟩; exact ⟨by assumption,(by exact .cons _ (.cons _ (.refl _)))⟩)) ?_
      rintro _ _ _ ⟨b5,rfl,rfl,rfl⟩
      refine SX.br1 3 (by kernel_rfl) ?_
      ·refine SB.o (i:=3) rfl (cL kT56 rfl (of_spec E g1 _ _ b (hu.mono hle1) hb)) dC (.inr (by rintro uv g2 _ ⟨rfl,hle2,hut⟩; exact ⟨by exact Le.trans (by assumption) (by assumption),(by exact .cons _ (.cons _ (.refl _)))⟩)) ?_
       rintro uv g2 _ ⟨rfl,hle2,hut⟩
       obtain ⟨bu,rfl⟩:=hut.ptr
       refine SX.br1 6 (by kernel_rfl) ?_
       ·refine SB.on (i:=6) rfl (sK 0 zT76 rfl rfl rfl rfl rfl sB) (.inr (by rintro _ _ _ ⟨rfl,rfl⟩; exact ⟨by exact Le.trans (by assumption) (by assumption),(by exact .cons _ (.cons _ (.refl _)))⟩)) ?_
        rintro _ _ _ ⟨rfl,rfl⟩
        refine SX.br1 7 (by kernel_rfl) ?_
        ·refine SB.on (i:=7) rfl (sK 1 zT76 rfl rfl rfl rfl rfl sB) (.inr (by rintro _ _ _ ⟨rfl,rfl⟩; exact ⟨by exact Le.trans (by assumption) (by assumption),(by exact .cons _ (.cons _ (.refl _)))⟩)) ?_
         rintro _ _ _ ⟨rfl,rfl⟩
         refine SX.nil (by kernel_rfl) ?_
         first | exact ST.mid (b5,b6,pp bt 0,pp bu 0,g2) sB rfl rfl ⟨hle1.trans hle2,ht.mono hle2,hut⟩ | (refine ST.perm (List.Perm.swap _ _ _) ?_; exact ST.mid (b5,b6,pp bt 0,pp bu 0,g2) sB rfl rfl ⟨hle1.trans hle2,ht.mono hle2,hut⟩)
   ·refine SB.o (i:=4) rfl (aL zeroValue76) dC (.inr (by rintro _ _ _ ⟨b5,rfl,rfl,rfl⟩; exact ⟨by exact Le.refl _,(by exact .cons _ (.refl _))⟩)) ?_
    rintro _ _ _ ⟨b5,rfl,rfl,rfl⟩
    refine SX.br2 1 5 (by kernel_rfl) ?_ ?_
    ·refine SB.o (i:=1) rfl (cL kT56 rfl (of_spec E g _ _ a hv ha)) dC (.inr (by rintro tv g1 _ ⟨rfl,hle1,ht⟩; exact ⟨by assumption,(by exact .cons _ (.refl _))⟩)) ?_
     rintro tv g1 _ ⟨rfl,hle1,ht⟩
     obtain ⟨bt,rfl⟩:=ht.ptr
     refine SX.br2 3 5 (by kernel_rfl) ?_ ?_
     ·refine SB.o (i:=3) rfl (cL kT56 rfl (of_spec E g1 _ _ b (hu.mono hle1) hb)) dC (.inr (by rintro uv g2 _ ⟨rfl,hle2,hut⟩; exact ⟨by exact Le.trans (by assumption) (by assumption),(by exact .cons _ (.refl _))⟩)) ?_
      rintro uv g2 _ ⟨rfl,hle2,hut⟩
      obtain ⟨bu,rfl⟩:=hut.ptr
      refine SX.br1 5 (by kernel_rfl) ?_
      ·refine SB.o (i:=5) rfl (aL zeroValue76) dC (.inr (by rintro _ _ _ ⟨b6,rfl,rfl,rfl⟩; exact ⟨by exact Le.trans (by assumption) (by assumption),(by exact .cons _ (.cons _ (.refl _)))⟩)) ?_
       rintro _ _ _ ⟨b6,rfl,rfl,rfl⟩
       refine SX.br1 6 (by kernel_rfl) ?_
       ·refine SB.on (i:=6) rfl (sK 1 zT76 rfl rfl rfl rfl rfl sB) (.inr (by rintro _ _ _ ⟨rfl,rfl⟩; exact ⟨by exact Le.trans (by assumption) (by assumption),(by exact .cons _ (.cons _ (.refl _)))⟩)) ?_
        rintro _ _ _ ⟨rfl,rfl⟩
        refine SX.br1 7 (by kernel_rfl) ?_
        ·refine SB.on (i:=7) rfl (sK 0 zT76 rfl rfl rfl rfl rfl sB) (.inr (by rintro _ _ _ ⟨rfl,rfl⟩; exact ⟨by exact Le.trans (by assumption) (by assumption),(by exact .cons _ (.cons _ (.refl _)))⟩)) ?_
         rintro _ _ _ ⟨rfl,rfl⟩
         refine SX.nil (by kernel_rfl) ?_
         first | exact ST.mid (b5,b6,pp bt 0,pp bu 0,g2) sB rfl rfl ⟨hle1.trans hle2,ht.mono hle2,hut⟩ | (refine ST.perm (List.Perm.swap _ _ _) ?_; exact ST.mid (b5,b6,pp bt 0,pp bu 0,g2) sB rfl rfl ⟨hle1.trans hle2,ht.mono hle2,hut⟩)
     ·refine SB.o (i:=5) rfl (aL zeroValue76) dC (.inr (by rintro _ _ _ ⟨b6,rfl,rfl,rfl⟩; exact ⟨by assumption,(by exact .cons _ (.cons _ (.refl _)))⟩)) ?_
      rintro _ _ _ ⟨b6,rfl,rfl,rfl⟩
      refine SX.br1 3 (by kernel_rfl) ?_
      ·refine SB.o (i:=3) rfl (cL kT56 rfl (of_spec E g1 _ _ b (hu.mono hle1) hb)) dC (.inr (by rintro uv g2 _ ⟨rfl,hle2,hut⟩; exact ⟨by exact Le.trans (by assumption) (by assumption),(by exact .cons _ (.cons _ (.refl _)))⟩)) ?_
       rintro uv g2 _ ⟨rfl,hle2,hut⟩
       obtain ⟨bu,rfl⟩:=hut.ptr
       refine SX.br1 6 (by kernel_rfl) ?_
       ·refine SB.on (i:=6) rfl (sK 1 zT76 rfl rfl rfl rfl rfl sB) (.inr (by rintro _ _ _ ⟨rfl,rfl⟩; exact ⟨by exact Le.trans (by assumption) (by assumption),(by exact .cons _ (.cons _ (.refl _)))⟩)) ?_
        rintro _ _ _ ⟨rfl,rfl⟩
        refine SX.br1 7 (by kernel_rfl) ?_
        ·refine SB.on (i:=7) rfl (sK 0 zT76 rfl rfl rfl rfl rfl sB) (.inr (by rintro _ _ _ ⟨rfl,rfl⟩; exact ⟨by exact Le.trans (by assumption) (by assumption),(by exact .cons _ (.cons _ (.refl _)))⟩)) ?_
         rintro _ _ _ ⟨rfl,rfl⟩
         refine SX.nil (by kernel_rfl) ?_
         first | exact ST.mid (b5,b6,pp bt 0,pp bu 0,g2) sB rfl rfl ⟨hle1.trans hle2,ht.mono hle2,hut⟩ | (refine ST.perm (List.Perm.swap _ _ _) ?_; exact ST.mid (b5,b6,pp bt 0,pp bu 0,g2) sB rfl rfl ⟨hle1.trans hle2,ht.mono hle2,hut⟩)
    ·refine SB.o (i:=5) rfl (aL zeroValue76) dC (.inr (by rintro _ _ _ ⟨b6,rfl,rfl,rfl⟩; exact ⟨by exact Le.refl _,(by exact .cons _ (.cons _ (.refl _)))⟩)) ?_
     rintro _ _ _ ⟨b6,rfl,rfl,rfl⟩
     refine SX.br1 1 (by kernel_rfl) ?_
     ·refine SB.o (i:=1) rfl (cL kT56 rfl (of_spec E g _ _ a hv ha)) dC (.inr (by rintro tv g1 _ ⟨rfl,hle1,ht⟩; exact ⟨by assumption,(by exact .cons _ (.cons _ (.refl _)))⟩)) ?_
      rintro tv g1 _ ⟨rfl,hle1,ht⟩
      obtain ⟨bt,rfl⟩:=ht.ptr
      refine SX.br1 3 (by kernel_rfl) ?_
      ·refine SB.o (i:=3) rfl (cL kT56 rfl (of_spec E g1 _ _ b (hu.mono hle1) hb)) dC (.inr (by rintro uv g2 _ ⟨rfl,hle2,hut⟩; exact ⟨by exact Le.trans (by assumption) (by assumption),(by exact .cons _ (.cons _ (.refl _)))⟩)) ?_
       rintro uv g2 _ ⟨rfl,hle2,hut⟩
       obtain ⟨bu,rfl⟩:=hut.ptr
       refine SX.br1 6 (by kernel_rfl) ?_
       ·refine SB.on (i:=6) rfl (sK 1 zT76 rfl rfl rfl rfl rfl sB) (.inr (by rintro _ _ _ ⟨rfl,rfl⟩; exact ⟨by exact Le.trans (by assumption) (by assumption),(by exact .cons _ (.cons _ (.refl _)))⟩)) ?_
        rintro _ _ _ ⟨rfl,rfl⟩
        refine SX.br1 7 (by kernel_rfl) ?_
        ·refine SB.on (i:=7) rfl (sK 0 zT76 rfl rfl rfl rfl rfl sB) (.inr (by rintro _ _ _ ⟨rfl,rfl⟩; exact ⟨by exact Le.trans (by assumption) (by assumption),(by exact .cons _ (.cons _ (.refl _)))⟩)) ?_
         rintro _ _ _ ⟨rfl,rfl⟩
         refine SX.nil (by kernel_rfl) ?_
         first | exact ST.mid (b5,b6,pp bt 0,pp bu 0,g2) sB rfl rfl ⟨hle1.trans hle2,ht.mono hle2,hut⟩ | (refine ST.perm (List.Perm.swap _ _ _) ?_; exact ST.mid (b5,b6,pp bt 0,pp bu 0,g2) sB rfl rfl ⟨hle1.trans hle2,ht.mono hle2,hut⟩)
   ·refine SB.o (i:=5) rfl (aL zeroValue76) dC (.inr (by rintro _ _ _ ⟨b6,rfl,rfl,rfl⟩; exact ⟨by exact Le.refl _,(by exact .cons _ (.refl _))⟩)) ?_
    rintro _ _ _ ⟨b6,rfl,rfl,rfl⟩
    refine SX.br2 1 4 (by kernel_rfl) ?_ ?_
    ·refine SB.o (i:=1) rfl (cL kT56 rfl (of_spec E g _ _ a hv ha)) dC (.inr (by rintro tv g1 _ ⟨rfl,hle1,ht⟩; exact ⟨by assumption,(by exact .cons _ (.refl _))⟩)) ?_
     rintro tv g1 _ ⟨rfl,hle1,ht⟩
     obtain ⟨bt,rfl⟩:=ht.ptr
     refine SX.br2 3 4 (by kernel_rfl) ?_ ?_
     ·refine SB.o (i:=3) rfl (cL kT56 rfl (of_spec E g1 _ _ b (hu.mono hle1) hb)) dC (.inr (by rintro uv g2 _ ⟨rfl,hle2,hut⟩; exact ⟨by exact Le.trans (by assumption) (by assumption),(by exact .cons _ (.refl _))⟩)) ?_
      rintro uv g2 _ ⟨rfl,hle2,hut⟩
      obtain ⟨bu,rfl⟩:=hut.ptr
      refine SX.br1 4 (by kernel_rfl) ?_
      ·refine SB.o (i:=4) rfl (aL zeroValue76) dC (.inr (by rintro _ _ _ ⟨b5,rfl,rfl,rfl⟩; exact ⟨by exact Le.trans (by assumption) (by assumption),(by exact .cons _ (.cons _ (.refl _)))⟩)) ?_
       rintro _ _ _ ⟨b5,rfl,rfl,rfl⟩
       refine SX.br1 6 (by kernel_rfl) ?_
       ·refine SB.on (i:=6) rfl (sK 0 zT76 rfl rfl rfl rfl rfl sB) (.inr (by rintro _ _ _ ⟨rfl,rfl⟩; exact ⟨by exact Le.trans (by assumption) (by assumption),(by exact .cons _ (.cons _ (.refl _)))⟩)) ?_
        rintro _ _ _ ⟨rfl,rfl⟩
        refine SX.br1 7 (by kernel_rfl) ?_
        ·refine SB.on (i:=7) rfl (sK 1 zT76 rfl rfl rfl rfl rfl sB) (.inr (by rintro _ _ _ ⟨rfl,rfl⟩; exact ⟨by exact Le.trans (by assumption) (by assumption),(by exact .cons _ (.cons _ (.refl _)))⟩)) ?_
         rintro _ _ _ ⟨rfl,rfl⟩
         refine SX.nil (by kernel_rfl) ?_
         first | exact ST.mid (b5,b6,pp bt 0,pp bu 0,g2) sB rfl rfl ⟨hle1.trans hle2,ht.mono hle2,hut⟩ | (refine ST.perm (List.Perm.swap _ _ _) ?_; exact ST.mid (b5,b6,pp bt 0,pp bu 0,g2) sB rfl rfl ⟨hle1.trans hle2,ht.mono hle2,hut⟩)
     ·refine SB.o (i:=4) rfl (aL zeroValue76) dC (.inr (by rintro _ _ _ ⟨b5,rfl,rfl,rfl⟩; exact ⟨by assumption,(by exact .cons _ (.cons _ (.refl _)))⟩)) ?_
      rintro _ _ _ ⟨b5,rfl,rfl,rfl⟩
      refine SX.br1 3 (by kernel_rfl) ?_
      ·refine SB.o (i:=3) rfl (cL kT56 rfl (of_spec E g1 _ _ b (hu.mono hle1) hb)) dC (.inr (by rintro uv g2 _ ⟨rfl,hle2,hut⟩; exact ⟨by exact Le.trans (by assumption) (by assumption),(by exact .cons _ (.cons _ (.refl _)))⟩)) ?_
       rintro uv g2 _ ⟨rfl,hle2,hut⟩
       obtain ⟨bu,rfl⟩:=hut.ptr
       refine SX.br1 6 (by kernel_rfl) ?_
       ·refine SB.on (i:=6) rfl (sK 0 zT76 rfl rfl rfl rfl rfl sB) (.inr (by rintro _ _ _ ⟨rfl,rfl⟩; exact ⟨by exact Le.trans (by assumption) (by assumption),(by exact .cons _ (.cons _ (.refl _)))⟩)) ?_
        rintro _ _ _ ⟨rfl,rfl⟩
        refine SX.br1 7 (by kernel_rfl) ?_
        ·refine SB.on (i:=7) rfl (sK 1 zT76 rfl rfl rfl rfl rfl sB) (.inr (by rintro _ _ _ ⟨rfl,rfl⟩; exact ⟨by exact Le.trans (by assumption) (by assumption),(by exact .cons _ (.cons _ (.refl _)))⟩)) ?_
         rintro _ _ _ ⟨rfl,rfl⟩
         refine SX.nil (by kernel_rfl) ?_
         first | exact ST.mid (b5,b6,pp bt 0,pp bu 0,g2) sB rfl rfl ⟨hle1.trans hle2,ht.mono hle2,hut⟩ | (refine ST.perm (List.Perm.swap _ _ _) ?_; exact ST.mid (b5,b6,pp bt 0,pp bu 0,g2) sB rfl rfl ⟨hle1.trans hle2,ht.mono hle2,hut⟩)
    ·refine SB.o (i:=4) rfl (aL zeroValue76) dC (.inr (by rintro _ _ _ ⟨b5,rfl,rfl,rfl⟩; exact ⟨by exact Le.refl _,(by exact .cons _ (.cons _ (.refl _)))⟩)) ?_
     rintro _ _ _ ⟨b5,rfl,rfl,rfl⟩
     refine SX.br1 1 (by kernel_rfl) ?_
     ·refine SB.o (i:=1) rfl (cL kT56 rfl (of_spec E g _ _ a hv ha)) dC (.inr (by rintro tv g1 _ ⟨rfl,hle1,ht⟩; exact ⟨by assumption,(by exact .cons _ (.cons _ (.refl _)))⟩)) ?_
      rintro tv g1 _ ⟨rfl,hle1,ht⟩
      obtain ⟨bt,rfl⟩:=ht.ptr
      refine SX.br1 3 (by kernel_rfl) ?_
      ·refine SB.o (i:=3) rfl (cL kT56 rfl (of_spec E g1 _ _ b (hu.mono hle1) hb)) dC (.inr (by rintro uv g2 _ ⟨rfl,hle2,hut⟩; exact ⟨by exact Le.trans (by assumption) (by assumption),(by exact .cons _ (.cons _ (.refl _)))⟩)) ?_
       rintro uv g2 _ ⟨rfl,hle2,hut⟩
       obtain ⟨bu,rfl⟩:=hut.ptr
       refine SX.br1 6 (by kernel_rfl) ?_
       ·refine SB.on (i:=6) rfl (sK 0 zT76 rfl rfl rfl rfl rfl sB) (.inr (by rintro _ _ _ ⟨rfl,rfl⟩; exact ⟨by exact Le.trans (by assumption) (by assumption),(by exact .cons _ (.cons _ (.refl _)))⟩)) ?_
        rintro _ _ _ ⟨rfl,rfl⟩
        refine SX.br1 7 (by kernel_rfl) ?_
        ·refine SB.on (i:=7) rfl (sK 1 zT76 rfl rfl rfl rfl rfl sB) (.inr (by rintro _ _ _ ⟨rfl,rfl⟩; exact ⟨by exact Le.trans (by assumption) (by assumption),(by exact .cons _ (.cons _ (.refl _)))⟩)) ?_
         rintro _ _ _ ⟨rfl,rfl⟩
         refine SX.nil (by kernel_rfl) ?_
         first | exact ST.mid (b5,b6,pp bt 0,pp bu 0,g2) sB rfl rfl ⟨hle1.trans hle2,ht.mono hle2,hut⟩ | (refine ST.perm (List.Perm.swap _ _ _) ?_; exact ST.mid (b5,b6,pp bt 0,pp bu 0,g2) sB rfl rfl ⟨hle1.trans hle2,ht.mono hle2,hut⟩)
  rintro ⟨b5,b6,tv,uv,g2⟩ ⟨hle,ht,hut⟩
  dsimp only at hle ht hut ⊢
  obtain ⟨hca,hcb,hml⟩:=prodBad_no hbad
  have hla:=check_len hca
  have hlb:=check_len hcb
  have hfa:=check_form hca
  have hfb:=check_form hcb
  have hta : (tabC a).length ≤ 4000:=Nat.le_trans (tabC_length a) hla
  have htb : (tabC b).length ≤ 4000:=Nat.le_trans (tabC_length b) hlb
  refine SC.freeze fun g3 hl3 hb6=>?_
  refine SC.freeze fun g4 hl4 hb5=>?_
  have hle4:=hle.trans (hl3.trans hl4)
  have ht4:=ht.mono (hl3.trans hl4)
  have hut4:=hut.mono (hl3.trans hl4)
  have hb64:=hl4 _ _ hb6
  have hid : ∀ (g' : PH) (s' : Own) (x y : Int),Le g4 g' → CallV Tryz.prog E (.func (.func 98) #[] #[pp b5 0,pp b6 0]) [vi x,vi y] g' s' (fun r g'' s''=>r = vi (prodId (tabC a) (tabC b) x y) ∧ g' = g'' ∧ s' = s''):=fun g' s' x y h=>prodId_spec E g' s' b5 b6 tv uv (tabC a) (tabC b) x y (ht4.mono h) (hut4.mono h) (h _ _ hb5) (h _ _ hb64) (tabC_sorted a) (tabC_sorted b) hta htb
  refine SC.sR (lU (SU.mkFunc I) (lA I (SL.nT (SC.sR (SL.bx (aL zeroValue31) fun b8=>?_)))))
  refine SL.nT (sQ (SC.sR (lK (qV 3 iT31 zT31 I I I) (lW (cL call16 I (canon_spec E g4 _ _ a (hv.mono hle4) ha)) ?_))))
  rintro _ g5 _ ⟨rfl,hle5,ua,rfl,ra,hra,halla⟩
  obtain ⟨qa,da,rfl⟩:=hra.form
  refine lU (SU.field uT31 I iT29 I I) (lU (eN uT29 I) (lM I (SL.nT (bK ?_))))
  have hlena:=halla.length
  have hral : ra.length ≤ 4000:=by rw [← hlena,canonC_length]; exact hla
  refine SC.nilRow 40 3 ?_
  refine oP (ι:=Nat × Value × List Rc × PH) (fun i=>[(2,pp b2 0),(3,pp b3 0),(4,pp b4 0),(7,(.func (.func 98) #[] #[pp b5 0,pp b6 0])),(8,pp b8 0),(44,.slice qa ra.length da),(45,vi ra.length),(46,vi i.1)]) (fun i=>i.2.2.2)
   (fun i=>rowA encCell 40 i.2.1 i.2.2.1 :: pt b8 (.cells #[i.2.1] 31 (0,0)) :: pt b4 (.cells #[.slice none 0 0] 31 (0,0)) :: pt b3 (.cells #[.slice p2 b.length c2] 31 (0,0)) :: pt b2 (.cells #[.slice p1 a.length c1] 31 (0,0)) :: s)
   (fun i=>i.1 ≤ ra.length ∧ Le g5 i.2.2.2 ∧ All2 (CellR i.2.2.2) (((canonC a).take i.1).flatMap fun x=>(canonC b).map (prodCell (tabC a) (tabC b) x)) i.2.2.1) (fun i=>ra.length - i.1) (0,.slice none 0 0,[],g5)
   sB rfl rfl ⟨Nat.zero_le _,Le.refl _,by simp [All2]⟩ ?_
  rintro ⟨k,ov0,acc0,g6⟩ ⟨hk,hle6,hacc0⟩
  dsimp only at hk hle6 hacc0 ⊢
  refine SC.sR (lU (lS I I) (SL.nT (sQ ?_)))
  refine iP I (fun hlt=>?_) (fun hlt=>?_)
  ·have hkr : k < ra.length:=oM
   have hkc : k < (canonC a).length:=oM
   have hba:=hra.based oM
   have hcr:=(halla.get (gE hkc) (gE hkr)).mono hle6
   have hgx : ra[((k : Nat) : Int).toNat]? = some ra[k]:=gE hkr
   have htk : (canonC a).take (k + 1) = (canonC a).take k ++ [(canonC a)[k]]:=tS hkc
   have hxf:=hfa _ (gM hkc)
   generalize ra[k] = x at *
   generalize (canonC a)[k] = cx at *
   obtain ⟨hxl,hxs⟩:=form_ok hxf
   have hxd:=form_dim hxf
   obtain ⟨xi,xd,xp,xn,xc⟩:=x
   have hxi : xi = cx.id:=hcr.1
   have hxdd : xd = cx.dim:=hcr.2.1
   have hxsl : SlA encSide g6 (.slice xp xn xc) cx.sides:=hcr.2.2
   have hxn : xn = cx.sides.length:=Sl.slen hxsl
   subst hxi hxdd hxn
   refine kP (tN (sQ (bK (SC.sR (lU (iA uT29 zT40 I I hba oM sL) (lK (eA iT40 zT40 I (hra.mono hle6).rd hgx) (SL.bx (aL zeroValue40) fun b10=>?_)))))))
   refine SL.O2 (sK 0 zT40 I I I I I sB) ?_
   refine SL.nT (SC.sR (lK (qV 4 iT31 zT31 I I I) (lW (cL call16 I (canon_spec E g6 _ _ b (hu.mono (hle4.trans (hle5.trans hle6))) hb)) ?_)))
   rintro _ g7 _ ⟨rfl,hle7,ub,rfl,rb,hrb,hallb⟩
   obtain ⟨qb,db,rfl⟩:=hrb.form
   refine lU (SU.field uT31 I iT29 I I) (lU (eN uT29 I) (lM I (SL.nT (bK ?_))))
   have hlenb:=hallb.length
   have hrbl : rb.length ≤ 4000:=by rw [← hlenb,canonC_length]; exact hlb
   refine oP (ι:=Nat × Value × List Rc × PH) (fun i=>[(2,pp b2 0),(3,pp b3 0),(4,pp b4 0),(7,(.func (.func 98) #[] #[pp b5 0,pp b6 0])),(8,pp b8 0),(44,.slice qa ra.length da),(45,vi ra.length),(46,vi k),(10,pp b10 0),(52,.slice qb rb.length db),(53,vi rb.length),(54,vi i.1)]) (fun i=>i.2.2.2)
    (fun i=>pt b10 (.cells #[vi cx.id,vi cx.dim,.slice xp cx.sides.length xc] 40 (0,0)) :: rowA encCell 40 i.2.1 i.2.2.1 :: pt b8 (.cells #[i.2.1] 31 (0,0)) :: pt b4 (.cells #[.slice none 0 0] 31 (0,0)) :: pt b3 (.cells #[.slice p2 b.length c2] 31 (0,0)) :: pt b2 (.cells #[.slice p1 a.length c1] 31 (0,0)) :: s)
    (fun i=>i.1 ≤ rb.length ∧ Le g7 i.2.2.2 ∧ All2 (CellR i.2.2.2) ((((canonC a).take k).flatMap fun x=>(canonC b).map (prodCell (tabC a) (tabC b) x)) ++ ((canonC b).take i.1).map (prodCell (tabC a) (tabC b) cx)) i.2.2.1) (fun i=>rb.length - i.1) (0,ov0,acc0,g7)
    sB rfl rfl ⟨Nat.zero_le _,Le.refl _,by simpa using hacc0.mono fun _ _=>CellR.mono hle7⟩ ?_
   rintro ⟨j,ov1,acc1,g8⟩ ⟨hj,hle8,hacc1⟩
   dsimp only at hj hle8 hacc1 ⊢
   refine SC.sR (lU (lS I I) (SL.nT (sQ ?_)))
   refine iP I (fun hlt2=>?_) (fun hlt2=>?_)
   ·have hjr : j < rb.length:=oM
    have hjc : j < (canonC b).length:=oM
    have hbb:=hrb.based oM
    have hcr2:=(hallb.get (gE hjc) (gE hjr)).mono hle8
    have hgy : rb[((j : Nat) : Int).toNat]? = some rb[j]:=gE hjr
    have htj : (canonC b).take (j + 1) = (canonC b).take j ++ [(canonC b)[j]]:=tS hjc
    have hyf:=hfb _ (gM hjc)
    generalize rb[j] = y at *
    generalize (canonC b)[j] = cy at *
    obtain ⟨hyl,hys⟩:=form_ok hyf
    have hyd:=form_dim hyf
    obtain ⟨yi,yd,yp,yn,yc⟩:=y
    have hyi : yi = cy.id:=hcr2.1
    have hydd : yd = cy.dim:=hcr2.2.1
    have hysl : SlA encSide g8 (.slice yp yn yc) cy.sides:=hcr2.2.2
    have hyn : yn = cy.sides.length:=Sl.slen hysl
    subst hyi hydd hyn
    have hxsl8:=hxsl.mono (hle7.trans hle8)
    have hle48 : Le g4 g8:=hle5.trans (hle6.trans (hle7.trans hle8))
    refine kP (tN (sQ (bK (SC.sR (lU (iA uT29 zT40 I I hbb oM sL) (lK (eA iT40 zT40 I (hrb.mono hle8).rd hgy) (SL.bx (aL zeroValue40) fun b12=>?_)))))))
    refine SL.O2 (sK 0 zT40 I I I I I sB) ?_
    refine SL.nT ?_
    refine SC.cut (ι:=Nat) (fun b13=>[(2,pp b2 0),(3,pp b3 0),(4,pp b4 0),(7,(.func (.func 98) #[] #[pp b5 0,pp b6 0])),(8,pp b8 0),(44,.slice qa ra.length da),(45,vi ra.length),(46,vi k),(10,pp b10 0),(52,.slice qb rb.length db),(53,vi rb.length),(54,vi j),(12,pp b12 0),(13,pp b13 0)]) (fun _=>g8) (fun b13=>pt b13 (.cells #[vi (prodId (tabC a) (tabC b) cx.id cy.id),vi (cx.dim + cy.dim),.slice none 0 0] 40 (0,0)) :: pt b12 (.cells #[vi cy.id,vi cy.dim,.slice yp cy.sides.length yc] 40 (0,0)) :: pt b10 (.cells #[vi cx.id,vi cx.dim,.slice xp cx.sides.length xc] 40 (0,0)) :: rowA encCell 40 ov1 acc1 :: pt b8 (.cells #[ov1] 31 (0,0)) :: pt b4 (.cells #[.slice none 0 0] 31 (0,0)) :: pt b3 (.cells #[.slice p2 b.length c2] 31 (0,0)) :: pt b2 (.cells #[.slice p1 a.length c1] 31 (0,0)) :: s) (fun _=>True) ?_ ?_
    ·refine SC.drawX [] Tryz.mixed (by kernel_rfl) ?_
     refine SX.u (i:=0) I (by kernel_rfl) (mV I) dC (SX.u (i:=1) I (by kernel_rfl) (fA uT40 I zT3 I) dC (SX.q (i:=2) I (by kernel_rfl) (qL iT3 I (cO 1 I I)) dC (SX.u (i:=3) I (by kernel_rfl) (fA uT40 I zT3 I) dC (SX.q (i:=4) I (by kernel_rfl) (qL iT3 I (cO 0 I I)) dC (SX.u (i:=6) I (by kernel_rfl) (fA uT40 I zT3 I) dC (SX.q (i:=7) I (by kernel_rfl) (qL iT3 I (cO 1 I I)) dC (SX.u (i:=8) I (by kernel_rfl) (fA uT40 I zT3 I) dC (SX.q (i:=9) I (by kernel_rfl) (qL iT3 I (cO 0 I I)) dC (SX.u (i:=10) I (by kernel_rfl) (aD (m:=cx.dim) (n:=cy.dim) I I oM) dC ?_)))))))))
     refine SX.br2 5 12 (by kernel_rfl) ?_ ?_
     ·refine SB.o (i:=5) rfl (SO.callV rfl rfl (hid g8 _ cx.id cy.id hle48)) dC (.inr (by rintro _ _ _ ⟨rfl,rfl,rfl⟩; exact ⟨by exact Le.refl _,(by exact .refl _)⟩)) ?_
      rintro _ _ _ ⟨rfl,rfl,rfl⟩
      refine SX.u (i:=11) I (by kernel_rfl) (SU.build I (buildC40 _ _)) dC ?_
      refine SX.br1 12 (by kernel_rfl) ?_
      ·refine SB.o (i:=12) rfl (aL zeroValue40) dC (.inr (by rintro _ _ _ ⟨b13,rfl,rfl,rfl⟩; exact ⟨by exact Le.refl _,(by exact .cons _ (.refl _))⟩)) ?_
       rintro _ _ _ ⟨b13,rfl,rfl,rfl⟩
       refine SX.br1 13 (by kernel_rfl) ?_
       ·refine SB.on (i:=13) rfl (sK 0 zT40 rfl rfl rfl rfl rfl sB) (.inr (by rintro _ _ _ ⟨rfl,rfl⟩; exact ⟨by exact Le.refl _,(by exact .cons _ (.refl _))⟩)) ?_
        rintro _ _ _ ⟨rfl,rfl⟩
        refine SX.nil (by kernel_rfl) ?_
        exact ST.mid b13 sB I I trivial
     ·refine SB.o (i:=12) rfl (aL zeroValue40) dC (.inr (by rintro _ _ _ ⟨b13,rfl,rfl,rfl⟩; exact ⟨by exact Le.refl _,(by exact .cons _ (.refl _))⟩)) ?_
      rintro _ _ _ ⟨b13,rfl,rfl,rfl⟩
      refine SX.br1 5 (by kernel_rfl) ?_
      ·refine SB.o (i:=5) rfl (SO.callV rfl rfl (hid g8 _ cx.id cy.id hle48)) dC (.inr (by rintro _ _ _ ⟨rfl,rfl,rfl⟩; exact ⟨by exact Le.refl _,(by exact .cons _ (.refl _))⟩)) ?_
       rintro _ _ _ ⟨rfl,rfl,rfl⟩
       refine SX.u (i:=11) I (by kernel_rfl) (SU.build I (buildC40 _ _)) dC ?_
       refine SX.br1 13 (by kernel_rfl) ?_
       ·refine SB.on (i:=13) rfl (sK 0 zT40 rfl rfl rfl rfl rfl sB) (.inr (by rintro _ _ _ ⟨rfl,rfl⟩; exact ⟨by exact Le.refl _,(by exact .cons _ (.refl _))⟩)) ?_
        rintro _ _ _ ⟨rfl,rfl⟩
        refine SX.nil (by kernel_rfl) ?_
        exact ST.mid b13 sB I I trivial
    rintro b13 -
    try dsimp only
    refine SC.nilRow 42 2 ?_
    refine SC.cut (ι:=Value) (fun _=>[(2,pp b2 0),(3,pp b3 0),(4,pp b4 0),(7,(.func (.func 98) #[] #[pp b5 0,pp b6 0])),(8,pp b8 0),(44,.slice qa ra.length da),(45,vi ra.length),(46,vi k),(10,pp b10 0),(52,.slice qb rb.length db),(53,vi rb.length),(54,vi j),(12,pp b12 0),(13,pp b13 0)]) (fun _=>g8) (fun zv=>rowA encSide 42 zv (cx.sides.map (fun q : Side=>(⟨prodId (tabC a) (tabC b) q.cell cy.id,q.sign⟩ : Side))) :: pt b13 (.cells #[vi (prodId (tabC a) (tabC b) cx.id cy.id),vi (cx.dim + cy.dim),zv] 40 (0,0)) :: pt b12 (.cells #[vi cy.id,vi cy.dim,.slice yp cy.sides.length yc] 40 (0,0)) :: pt b10 (.cells #[vi cx.id,vi cx.dim,.slice xp cx.sides.length xc] 40 (0,0)) :: rowA encCell 40 ov1 acc1 :: pt b8 (.cells #[ov1] 31 (0,0)) :: pt b4 (.cells #[.slice none 0 0] 31 (0,0)) :: pt b3 (.cells #[.slice p2 b.length c2] 31 (0,0)) :: pt b2 (.cells #[.slice p1 a.length c1] 31 (0,0)) :: s) (fun _=>True) ?_ ?_
    ·refine SC.sR (lU (fA uT40 I zT38 I) (lK (qL iT38 I (cO 3 I I)) (lU (eN uT38 I) (lM I (SL.nT (bK ?_))))))
     refine oP (ι:=Nat × Value) (fun i=>[(2,pp b2 0),(3,pp b3 0),(4,pp b4 0),(7,(.func (.func 98) #[] #[pp b5 0,pp b6 0])),(8,pp b8 0),(44,.slice qa ra.length da),(45,vi ra.length),(46,vi k),(10,pp b10 0),(52,.slice qb rb.length db),(53,vi rb.length),(54,vi j),(12,pp b12 0),(13,pp b13 0),(71,.slice xp cx.sides.length xc),(72,vi cx.sides.length),(73,vi i.1)]) (fun _=>g8) (fun i=>rowA encSide 42 i.2 ((cx.sides.take i.1).map (fun q : Side=>(⟨prodId (tabC a) (tabC b) q.cell cy.id,q.sign⟩ : Side))) :: pt b13 (.cells #[vi (prodId (tabC a) (tabC b) cx.id cy.id),vi (cx.dim + cy.dim),i.2] 40 (0,0)) :: pt b12 (.cells #[vi cy.id,vi cy.dim,.slice yp cy.sides.length yc] 40 (0,0)) :: pt b10 (.cells #[vi cx.id,vi cx.dim,.slice xp cx.sides.length xc] 40 (0,0)) :: rowA encCell 40 ov1 acc1 :: pt b8 (.cells #[ov1] 31 (0,0)) :: pt b4 (.cells #[.slice none 0 0] 31 (0,0)) :: pt b3 (.cells #[.slice p2 b.length c2] 31 (0,0)) :: pt b2 (.cells #[.slice p1 a.length c1] 31 (0,0)) :: s) (fun i=>i.1 ≤ cx.sides.length) (fun i=>cx.sides.length - i.1) (0,.slice none 0 0)
      sB rfl rfl (Nat.zero_le _) ?_
     rintro ⟨m,zv⟩ hm
     dsimp only at hm ⊢
     refine SC.sR (lU (lS I I) (SL.nT (sQ ?_)))
     refine iP I (fun hlt3=>?_) (fun hlt3=>?_)
     ·have hml : m < cx.sides.length:=oM
      have hbx:=hxsl8.based oM
      have hgs : cx.sides[((m : Nat) : Int).toNat]? = some cx.sides[m]:=gE hml
      have htm : cx.sides.take (m + 1) = cx.sides.take m ++ [cx.sides[m]]:=tS hml
      have hzl : ((cx.sides.take m).map (fun q : Side=>(⟨prodId (tabC a) (tabC b) q.cell cy.id,q.sign⟩ : Side))).length = m:=by simp; omega
      generalize cx.sides[m] = e at *
      refine kP (tN (sQ (bK (SC.sR (lU (iA uT38 zT42 I I hbx oM sL) (lK (eA iT42 zT42 I hxsl8.rd hgs) (SL.bx (aL zeroValue42) fun b15=>?_)))))))
      refine SL.O2 (sK 0 zT42 I I I I I sB) ?_
      refine SL.nT ?_
      refine dW [12,13,14] [(0,2),(1,1),(2,2),(3,2),(4,1),(5,2),(6,1),(8,2),(9,1),(7,0),(10,2),(11,0),(12,0),(13,0),(14,0)] Tryz.mixed (by kernel_rfl) ?_
      refine pU rfl (fA uT40 rfl zT38 rfl) (pK rfl (qL iT38 rfl (cO 2 rfl rfl)) (pU rfl (mV rfl) (pU rfl (fA uT42 rfl zT3 rfl) (pK rfl (qL iT3 rfl (cO 0 rfl rfl)) (pU rfl (fA uT40 rfl zT3 rfl) (pK rfl (qL iT3 rfl (cO 3 rfl rfl)) (pU rfl (fA uT42 rfl zT3 rfl) (pK rfl (qL iT3 rfl (cO 0 rfl rfl)) (SP.o rfl (SO.callV rfl rfl (hid g8 _ e.cell cy.id hle48)) dC (.inr (by rintro _ _ _ ⟨rfl,rfl,rfl⟩; exact ⟨by exact Le.refl _,(by exact .refl _)⟩)) ?_)))))))))
      rintro _ _ _ ⟨rfl,rfl,rfl⟩
      refine pU rfl (SU.build rfl (buildS42 _ _)) (SP.o rfl (bS sty38 rfl rfl rfl (szs_mk sB) dC) dC (.inr (by rintro _ _ _ ⟨b88,rfl,rfl,rfl⟩; exact ⟨by exact Le.refl _,(by exact .cons _ (.refl _))⟩)) ?_)
      rintro _ _ _ ⟨b88,rfl,rfl,rfl⟩
      refine SP.o rfl (SO.app1 1 (((cx.sides.take (m + 1)).map (fun q : Side=>(⟨prodId (tabC a) (tabC b) q.cell cy.id,q.sign⟩ : Side))).flatMap encSide.enc) ((cx.sides.take (m + 1)).map (fun q : Side=>(⟨prodId (tabC a) (tabC b) q.cell cy.id,q.sign⟩ : Side))).length sty38 rfl rfl rfl rfl rfl sB (by rw [htm]; simp [encSide]; rfl) (by rw [htm]; simp) lN lN) dC (.inl dC) ?_
      rintro zv' _ _ ⟨rfl,rfl⟩
      refine SP.facts fun ⟨w0,hw0⟩=>?_
      obtain ⟨q',d',rfl⟩:=rowA_form (e:=encSide) (l:=(cx.sides.take (m + 1)).map (fun q : Side=>(⟨prodId (tabC a) (tabC b) q.cell cy.id,q.sign⟩ : Side))) (i:=1) hw0 rfl
      clear hw0 w0
      refine oU rfl (fA uT40 rfl zT38 rfl) dC (.inl dC) (SP.on rfl (SO.store1 2 zT38 rfl rfl rfl rfl (bE rfl) (by rfl)) (.inl dC) ?_)
      rintro _ _ _ ⟨rfl,rfl⟩
      refine pN (bN (tN (rG (lU (aD I I oM) (lM I (nL (dR (.cons _ (.refl _)) ?_)))))))
      exact gA (m + 1,.slice q' ((cx.sides.take (m + 1)).map (fun q : Side=>(⟨prodId (tabC a) (tabC b) q.cell cy.id,q.sign⟩ : Side))).length d') sB I I lN lN
     ·refine xI (tX (tX (bX ?_)))
      have hmm : cx.sides.take m = cx.sides:=tL oM
      rw [hmm]
      exact ST.mid zv sB I I trivial
    rintro zv1 -
    try dsimp only
    refine SC.cut (ι:=Value) (fun _=>[(2,pp b2 0),(3,pp b3 0),(4,pp b4 0),(7,(.func (.func 98) #[] #[pp b5 0,pp b6 0])),(8,pp b8 0),(44,.slice qa ra.length da),(45,vi ra.length),(46,vi k),(10,pp b10 0),(52,.slice qb rb.length db),(53,vi rb.length),(54,vi j),(12,pp b12 0),(13,pp b13 0)]) (fun _=>g8) (fun zv=>rowA encSide 42 zv (cx.sides.map (fun q : Side=>(⟨prodId (tabC a) (tabC b) q.cell cy.id,q.sign⟩ : Side)) ++ cy.sides.map (fun q : Side=>(⟨prodId (tabC a) (tabC b) cx.id q.cell,signC cx.dim * q.sign⟩ : Side))) :: pt b13 (.cells #[vi (prodId (tabC a) (tabC b) cx.id cy.id),vi (cx.dim + cy.dim),zv] 40 (0,0)) :: pt b12 (.cells #[vi cy.id,vi cy.dim,.slice yp cy.sides.length yc] 40 (0,0)) :: pt b10 (.cells #[vi cx.id,vi cx.dim,.slice xp cx.sides.length xc] 40 (0,0)) :: rowA encCell 40 ov1 acc1 :: pt b8 (.cells #[ov1] 31 (0,0)) :: pt b4 (.cells #[.slice none 0 0] 31 (0,0)) :: pt b3 (.cells #[.slice p2 b.length c2] 31 (0,0)) :: pt b2 (.cells #[.slice p1 a.length c1] 31 (0,0)) :: s) (fun _=>True) ?_ ?_
    ·refine SC.sR (lU (fA uT40 I zT38 I) (lK (qL iT38 I (cO 2 I I)) (lU (eN uT38 I) (lM I (SL.nT (bK ?_))))))
     refine oP (ι:=Nat × Value) (fun i=>[(2,pp b2 0),(3,pp b3 0),(4,pp b4 0),(7,(.func (.func 98) #[] #[pp b5 0,pp b6 0])),(8,pp b8 0),(44,.slice qa ra.length da),(45,vi ra.length),(46,vi k),(10,pp b10 0),(52,.slice qb rb.length db),(53,vi rb.length),(54,vi j),(12,pp b12 0),(13,pp b13 0),(93,.slice yp cy.sides.length yc),(94,vi cy.sides.length),(95,vi i.1)]) (fun _=>g8) (fun i=>rowA encSide 42 i.2 (cx.sides.map (fun q : Side=>(⟨prodId (tabC a) (tabC b) q.cell cy.id,q.sign⟩ : Side)) ++ (cy.sides.take i.1).map (fun q : Side=>(⟨prodId (tabC a) (tabC b) cx.id q.cell,signC cx.dim * q.sign⟩ : Side))) :: pt b13 (.cells #[vi (prodId (tabC a) (tabC b) cx.id cy.id),vi (cx.dim + cy.dim),i.2] 40 (0,0)) :: pt b12 (.cells #[vi cy.id,vi cy.dim,.slice yp cy.sides.length yc] 40 (0,0)) :: pt b10 (.cells #[vi cx.id,vi cx.dim,.slice xp cx.sides.length xc] 40 (0,0)) :: rowA encCell 40 ov1 acc1 :: pt b8 (.cells #[ov1] 31 (0,0)) :: pt b4 (.cells #[.slice none 0 0] 31 (0,0)) :: pt b3 (.cells #[.slice p2 b.length c2] 31 (0,0)) :: pt b2 (.cells #[.slice p1 a.length c1] 31 (0,0)) :: s) (fun i=>i.1 ≤ cy.sides.length) (fun i=>cy.sides.length - i.1) (0,zv1)
      sB rfl (by simp) (Nat.zero_le _) ?_
     rintro ⟨m,zv⟩ hm
     dsimp only at hm ⊢
     refine SC.sR (lU (lS I I) (SL.nT (sQ ?_)))
     refine iP I (fun hlt4=>?_) (fun hlt4=>?_)
     ·have hml4 : m < cy.sides.length:=oM
      have hby:=hysl.based oM
      have hgs : cy.sides[((m : Nat) : Int).toNat]? = some cy.sides[m]:=gE hml4
      have htm : cy.sides.take (m + 1) = cy.sides.take m ++ [cy.sides[m]]:=tS hml4
      have hesg:=sign_mul (signC_cases cx.dim) (hys _ (gM hml4))
      have hzl : (cx.sides.map (fun q : Side=>(⟨prodId (tabC a) (tabC b) q.cell cy.id,q.sign⟩ : Side)) ++ (cy.sides.take m).map (fun q : Side=>(⟨prodId (tabC a) (tabC b) cx.id q.cell,signC cx.dim * q.sign⟩ : Side))).length = cx.sides.length + m:=by simp; omega
      generalize cy.sides[m] = e at *
      refine kP (tN (sQ (bK (SC.sR (lU (iA uT38 zT42 I I hby oM sL) ?_)))))
      refine lK (eA iT42 zT42 I hysl.rd hgs) (SL.bx (aL zeroValue42) fun b17=>?_)
      refine SL.O2 (sK 0 zT42 I I I I I sB) ?_
      refine SL.nT ?_
      refine dW [16,17,18] [(0,2),(1,1),(2,2),(3,2),(4,1),(5,2),(6,1),(8,2),(9,1),(11,2),(12,1),(7,0),(10,0),(13,2),(14,2),(15,0),(16,0),(17,0),(18,0)] Tryz.mixed (by kernel_rfl) ?_
      refine pU rfl (fA uT40 rfl zT38 rfl) (pK rfl (qL iT38 rfl (cO 2 rfl rfl)) (pU rfl (mV rfl) (pU rfl (fA uT40 rfl zT3 rfl) (pK rfl (qL iT3 rfl (cO 4 rfl rfl)) (pU rfl (fA uT42 rfl zT3 rfl) (pK rfl (qL iT3 rfl (cO 0 rfl rfl)) (pU rfl (fA uT40 rfl zT3 rfl) (pK rfl (qL iT3 rfl (cO 4 rfl rfl)) (pU rfl (fA uT42 rfl zT3 rfl) (pK rfl (qL iT3 rfl (cO 0 rfl rfl)) (SP.o rfl (SO.callV rfl rfl (hid g8 _ cx.id e.cell hle48)) dC (.inr (by rintro _ _ _ ⟨rfl,rfl,rfl⟩; exact ⟨by exact Le.refl _,(by exact .refl _)⟩)) ?_)))))))))))
      rintro _ _ _ ⟨rfl,rfl,rfl⟩
      refine SP.o rfl (cL call96 rfl (sign_spec E g8 _ cx.dim)) dC (.inr (by rintro _ _ _ ⟨rfl,rfl,rfl⟩; exact ⟨by exact Le.refl _,(by exact .refl _)⟩)) ?_
      rintro _ _ _ ⟨rfl,rfl,rfl⟩
      refine pU rfl (SU.mul (m:=signC cx.dim) (n:=e.sign) rfl rfl oM) (pU rfl (SU.build rfl (buildS42 _ _)) (SP.o rfl (bS sty38 rfl rfl rfl (szs_mk sB) dC) dC (.inr (by rintro _ _ _ ⟨b114,rfl,rfl,rfl⟩; exact ⟨by exact Le.refl _,(by exact .cons _ (.refl _))⟩)) ?_))
      rintro _ _ _ ⟨b114,rfl,rfl,rfl⟩
      refine SP.o rfl (SO.app1 1 ((cx.sides.map (fun q : Side=>(⟨prodId (tabC a) (tabC b) q.cell cy.id,q.sign⟩ : Side)) ++ (cy.sides.take (m + 1)).map (fun q : Side=>(⟨prodId (tabC a) (tabC b) cx.id q.cell,signC cx.dim * q.sign⟩ : Side))).flatMap encSide.enc) (cx.sides.map (fun q : Side=>(⟨prodId (tabC a) (tabC b) q.cell cy.id,q.sign⟩ : Side)) ++ (cy.sides.take (m + 1)).map (fun q : Side=>(⟨prodId (tabC a) (tabC b) cx.id q.cell,signC cx.dim * q.sign⟩ : Side))).length sty38 rfl rfl rfl rfl rfl sB (by rw [htm]; simp [encSide]; rfl) (by rw [htm]; simp; omega) (by rw [hzl]; omega) (by rw [hzl]; omega)) dC (.inl dC) ?_
      rintro zv' _ _ ⟨rfl,rfl⟩
      refine SP.facts fun ⟨w0,hw0⟩=>?_
      obtain ⟨q',d',rfl⟩:=rowA_form (e:=encSide) (l:=(cx.sides.map (fun q : Side=>(⟨prodId (tabC a) (tabC b) q.cell cy.id,q.sign⟩ : Side)) ++ (cy.sides.take (m + 1)).map (fun q : Side=>(⟨prodId (tabC a) (tabC b) cx.id q.cell,signC cx.dim * q.sign⟩ : Side)))) (i:=1) hw0 rfl
      clear hw0 w0
      refine oU rfl (fA uT40 rfl zT38 rfl) dC (.inl dC) (SP.on rfl (SO.store1 2 zT38 rfl rfl rfl rfl (bE rfl) (by rfl)) (.inl dC) ?_)
      rintro _ _ _ ⟨rfl,rfl⟩
      refine pN (bN (tN (rG (lU (aD I I oM) (lM I (nL (dR (.cons _ (.refl _)) ?_)))))))
      exact gA (m + 1,.slice q' (cx.sides.map (fun q : Side=>(⟨prodId (tabC a) (tabC b) q.cell cy.id,q.sign⟩ : Side)) ++ (cy.sides.take (m + 1)).map (fun q : Side=>(⟨prodId (tabC a) (tabC b) cx.id q.cell,signC cx.dim * q.sign⟩ : Side))).length d') sB I I lN lN
     ·refine xI (tX (tX (bX ?_)))
      have hmm : cy.sides.take m = cy.sides:=tL oM
      rw [hmm]
      exact ST.mid zv sB I I trivial
    rintro zv2 -
    try dsimp only
    have hal : acc1.length ≤ 16004000:=by
     have h1:=hacc1.length
     rw [List.length_append,flatMap_len,List.length_map,List.length_take,List.length_take,canonC_length,canonC_length] at h1
     have h2 : min k a.length * b.length ≤ 4000 * 4000:=Nat.mul_le_mul oM hlb
     omega
    refine fS fun g9 hle9 hrow9=>?_
    obtain ⟨q9,d9,rfl⟩:=Sl.form hrow9
    refine rG (lU (fA uT31 I zT29 I) (lK (qL iT29 I (cO 4 I I)) (lK (qV 0 iT40 zT40 I I I) (lW (bS sty29 I I I (szs_mk sB) dC) ?_))))
    rintro _ _ _ ⟨b121,rfl,rfl,rfl⟩
    refine lW (SO.app1 3 ((acc1 ++ [(⟨prodId (tabC a) (tabC b) cx.id cy.id,cx.dim + cy.dim,q9,(cx.sides.map (fun q : Side=>(⟨prodId (tabC a) (tabC b) q.cell cy.id,q.sign⟩ : Side)) ++ cy.sides.map (fun q : Side=>(⟨prodId (tabC a) (tabC b) cx.id q.cell,signC cx.dim * q.sign⟩ : Side))).length,d9⟩ : Rc)]).flatMap encCell.enc) (acc1 ++ [(⟨prodId (tabC a) (tabC b) cx.id cy.id,cx.dim + cy.dim,q9,(cx.sides.map (fun q : Side=>(⟨prodId (tabC a) (tabC b) q.cell cy.id,q.sign⟩ : Side)) ++ cy.sides.map (fun q : Side=>(⟨prodId (tabC a) (tabC b) cx.id q.cell,signC cx.dim * q.sign⟩ : Side))).length,d9⟩ : Rc)]).length sty29 rfl rfl rfl rfl rfl sB (by (simp [encCell]; rfl)) (by simp) lN lN) ?_
    rintro ov' _ _ ⟨rfl,rfl⟩
    refine SL.facts fun ⟨w0,hw0⟩=>?_
    obtain ⟨q',d',rfl⟩:=rowA_form (e:=encCell) (l:=acc1 ++ [(⟨prodId (tabC a) (tabC b) cx.id cy.id,cx.dim + cy.dim,q9,(cx.sides.map (fun q : Side=>(⟨prodId (tabC a) (tabC b) q.cell cy.id,q.sign⟩ : Side)) ++ cy.sides.map (fun q : Side=>(⟨prodId (tabC a) (tabC b) cx.id q.cell,signC cx.dim * q.sign⟩ : Side))).length,d9⟩ : Rc)]) (i:=3) hw0 rfl
    clear hw0 w0
    refine lU (fA uT31 I zT29 I) (SL.O2 (sK 4 zT29 I I I I I sB) ?_)
    refine nL (bN (tN (rG (lU (aD I I oM) (lM I (nL (dR (.cons _ (.cons _ (.refl _))) ?_)))))))
    exact gA (j + 1,_,acc1 ++ [(⟨prodId (tabC a) (tabC b) cx.id cy.id,cx.dim + cy.dim,q9,(cx.sides.map (fun q : Side=>(⟨prodId (tabC a) (tabC b) q.cell cy.id,q.sign⟩ : Side)) ++ cy.sides.map (fun q : Side=>(⟨prodId (tabC a) (tabC b) cx.id q.cell,signC cx.dim * q.sign⟩ : Side))).length,d9⟩ : Rc)],g9) sB I I ⟨lN,hle8.trans hle9,by
     rw [htj,List.map_append,← List.append_assoc]
     exact (hacc1.mono fun _ _=>CellR.mono hle9).append ⟨⟨I,I,hrow9⟩,trivial⟩⟩ lN
   ·refine xI (tX (tX (bX (bN (tN (rG (lU (aD I I oM) (lM I (nL ?_)))))))))
    have hjj : (canonC b).take j = canonC b:=tL oM
    rw [hjj] at hacc1
    refine dR (.cons _ (.refl _)) ?_
    exact gA (k + 1,ov1,acc1,g8) sB I I ⟨lN,hle6.trans (hle7.trans hle8),by rw [htk,List.flatMap_append]; simpa using hacc1⟩ lN
  ·have hkk : (canonC a).take k = canonC a:=tL oM
   rw [hkk] at hacc0
   have hfit : Fits (prodAll a b):=by
    refine ⟨?_,fun c hc=>?_⟩
    ·unfold prodAll
     rw [flatMap_len,canonC_length,canonC_length]
     have h2 : a.length * b.length ≤ 4000 * 4000:=Nat.mul_le_mul hla hlb
     omega
    ·unfold prodAll at hc
     obtain ⟨x,hx,hc⟩:=List.mem_flatMap.1 hc
     obtain ⟨y,hy,rfl⟩:=List.mem_map.1 hc
     have h1:=(form_ok (hfa x hx)).1
     have h2:=(form_ok (hfb y hy)).1
     simp only [prodCell,List.length_append,List.length_map]
     omega
   have hlast:=hle4.trans (hle5.trans hle6)
   have hres : prodC a b = if (checkC (prodAll a b)).2 = 0 then canonC (prodAll a b) else []:=by unfold prodC; rw [if_neg (by rw [hbad]; exact Bool.false_ne_true)]
   refine xI (tX (tX (bX (tN (sQ (sQ (fS fun g9 hle9 hrow9=>?_)))))))
   obtain ⟨q9,d9,rfl⟩:=Sl.form hrow9
   have hout : Cells g9 (.slice q9 acc0.length d9) (prodAll a b):=⟨acc0,hrow9,hacc0.mono fun _ _=>CellR.mono hle9⟩
   refine rG (lK (qV 0 iT31 zT31 I I I) (lW (cL call97 I (right_spec E g9 _ _ (prodAll a b) hout hfit)) ?_))
   rintro _ _ _ ⟨rfl,rfl,rfl⟩
   refine lU (SU.notP I) (SL.nT ?_)
   refine iP I (fun hr=>?_) (fun hr=>?_)
   ·refine SC.sR (lU (SU.build I (buildE31)) (SL.O2 (sK 1 zT31 I I I I I sB) ?_))
    refine SL.nT (rE (tR ?_))
    exact ST.retCD 1 s (.inl I) results32 I iT31 zT31 I I (.cons _ (.cons _ (.cons _ (.cons _ (.refl _))))) ⟨I,hlast.trans hle9,_,I,by rw [hres,if_neg hr]; exact ⟨[],Sl.nil g9 _,trivial⟩⟩
   ·refine kP (tN (SC.sR (lK (qV 0 iT31 zT31 I I I) (lW (cL call16 I (canon_spec E g9 _ _ (prodAll a b) hout hfit)) ?_))))
    rintro _ g10 _ ⟨rfl,hle10,uo,rfl,ro,hro,hallo⟩
    obtain ⟨qo,do',rfl⟩:=hro.form
    refine SL.O2 (sK 1 zT31 I I I I I sB) ?_
    refine SL.nT (rE ?_)
    exact ST.retCD 1 s (.inl I) results32 I iT31 zT31 I I (.cons _ (.cons _ (.cons _ (.cons _ (.refl _))))) ⟨I,hlast.trans (hle9.trans hle10),_,I,by rw [hres,if_pos (Decidable.of_not_not hr)]; exact ⟨ro,hro,hallo⟩⟩
theorem cloneI (E : World) (g : PH) (s : Own) (v : Value) (l : List Int) (hv : Ints g v l) (hn : l.length < 17592186044416) :
  Ctr Tryz.prog E 86 #[v] g s (fun r g' s'=>g = g' ∧ s' = rowA encInt 3 r l :: s):=by
 obtain ⟨p,c,rfl⟩:=SlA.form hv
 refine Ctr.of (args:=[.slice p l.length c]) func86 I ntmps86 (bE I) ?_
 refine SC.sR (lA I (SL.nT (sQ (SC.sR (lM I (lU (SU.eqlNil uT27 I I) (SL.nT ?_)))))))
 refine iQ I (fun hp=>?_) (fun hp=>?_)
 ·refine SC.sR (lA I (SL.nT (rE (tR ?_))))
  have hl : l = []:=by
   cases l with
   | nil=>rfl
   | cons x r =>
    have hb:=SlA.based hv (by simp)
    cases p with
    | none=>simp [based] at hb
    | some q=>simp at hp
  subst hl
  refine ST.nilRow 3 1 ?_
  exact ST.ret1 (.inl I) results86 I ⟨I,I⟩
 ·refine kP (tN (SC.sR (lW (bS sty27 I I I (szs_mk trivial) dC) ?_)))
  rintro _ _ _ ⟨b5,rfl,rfl,rfl⟩
  refine SL.emptyRow 3 1 (some ⟨b5,0,none⟩) (lM I (lW (SO.appendE (m:=l.length) 0 l.length (l.flatMap encInt.enc) sty27 I I I I I (Sl.rd hv) (encInt.length l) (encInt.ones l) oM (by simp) oM oM) ?_))
  rintro r7 _ _ ⟨rfl,rfl⟩
  refine lA I (SL.nT (rE (dR (s':=rowA encInt 3 r7 l :: s) (.cons_cons _ (.cons _ (.refl _))) ?_)))
  exact ST.ret1 (.inl I) results86 I ⟨I,I⟩
def orI : List Int → Int
 | []=>0
 | a :: r=>if a ≠ 0 then a else orI r
def cmpL : List Int → List Int → Int
 | [],[]=>0
 | [],_ :: _=>-1
 | _ :: _,[]=>1
 | a :: r,b :: t=>if cmpI a b ≠ 0 then cmpI a b else cmpL r t
def compareC (a b : List Int) : Int:=if cmpI a.length b.length ≠ 0 then cmpI a.length b.length else cmpL a b
theorem or_spec (E : World) (g : PH) (s : Own) (v : Value) (l : List Int) (hv : Rd g s v (l.flatMap encInt.enc)) (hf : ∃ p c,v = .slice p l.length c) (hb : 0 < l.length → based v = true) (hl : l.length < 1099511627776) :
  Ctr Tryz.prog E 143 #[v] g s (fun r g' s'=>r = vi (orI l) ∧ g = g' ∧ s = s'):=by
 obtain ⟨p,c,rfl⟩:=hf
 refine Ctr.of (args:=[.slice p l.length c]) func143 I ntmps143 (bE I) ?_
 refine SC.sR (lA I (SL.nT (SC.sR (lA I (SL.nT (sQ (SC.sR (lM I (lU (eN uT27 I) (lM I (SL.nT (bK ?_))))))))))))
 refine oP (ι:=Nat) (fun k=>[(3,vi 0),(6,.slice p l.length c),(7,vi l.length),(8,vi k)]) (fun _=>g) (fun _=>s) (fun k=>k ≤ l.length ∧ orI l = orI (l.drop k)) (fun k=>l.length - k) 0
  sB rfl rfl ⟨Nat.zero_le _,by simp⟩ ?_
 rintro k ⟨hk,heq⟩
 refine SC.sR (lU (lS I I) (SL.nT (sQ ?_)))
 refine iP I (fun hlt=>?_) (fun hlt=>?_)
 ·have hkl : k < l.length:=oM
  have hb1:=hb oM
  have hgx : l[((k : Nat) : Int).toNat]? = some l[k]:=gE hkl
  have hdrop : l.drop k = l[k] :: l.drop (k + 1):=List.drop_eq_getElem_cons hkl
  generalize l[k] = x at *
  rw [hdrop] at heq
  refine kP (tN (sQ (bK (SC.sR (lU (iA uT27 zT3 I I hb1 oM sL) (lK (eB iT3 I hv hgx I) (lA I (SL.nT (SC.sR (lM I (lM I (lU (nQ I I) (SL.nT ?_)))))))))))))
  refine iP I (fun hd=>?_) (fun hd=>?_)
  ·refine SC.sR (lM I (lA I (SL.nT (rE (bR (tR (tR (bR (tR ?_)))))))))
   exact ST.ret1 (.inl I) results143 I ⟨by rw [heq,orI,if_pos hd],I,I⟩
  ·refine kP (bN (tN (rG (lU (aD I I oM) (lM I (nL ?_))))))
   exact gA (k + 1) sB I I ⟨oM,by rw [heq,orI,if_neg hd]⟩ oM
 ·refine xI (tX (tX (bX (tN (SC.sR (lM I (lA I (SL.nT (rE ?_)))))))))
  have hkk : l.drop k = []:=List.drop_of_length_le oM
  rw [hkk] at heq
  exact ST.ret1 (.inl rfl) results143 rfl ⟨by rw [heq]; rfl,rfl,rfl⟩
theorem equalInts (E : World) (g : PH) (s : Own) (v u : Value) (l m : List Int) (hv : Ints g v l) (hu : Ints g u m) (hl : l.length < 1099511627776) :
  Ctr Tryz.prog E 93 #[v,u] g s (fun r g' s'=>r = vb (decide (l = m)) ∧ g = g' ∧ s = s'):=by
 obtain ⟨p,c,rfl⟩:=SlA.form hv
 obtain ⟨q,d,rfl⟩:=SlA.form hu
 refine Ctr.of (args:=[.slice p l.length c,.slice q m.length d]) func93 I ntmps93 (bE I) ?_
 refine SC.sR (lA I (SL.nT (sQ (SC.sR (lM I (lU (eN uT27 I) (lM I (lU (eN uT27 I) (lU (nQ I I) (SL.nT ?_))))))))))
 refine iP I (fun hne=>?_) (fun hne=>?_)
 ·refine SC.sR (lA I (SL.nT (rE (tR ?_))))
  exact ST.ret1 (.inl I) results93 I ⟨by have : l ≠ m:=fun e=>hne (by rw [e]); simp [this],I,I⟩
 ·refine kP (tN (sQ (SC.sR (lM I (lU (eN uT27 I) (lM I (SL.nT (bK ?_))))))))
  have hlen : l.length = m.length:=oM
  refine oP (ι:=Nat) (fun k=>[(0,.slice p l.length c),(1,.slice q m.length d),(12,vi l.length),(13,vi k)]) (fun _=>g) (fun _=>s) (fun k=>k ≤ l.length ∧ l.take k = m.take k) (fun k=>l.length - k) 0
   sB rfl rfl ⟨Nat.zero_le _,by simp⟩ ?_
  rintro k ⟨hk,heq⟩
  refine SC.sR (lU (lS I I) (SL.nT (sQ ?_)))
  refine iP I (fun hlt=>?_) (fun hlt=>?_)
  ·have hkl : k < l.length:=oM
   have hkm : k < m.length:=oM
   have hb1:=SlA.based hv oM
   have hb2:=SlA.based hu oM
   refine kP (tN (sQ (bK (SC.sR (lM I (lA I (SL.nT (sQ ?_))))))))
   refine dW [] [(0,2),(1,2),(2,2),(3,1),(4,2),(5,2),(6,2),(7,1),(8,2)] Tryz.mixed (by kernel_rfl) ?_
   refine pU I (mV I) (pU I (mV I) (pU I (iA uT27 zT3 I I hb1 oM sL) ?_))
   refine pQ I (eB iT3 I (SlA.rd hv) (gE hkl) I) dC ?_
   refine pU I (mV I) (pU I (mV I) (pU I (iA uT27 zT3 I I hb2 oM sL) ?_))
   refine pQ I (eB iT3 I (SlA.rd hu) (gE hkm) I) dC ?_
   refine pU I (nQ I I) (pN (tN ?_))
   refine iP I (fun hd=>?_) (fun hd=>?_)
   ·refine SC.sR (lA I (SL.nT (rE (bR (tR (tR (bR (tR ?_))))))))
    exact ST.ret1 (.inl I) results93 I ⟨by have : l ≠ m:=fun e=>hd (by simp [e]); simp [this],I,I⟩
   ·refine kP (bN (tN (rG (lU (aD I I oM) (lM I (nL ?_))))))
    exact gA (k + 1) sB I I ⟨oM,take_eq_succ hkl hkm heq (Decidable.of_not_not hd)⟩ oM
  ·refine xI (tX (tX (bX (tN (SC.sR (lA I (SL.nT (rE ?_))))))))
   have hkk : k = l.length:=oM
   subst hkk
   have : l = m:=take_eq_all hlen heq
   exact ST.ret1 (.inl I) results93 I ⟨by simp [this],I,I⟩
theorem compareInts (E : World) (g : PH) (s : Own) (v u : Value) (l m : List Int) (hv : Ints g v l) (hu : Ints g u m) (hl : l.length < 1099511627776) :
  Ctr Tryz.prog E 144 #[v,u] g s (fun r g' s'=>r = vi (cmpL l m) ∧ g = g' ∧ s = s'):=by
 obtain ⟨p,c,rfl⟩:=SlA.form hv
 obtain ⟨q,d,rfl⟩:=SlA.form hu
 refine Ctr.of (args:=[.slice p l.length c,.slice q m.length d]) func144 I ntmps144 (bE I) ?_
 refine SC.sR (lA I (SL.nT (sQ (SC.sR (lM I (lU (eN uT27 I) (lM I (SL.nT (bK ?_)))))))))
 refine oP (ι:=Nat) (fun k=>[(0,.slice p l.length c),(1,.slice q m.length d),(9,.slice p l.length c),(10,vi l.length),(11,vi k)]) (fun _=>g) (fun _=>s) (fun k=>k ≤ l.length ∧ k ≤ m.length ∧ cmpL l m = cmpL (l.drop k) (m.drop k)) (fun k=>l.length - k) 0
  sB rfl rfl ⟨Nat.zero_le _,Nat.zero_le _,by simp⟩ ?_
 rintro k ⟨hk,hkm,heq⟩
 refine SC.sR (lU (lS I I) (SL.nT (sQ ?_)))
 refine iP I (fun hlt=>?_) (fun hlt=>?_)
 ·have hkl : k < l.length:=oM
  have hb1:=SlA.based hv oM
  have hgx : l[((k : Nat) : Int).toNat]? = some l[k]:=gE hkl
  have hdrop : l.drop k = l[k] :: l.drop (k + 1):=List.drop_eq_getElem_cons hkl
  generalize l[k] = x at *
  rw [hdrop] at heq
  refine kP (tN (sQ (bK (SC.sR (lM I (lU (iA uT27 zT3 I I hb1 oM sL) (lK (eB iT3 I (SlA.rd hv) hgx I) (lA I (lA I (SL.nT (sQ (SC.sR (lM I (lM I (lU (eN uT27 I) (lU (gQ I I) (SL.nT ?_)))))))))))))))))
  refine iP I (fun hge=>?_) (fun hge=>?_)
  ·refine SC.sR (lA I (SL.nT (rE (tR (bR (tR (tR (bR (tR ?_)))))))))
   have hmk : m.drop k = []:=List.drop_of_length_le oM
   rw [hmk] at heq
   exact ST.ret1 (.inl rfl) results144 rfl ⟨by rw [heq]; rfl,rfl,rfl⟩
  ·have hkm2 : k < m.length:=oM
   have hb2:=SlA.based hu oM
   have hgy : m[((k : Nat) : Int).toNat]? = some m[k]:=gE hkm2
   have hdrop2 : m.drop k = m[k] :: m.drop (k + 1):=List.drop_eq_getElem_cons hkm2
   generalize m[k] = y at *
   rw [hdrop2] at heq
   refine kP (tN (SC.sR (lM I (lM I (lU (iA uT27 zT3 I I hb2 oM sL) (lK (eB iT3 I (SlA.rd hu) hgy I) (lA I (SL.nT (SC.sR (lM I (lM I (lW (cL call118 I (compare_spec E g _ x y)) ?_))))))))))))
   rintro _ _ _ ⟨rfl,rfl,rfl⟩
   refine lA I (SL.nT (SC.sR (lM I (lU (nQ I I) (SL.nT ?_)))))
   refine iP I (fun hd=>?_) (fun hd=>?_)
   ·refine SC.sR (lM I (lA I (SL.nT (rE (bR (tR (tR (bR (tR ?_)))))))))
    exact ST.ret1 (.inl I) results144 I ⟨by rw [heq,cmpL,if_pos hd],I,I⟩
   ·refine kP (bN (tN (rG (lU (aD I I oM) (lM I (nL ?_))))))
    exact gA (k + 1) sB I I ⟨oM,oM,by rw [heq,cmpL,if_neg hd]⟩ oM
 ·refine xI (tX (tX (bX (tN (sQ (SC.sR (lM I (lU (eN uT27 I) (lM I (lU (eN uT27 I) (lU (lS I I) (SL.nT ?_))))))))))))
  have hkk : l.drop k = []:=List.drop_of_length_le oM
  rw [hkk] at heq
  refine iP I (fun hll=>?_) (fun hll=>?_)
  ·refine SC.sR (lA I (SL.nT (rE (tR ?_))))
   have hkm2 : k < m.length:=oM
   have hdrop2 : m.drop k = m[k] :: m.drop (k + 1):=List.drop_eq_getElem_cons hkm2
   rw [hdrop2] at heq
   exact ST.ret1 (.inl rfl) results144 rfl ⟨by rw [heq]; rfl,rfl,rfl⟩
  ·refine kP (tN (SC.sR (lA I (SL.nT (rE ?_)))))
   have hmk : m.drop k = []:=List.drop_of_length_le oM
   rw [hmk] at heq
   exact ST.ret1 (.inl rfl) results144 rfl ⟨by rw [heq]; rfl,rfl,rfl⟩
theorem compareSets (E : World) (g : PH) (s : Own) (v u : Value) (l m : List Int) (hv : Ints g v l) (hu : Ints g u m) (hl : l.length < 1099511627776) :
  Ctr Tryz.prog E 91 #[v,u] g s (fun r g' s'=>r = vi (compareC l m) ∧ g = g' ∧ s = s'):=by
 obtain ⟨p,c,rfl⟩:=SlA.form hv
 obtain ⟨q,d,rfl⟩:=SlA.form hu
 refine Ctr.of (args:=[.slice p l.length c,.slice q m.length d]) func91 I ntmps91 (bE I) ?_
 refine SC.sR (lA I (SL.nT (SC.sR (lM I (lU (eN uT27 I) (lM I (lU (eN uT27 I) (lW (cL call118 I (compare_spec E g _ l.length m.length)) ?_))))))))
 rintro _ _ _ ⟨rfl,rfl,rfl⟩
 refine lM I (lM I (lW (cL call144 I (compareInts E g _ _ _ l m hv hu hl)) ?_))
 rintro _ _ _ ⟨rfl,rfl,rfl⟩
 refine lW (bS sty27 I I I (szs_mk sB) dC) ?_
 rintro _ _ _ ⟨b13,rfl,rfl,rfl⟩
 refine lW (cL call143 I (or_spec E g _ _ [cmpI l.length m.length,cmpL l m] (Rd.pt 0 I) ⟨_,_,I⟩ (fun _=>I) (by simp))) ?_
 rintro _ _ _ ⟨rfl,rfl,rfl⟩
 refine lA I (SL.nT (rE (dR (s':=s) (.cons _ (.refl _)) ?_)))
 exact ST.ret1 (.inl I) results91 I ⟨by unfold compareC; simp only [orI]; split <;> simp_all,I,I⟩
def ListR (g : PH) (l : List Int) (r : Sv) : Prop:=Ints g (.slice r.p r.n r.c) l
theorem ListR.mono {g g' : PH} (hl : Le g g') {l : List Int} {r : Sv} (h : ListR g l r) : ListR g' l r:=SlA.mono h hl
theorem ListR.len {g : PH} {l : List Int} {r : Sv} (h : ListR g l r) : r.n = l.length:=(SlA.cap h).1
def Lists (g : PH) (v : Value) (l : List (List Int)) : Prop:=∃ rs,SlA encSv g v rs ∧ All2 (ListR g) l rs
theorem Lists.mono {g g' : PH} {v : Value} {l : List (List Int)} (h : Lists g v l) (hl : Le g g') : Lists g' v l:=by
 obtain ⟨rs,h1,h2⟩:=h
 exact ⟨rs,h1.mono hl,h2.mono fun _ _=>ListR.mono hl⟩
def pickB (bits : Nat) (l : List Int) : List Int:=(l.zipIdx.filter fun p=>bits / 2 ^ p.2 % 2 == 1).map (·.1)
def subsetsC (l : List Int) : List (List Int):=(List.range (2 ^ l.length - 1)).map fun i=>pickB (i + 1) l
theorem shl_one : ∀ n,n < 10 → IntKind.i64.wrap (1 * 2 ^ min ((n : Nat) : Int).toNat IntKind.i64.bits) = ((2 ^ n : Nat) : Int):=by decide
theorem shr_bit (b k : Nat) (hk : k < 10) : (((b : Nat) : Int).fdiv (2 ^ min ((k : Nat) : Int).toNat IntKind.i64.bits)) % 2 = ((b / 2 ^ k % 2 : Nat) : Int):=by
 have h1 : min ((k : Nat) : Int).toNat IntKind.i64.bits = k:=by
  have : IntKind.i64.bits = 64:=rfl
  rw [this]; omega
 rw [h1,Int.fdiv_eq_ediv_of_nonneg _ (Int.le_of_lt (Int.pow_pos dC))]
 simp
theorem pow_le (n : Nat) (h : n ≤ 9) : 2 ^ n ≤ 512:=by
 have : (2 : Nat) ^ n ≤ 2 ^ 9:=Nat.pow_le_pow_right dC h
 simpa using this
theorem pickB_succ {bits k : Nat} {l : List Int} (h : k < l.length) : pickB bits (l.take (k + 1)) = if bits / 2 ^ k % 2 = 1 then pickB bits (l.take k) ++ [l[k]] else pickB bits (l.take k):=by
 unfold pickB
 rw [tS h,List.zipIdx_append,List.filter_append,List.map_append]
 have : (List.take k l).length = k:=by rw [List.length_take]; omega
 rw [this]
 simp only [List.zipIdx_cons,List.zipIdx_nil,Nat.zero_add,List.filter_cons,List.filter_nil]
 by_cases hb : bits / 2 ^ k % 2 = 1
 ·simp [hb]
 ·simp [hb]
theorem pickB_length (bits : Nat) (l : List Int) : (pickB bits l).length ≤ l.length:=by
 unfold pickB
 rw [List.length_map]
 have:=List.length_filter_le (fun p : Int × Nat=>bits / 2 ^ p.2 % 2 == 1) l.zipIdx
 simpa using this
theorem subsets_spec (E : World) (g : PH) (s : Own) (v : Value) (l : List Int) (hv : Ints g v l) (hl : l.length ≤ 9) :
  Ctr Tryz.prog E 89 #[v] g s (fun r g' s'=>s = s' ∧ Le g g' ∧ Lists g' r (subsetsC l)):=by
 obtain ⟨p,c,rfl⟩:=SlA.form hv
 have hpow:=pow_le l.length hl
 refine Ctr.of (args:=[.slice p l.length c]) func89 I ntmps89 (bE I) ?_
 refine SC.sR (lA I (SL.nT (SC.sR (lA I (SL.nT (sQ (SC.sR (lA I (SL.nT (bK (SC.nilRow 27 1 ?_)))))))))))
 refine oP (ι:=PH × Value × Nat × List Sv) (fun i=>[(0,.slice p l.length c),(3,i.2.1),(4,vi (i.2.2.1 + 1 : Nat))]) (fun i=>i.1)
  (fun i=>rowA encSv 27 i.2.1 i.2.2.2 :: s) (fun i=>Le g i.1 ∧ i.2.2.1 + 1 ≤ 2 ^ l.length ∧ All2 (ListR i.1) ((List.range i.2.2.1).map fun j=>pickB (j + 1) l) i.2.2.2) (fun i=>2 ^ l.length - i.2.2.1)
  (g,.slice none 0 0,0,[]) sB rfl rfl ⟨Le.refl g,Nat.one_le_two_pow,trivial⟩ ?_
 rintro ⟨g1,ov,b,rs⟩ ⟨hle,hb,hall⟩
 dsimp only at hle hb hall ⊢
 have hrl:=hall.length
 simp only [List.length_map,List.length_range] at hrl
 refine sQ (SC.sR (lM I (lM I (lU (eN uT27 I) (lU (SU.eq (v':=vi ((2 ^ l.length : Nat) : Int)) (SU.shl I I oM) (congrArg vi (shl_one l.length oM))) (lU (lS I I) (SL.nT ?_)))))))
 refine iP I (fun hlt=>?_) (fun hlt=>?_)
 ·have hbl : b + 1 < 2 ^ l.length:=oM
  refine kP (tN (sQ (bK (SC.sR (lA I (SL.nT (sQ (sQ (SC.nilRow 3 1 (rG (lM I (lU (eN uT27 I) (lM I (SL.nT (bK ?_)))))))))))))))
  refine oP (ι:=Value × Nat) (fun i=>[(0,.slice p l.length c),(3,ov),(4,vi (b + 1 : Nat)),(5,i.1),(15,.slice p l.length c),(16,vi l.length),(17,vi i.2)]) (fun _=>g1)
   (fun i=>rowA encInt 3 i.1 (pickB (b + 1) (l.take i.2)) :: rowA encSv 27 ov rs :: s) (fun i=>i.2 ≤ l.length) (fun i=>l.length - i.2) (.slice none 0 0,0)
   sB rfl rfl (Nat.zero_le _) ?_
  rintro ⟨cv,k⟩ hk
  dsimp only at hk ⊢
  have hpl:=pickB_length (b + 1) (l.take k)
  rw [List.length_take] at hpl
  refine SC.sR (lU (lS I I) (SL.nT (sQ ?_)))
  refine iP I (fun hlt2=>?_) (fun hlt2=>?_)
  ·have hkl : k < l.length:=oM
   have hb1:=SlA.based (hv.mono hle) oM
   have hsucc:=pickB_succ (bits:=b + 1) hkl
   refine kP (tN (sQ (bK (SC.sR (lM I (lU (iA uT27 zT3 I I hb1 oM sL) ?_))))))
   refine SL.q (eB iT3 I (SlA.rd (hv.mono hle)) (gE hkl) I) dC ?_
   refine lA I (lA I (SL.nT (SC.sR (lM I (lM I (lU (SU.shr I I oM) (lU (SU.eq (v':=vi (((b + 1) / 2 ^ k % 2 : Nat) : Int)) (SU.and I I) (congrArg vi ((and_one _).trans (shr_bit (b + 1) k oM)))) (lU (eQ I I) (SL.nT ?_)))))))))
   refine iP I (fun hbit=>?_) (fun hbit=>?_)
   ·refine rG (lM I (lM I (lW (bS sty27 I I I (szs_mk sB) dC) ?_)))
    rintro _ _ _ ⟨b29,rfl,rfl,rfl⟩
    refine lW (aP 0 l[k] sty27 I I I I I oM oM) ?_
    rintro cv' _ _ ⟨rfl,rfl⟩
    refine lA I (nL (bN (tN (rG (lU (aD I I oM) (lM I (nL ?_)))))))
    refine ST.to (fun w hw=>?_) (g':=g1) (s':=rowA encInt 3 cv' (pickB (b + 1) (l.take (k + 1))) :: rowA encSv 27 ov rs :: s) ?_
    ·rw [hsucc,if_pos oM]; exact hw
    exact gA (cv',k + 1) sB I I lN lN
   ·refine kP (bN (tN (rG (lU (aD I I oM) (lM I (nL ?_))))))
    refine ST.to (fun w hw=>?_) (g':=g1) (s':=rowA encInt 3 cv (pickB (b + 1) (l.take (k + 1))) :: rowA encSv 27 ov rs :: s) ?_
    ·rw [hsucc,if_neg oM]; exact hw
    exact gA (cv,k + 1) sB I I lN lN
  ·have hkk : l.take k = l:=tL oM
   refine xI (tX (tX (bX (tN (rG (fR fun g2 hle2 hs2=>?_))))))
   rw [hkk] at hs2
   obtain ⟨q2,d2,rfl⟩:=SlA.form (e:=encInt) hs2
   refine lM I (lM I (lW (bS sty22 I I I (szs_mk sB) dC) ?_))
   rintro _ _ _ ⟨b34,rfl,rfl,rfl⟩
   refine lW (aP (e:=encSv) 0 ⟨q2,(pickB (b + 1) l).length,d2⟩ sty22 I I I I I oM oM) ?_
   rintro ov' _ _ ⟨rfl,rfl⟩
   refine lA I (nL (bN (tN (rG (lM I (lU (aD I I oM) (lA I (nL ?_))))))))
   exact gA (g2,ov',b + 1,rs ++ [⟨q2,(pickB (b + 1) l).length,d2⟩]) ⟨I,I,vi_eq (by simp),trivial⟩ I I ⟨hle.trans hle2,hbl,by
    dsimp only
    rw [List.range_succ,List.map_append]
    exact (hall.mono fun _ _=>ListR.mono hle2).append ⟨hs2,trivial⟩⟩ lN
 ·refine xI (tX (tX (bX (tN (SC.sR (lM I (lA I (SL.nT (rE (fT fun g2 hle2 hs2=>?_))))))))))
  have hbb : b = 2 ^ l.length - 1:=oM
  exact ST.ret1 (.inl I) results89 I ⟨I,hle.trans hle2,rs,hs2,by rw [hbb] at hall; exact hall.mono fun _ _=>ListR.mono hle2⟩
def uniqGo {α : Type} (eq : α → α → Bool) : α → List α → List α
 | _,[]=>[]
 | x,y :: r=>if eq y x then uniqGo eq y r else y :: uniqGo eq y r
def uniq {α : Type} (eq : α → α → Bool) : List α → List α
 | []=>[]
 | x :: r=>x :: uniqGo eq x r
theorem uniqGo_append {α : Type} (eq : α → α → Bool) : ∀ (x : α) (a : List α) (y : α) (r : List α),uniqGo eq x (a ++ y :: r) = uniqGo eq x (a ++ [y]) ++ uniqGo eq y r
 | x,[],y,r=>by simp only [List.nil_append,uniqGo]; split <;> simp
 | x,z :: a,y,r=>by
  simp only [List.cons_append,uniqGo]
  split
  ·exact uniqGo_append eq z a y r
  ·rw [uniqGo_append eq z a y r]; rfl
theorem uniq_append {α : Type} (eq : α → α → Bool) (a : List α) (y : α) (r : List α) : uniq eq (a ++ y :: r) = uniq eq (a ++ [y]) ++ uniqGo eq y r:=by
 cases a with
 | nil=>rfl
 | cons x a=>simp only [List.cons_append,uniq]; rw [uniqGo_append]
theorem uniqGo_length {α : Type} (eq : α → α → Bool) : ∀ (x : α) (r : List α),(uniqGo eq x r).length ≤ r.length
 | _,[]=>lR _
 | x,y :: r=>by
  have:=uniqGo_length eq y r
  simp only [uniqGo]
  split <;> simp <;> omega
theorem uniq_length {α : Type} (eq : α → α → Bool) (l : List α) : (uniq eq l).length ≤ l.length:=by
 cases l with
 | nil=>exact lR _
 | cons x r=>have:=uniqGo_length eq x r; simp [uniq]; exact this
theorem split_at {α : Type} {l : List α} {k : Nat} (h : k + 1 < l.length) : ∃ A x y R,l = A ++ x :: y :: R ∧ A.length = k:=by
 refine ⟨l.take k,l[k],l[k + 1],l.drop (k + 2),?_,by rw [List.length_take]; omega⟩
 have h1 : l.drop k = l[k] :: l.drop (k + 1):=List.drop_eq_getElem_cons oM
 have h2 : l.drop (k + 1) = l[k + 1] :: l.drop (k + 2):=List.drop_eq_getElem_cons oM
 rw [← h2,← h1,List.take_append_drop]
theorem take_at {α : Type} (A : List α) (x : α) (R : List α) : (A ++ x :: R).take (A.length + 1) = A ++ [x]:=by
 rw [List.take_append,tL oM]
 simp
theorem uniq_short {α : Type} (eq : α → α → Bool) {l : List α} (h : l.length < 2) : uniq eq l = l:=by
 match l,h with
 | [],_=>rfl
 | [a],_=>rfl
theorem sl_from {b o n c l k : Nat} (h : l < c) : sliced (some ⟨b,o,none⟩) l n c k = .slice (some ⟨b,o + l * k,none⟩) (n - l) (c - l):=by
 have hadd : (⟨b,o,none⟩ : Addr).add (l * k) = ⟨b,o + l * k,none⟩:=by unfold Addr.add; split <;> simp_all
 simp only [sliced]
 rw [if_neg oM]
 simp [hadd]
theorem sl_to {b o n c k : Nat} : sliced (some ⟨b,o,none⟩) 0 n c k = .slice (some ⟨b,o,none⟩) n c:=by
 have hadd : (⟨b,o,none⟩ : Addr).add 0 = ⟨b,o,none⟩:=by unfold Addr.add; split <;> simp_all
 simp [sliced,hadd]
theorem row_cap {α : Type} {k : Nat} {e : Enc α k} {E : World} {g : PH} {s : Own} {w : World} {T : TypeId} {p : Option Addr} {c i : Nat} {l : List α} (h : At E g s w) (hi : s[i]? = some (rowA e T (.slice p l.length c) l)) (h0 : 0 < l.length) : ∃ b cap,p = some ⟨b,0,none⟩ ∧ c = cap + 1 ∧ l.length ≤ cap + 1:=by
 obtain ⟨_,h1⟩:=row_is h hi
 rcases h1 with ⟨q,_,h2⟩ | ⟨b,cap,cur,he,_,hle,_⟩
 ·omega
 ·injection he with e1 e2 e3
  exact ⟨b,cap,e1,e3,hle⟩
theorem compactL {α : Type} (e1 : Enc α 1) (val : α → Value) (hval : ∀ a,e1.enc a = [val a]) (hvc : ∀ a,(val a).cells = #[val a]) (E : World) (g : PH) (s : Own) (v : Value) (fn : FuncId) (eq : α → α → Bool) (l : List α) (hl : l.length < 1099511627776)
  (hcall : ∀ a b s',CallV Tryz.prog E (.func (.func fn) #[] #[]) [val a,val b] g s' (fun r g' s''=>r = vb (eq a b) ∧ g = g' ∧ s' = s'')) :
  Ctr Tryz.prog E 92 #[v,.func (.func fn) #[] #[]] g (rowA e1 27 v l :: s) (fun r g' s'=>g = g' ∧ s' = rowA e1 27 r (uniq eq l) :: s):=by
 refine Ctr.facts fun ⟨w0,hw0⟩=>?_
 obtain ⟨p,c,rfl⟩:=rowA_form (i:=0) hw0 rfl
 have hrow:=fun h=>row_cap (i:=0) hw0 rfl h
 clear hw0 w0
 refine Ctr.of (args:=[.slice p l.length c,.func (.func fn) #[] #[]]) func92 I ntmps92 (bE I) ?_
 refine SC.sR (lA I (SL.nT (sQ (SC.sR (lM I (lU (eN uT22 I) (lU (lS I I) (SL.nT ?_))))))))
 refine iP I (fun h2=>?_) (fun h2=>?_)
 ·refine SC.sR (lM I (lA I (SL.nT (rE (tR ?_)))))
  exact ST.ret1 (.inl I) results92 I ⟨I,by rw [uniq_short eq oM]⟩
 ·obtain ⟨b,cap,rfl,rfl,hcap⟩:=hrow oM
  refine kP (tN (sQ (SC.sR (lA I (SL.nT (bK ?_))))))
  refine oP (ι:=Nat) (fun k=>[(0,.slice (some ⟨b,0,none⟩) l.length (cap + 1)),(1,.func (.func fn) #[] #[]),(5,vi (k + 1))]) (fun _=>g) (fun _=>rowA e1 27 (.slice (some ⟨b,0,none⟩) l.length (cap + 1)) l :: s) (fun k=>k + 1 ≤ l.length ∧ uniq eq (l.take (k + 1)) = l.take (k + 1)) (fun k=>l.length - k) 0
   sB rfl rfl ⟨oM,uniq_short eq (by rw [List.length_take]; omega)⟩ ?_
  rintro k ⟨hk,huq⟩
  refine sQ (SC.sR (lM I (lM I (lU (eN uT22 I) (lU (lS I I) (SL.nT ?_))))))
  refine iP I (fun hlt=>?_) (fun hlt=>?_)
  ·obtain ⟨A,x,y,R,hsp,hA⟩:=split_at (l:=l) (k:=k) oM
   have hlen : l.length = k + 2 + R.length:=by rw [hsp]; simp; omega
   have hg1 : l[((k : Int) + 1).toNat]? = some y:=by
    have h3 : l = (A ++ [x]) ++ y :: R:=by rw [hsp]; simp
    rw [h3]; exact get_mid (by simp; omega)
   have hg0 : l[((k : Int) + 1 - 1).toNat]? = some x:=by rw [hsp]; exact get_mid oM
   have htk : l.take (k + 1) = A ++ [x]:=by rw [hsp,← hA]; exact take_at A x (y :: R)
   rw [htk] at huq
   refine kP (tN (sQ (bK (sQ ?_))))
   refine dW [] [(0,2),(1,2),(2,2),(3,2),(4,1),(5,2),(6,2),(7,2),(8,2),(9,1),(10,0)] Tryz.mixed (by kernel_rfl) ?_
   refine pU rfl (mV rfl) (pU rfl (mV rfl) (pU rfl (mV rfl) (pU rfl (iA uT22 zT27 rfl rfl rfl oM sL) (pK rfl (eB iT27 rfl (Rd.rowA 0 rfl) hg1 (hval _)) (pU rfl (mV rfl) (pU rfl (mV rfl) (pU rfl (sU rfl rfl oM) (pU rfl (iA uT22 zT27 rfl rfl rfl oM sL) (pK rfl (eB iT27 rfl (Rd.rowA 0 rfl) hg0 (hval _)) (SP.o rfl (SO.callV rfl rfl (hcall _ _ _)) dC (.inr (by rintro _ _ _ ⟨rfl,rfl,rfl⟩; exact ⟨by exact Le.refl _,(by exact .refl _)⟩)) ?_))))))))))
   rintro _ _ _ ⟨rfl,rfl,rfl⟩
   refine pN (tN ?_)
   refine iQ I (fun heq=>?_) (fun heq=>?_)
   ·have hU : uniq eq l = (A ++ [x]) ++ uniqGo eq y R:=by rw [hsp,uniq_append,huq]; simp only [uniqGo,heq,if_true]
    refine SC.sR (lM I (lM I (lU (SU.eq (v':=.slice (some ⟨b,0 + (k + 1) * 1,none⟩) (l.length - (k + 1)) (cap + 1 - (k + 1))) (SU.sliceL uT22 zT27 I I oM oM) (by rw [show ((k : Int) + 1).toNat = k + 1 by omega]; exact sl_from oM)) ?_)))
    refine lA I (SL.nT (sQ (SC.sR (lA I (SL.nT (bK ?_))))))
    refine oP (ι:=List α × List α × α × List α × Nat) (fun i=>[(0,.slice (some ⟨b,0,none⟩) l.length (cap + 1)),(1,.func (.func fn) #[] #[]),(5,vi i.1.length),(6,.slice (some ⟨b,0 + (k + 1) * 1,none⟩) (l.length - (k + 1)) (cap + 1 - (k + 1))),(7,vi i.2.2.2.2)]) (fun _=>g)
     (fun i=>rowA e1 27 (.slice (some ⟨b,0,none⟩) l.length (cap + 1)) (i.1 ++ (i.2.1 ++ [i.2.2.1]) ++ i.2.2.2.1) :: s)
     (fun i=>i.1.length + i.2.1.length = k + i.2.2.2.2 ∧ 1 ≤ i.2.2.2.2 ∧ uniq eq l = i.1 ++ uniqGo eq i.2.2.1 i.2.2.2.1 ∧ i.1.length + i.2.1.length + 1 + i.2.2.2.1.length = l.length) (fun i=>i.2.2.2.1.length)
     (A ++ [x],[],y,R,1) ⟨rfl,rfl,vi_eq lN,rfl,rfl,trivial⟩ rfl (by dsimp only; rw [hsp]; simp) ⟨lN,lR _,hU,lN⟩ ?_
    rintro ⟨D,J0,z,R',n⟩ ⟨hn1,hn2,hu,hln⟩
    dsimp only at hn1 hn2 hu hln ⊢
    have hrl : (D ++ (J0 ++ [z]) ++ R').length = l.length:=lN
    refine sQ (SC.sR (lM I (lM I (lU (eN uT22 I) (lU (lS I I) (SL.nT ?_))))))
    refine iP I (fun hlt2=>?_) (fun hlt2=>?_)
    ·cases R' with
     | nil=>simp at hln; omega
     | cons y' R2 =>
     simp only [List.length_cons] at hln
     have hy1 : ((D ++ (J0 ++ [z]) ++ y' :: R2).drop (k + 1))[((n : Nat) : Int).toNat]? = some y':=by
      rw [List.getElem?_drop]; exact get_mid lN
     have hy0 : ((D ++ (J0 ++ [z]) ++ y' :: R2).drop (k + 1))[((n : Nat) : Int) - 1 |>.toNat]? = some z:=by
      rw [List.getElem?_drop,show D ++ (J0 ++ [z]) ++ y' :: R2 = (D ++ J0) ++ z :: y' :: R2 by simp]; exact get_mid lN
     have hrd : ∀ s',Rd g (rowA e1 27 (.slice (some ⟨b,0,none⟩) l.length (cap + 1)) (D ++ (J0 ++ [z]) ++ y' :: R2) :: s') (.slice (some ⟨b,0 + (k + 1) * 1,none⟩) (l.length - (k + 1)) (cap + 1 - (k + 1))) (((D ++ (J0 ++ [z]) ++ y' :: R2).drop (k + 1)).flatMap e1.enc):=fun s'=>by
      rw [Nat.zero_add]; exact Rd.fromA (Rd.rowA 0 rfl)
     refine kP (tN (sQ (bK (sQ ?_))))
     refine dW [] [(0,2),(1,2),(2,2),(3,2),(4,1),(5,2),(6,2),(7,2),(8,2),(9,1),(10,0),(11,2)] Tryz.mixed (by kernel_rfl) ?_
     refine pU rfl (mV rfl) (pU rfl (mV rfl) (pU rfl (mV rfl) (pU rfl (iA uT22 zT27 rfl rfl rfl oM sL) (pK rfl (eB iT27 rfl (hrd _) hy1 (hval _)) (pU rfl (mV rfl) (pU rfl (mV rfl) (pU rfl (sU rfl rfl oM) (pU rfl (iA uT22 zT27 rfl rfl rfl oM sL) (pK rfl (eB iT27 rfl (hrd _) hy0 (hval _)) (SP.o rfl (SO.callV rfl rfl (hcall _ _ _)) dC (.inr (by rintro _ _ _ ⟨rfl,rfl,rfl⟩; exact ⟨by exact Le.refl _,(by exact .refl _)⟩)) ?_))))))))))
     rintro _ _ _ ⟨rfl,rfl,rfl⟩
     refine pU I (SU.not I) (pN (tN ?_))
     refine iQ I (fun hne=>?_) (fun hne=>?_)
     ·have hne' : eq y' z = false:=by simpa using hne
      refine SC.sR (lM I (lM I (lM I (lM I (lU (iA uT22 zT27 I I I oM sL) (lK (eB iT27 I (hrd _) hy1 (hval _)) (lU (iA uT22 zT27 I I I oM sL) (SL.O2 (sT (a:=y') 0 zT27 I I I lN (by rw [hvc,hval])) ?_))))))))
      refine SL.nT (rG (lM I (lU (aD I I oM) (lA I (nL (bN (tN (rG (lM I (lU (aD I I oM) (lA I (nL ?_))))))))))))
      have hset : ∃ J',(D ++ (J0 ++ [z]) ++ y' :: R2).set ((D.length : Nat) : Int).toNat y' = (D ++ [y']) ++ (J' ++ [y']) ++ R2 ∧ J'.length = J0.length:=by
       cases J0 with
       | nil=>exact ⟨[],by rw [show D ++ ([] ++ [z]) ++ y' :: R2 = D ++ z :: y' :: R2 by simp,set_mid oM]; simp,rfl⟩
       | cons j J1=>exact ⟨J1 ++ [z],by rw [show D ++ (j :: J1 ++ [z]) ++ y' :: R2 = D ++ j :: (J1 ++ [z] ++ y' :: R2) by simp,set_mid oM]; simp,by simp⟩
      obtain ⟨J',hset,hJ'⟩:=hset
      refine ST.to (fun w hw=>?_) (g':=g) (s':=rowA e1 27 (.slice (some ⟨b,0,none⟩) l.length (cap + 1)) ((D ++ [y']) ++ (J' ++ [y']) ++ R2) :: s) ?_
      ·rw [← hset]; exact hw
      exact gA (D ++ [y'],J',y',R2,n + 1) ⟨I,I,vi_eq lN,I,I,trivial⟩ I I ⟨lN,lN,by rw [hu]; simp only [uniqGo,hne']; simp,lN⟩ lN
     ·have he' : eq y' z = true:=by simpa using hne
      refine kP (bN (tN (rG (lM I (lU (aD I I oM) (lA I (nL ?_)))))))
      refine ST.to (fun w hw=>?_) (g':=g) (s':=rowA e1 27 (.slice (some ⟨b,0,none⟩) l.length (cap + 1)) (D ++ ((J0 ++ [z]) ++ [y']) ++ R2) :: s) ?_
      ·rw [show D ++ ((J0 ++ [z]) ++ [y']) ++ R2 = D ++ (J0 ++ [z]) ++ y' :: R2 by simp]; exact hw
      exact gA (D,J0 ++ [z],y',R2,n + 1) sB I I ⟨lN,lN,by rw [hu]; simp only [uniqGo,he']; simp,lN⟩ lN
    ·have hR : R' = []:=List.eq_nil_of_length_eq_zero oM
     subst hR
     simp only [List.length_nil] at hln
     refine xI (tX (tX (bX (tN (SC.sR ?_)))))
     refine SL.to (fun w hw=>At.shrink (i:=0) (D:=D) (J:=J0 ++ [z]) hw (by rw [List.append_nil]; rfl) rfl) ?_
     refine lM I (lM I (lU (SU.eq (v':=.slice (some ⟨b,D.length * 1,none⟩) (l.length - D.length) (cap + 1 - D.length)) (SU.sliceL uT22 zT27 I I oM oM) (by rw [Int.toNat_natCast,sl_from oM,Nat.zero_add])) ?_))
     refine lO (SO.clearA (D:=D) 0 sty22 (ones_mk (l:=[.slice none 0 0]) ⟨I,trivial⟩) I I I oM) ?_
     rintro _ _ _ ⟨rfl,rfl⟩
     refine SL.nT (SC.sR (lM I (lM I (lU (SU.eq (v':=.slice (some ⟨b,0,none⟩) D.length (cap + 1)) (SU.sliceH uT22 zT27 I I oM oM) (by rw [Int.toNat_natCast]; exact sl_to)) ?_))))
     refine lA I (SL.nT (rE (bR (tR (tR (bR (tR ?_)))))))
     exact ST.ret1 (.inl I) results92 I ⟨I,by rw [hu]; simp [uniqGo]⟩
   ·refine kP (bN (tN (rG (lM I (lU (aD I I oM) (lA I (nL ?_)))))))
    exact gA (k + 1) ⟨I,I,vi_eq oM,trivial⟩ I I ⟨oM,by
     have h3 : l = (A ++ [x]) ++ y :: R:=by rw [hsp]; simp
     have h4 : l.take (k + 1 + 1) = (A ++ [x]) ++ [y]:=by
      rw [h3,show k + 1 + 1 = (A ++ [x]).length + 1 by simp; omega]; exact take_at _ y R
     rw [h4,show (A ++ [x]) ++ [y] = A ++ x :: [y] by simp,uniq_append,huq]
     simp [uniqGo,heq]⟩ oM
  ·have hkk : k + 1 = l.length:=oM
   rw [hkk,tL (lR _)] at huq
   refine xI (tX (tX (bX (tN (SC.sR (lM I (lA I (SL.nT (rE ?_)))))))))
   exact ST.ret1 (.inl I) results92 I ⟨I,by rw [huq]⟩
theorem compactI (E : World) (g : PH) (s : Own) (v : Value) (l : List Int) (hl : l.length < 17592186044416) :
  Ctr Tryz.prog E 88 #[v] g (rowA encInt 3 v l :: s) (fun r g' s'=>g = g' ∧ s' = rowA encInt 3 r (uniq (fun a b : Int=>decide (a = b)) l) :: s):=by
 refine Ctr.facts fun ⟨w0,hw0⟩=>?_
 obtain ⟨p,c,rfl⟩:=rowA_form (i:=0) hw0 rfl
 have hrow:=fun h=>row_cap (i:=0) hw0 rfl h
 clear hw0 w0
 refine Ctr.of (args:=[.slice p l.length c]) func88 I ntmps88 (bE I) ?_
 refine SC.sR (lA I (SL.nT (sQ (SC.sR (lM I (lU (eN uT27 I) (lU (lS I I) (SL.nT ?_))))))))
 refine iP I (fun h2=>?_) (fun h2=>?_)
 ·refine SC.sR (lM I (lA I (SL.nT (rE (tR ?_)))))
  exact ST.ret1 (.inl I) results88 I ⟨I,by rw [uniq_short (fun a b : Int=>decide (a = b)) oM]⟩
 ·obtain ⟨b,cap,rfl,rfl,hcap⟩:=hrow oM
  refine kP (tN (sQ (SC.sR (lA I (SL.nT (bK ?_))))))
  refine oP (ι:=Nat) (fun k=>[(0,.slice (some ⟨b,0,none⟩) l.length (cap + 1)),(3,vi (k + 1))]) (fun _=>g) (fun _=>rowA encInt 3 (.slice (some ⟨b,0,none⟩) l.length (cap + 1)) l :: s) (fun k=>k + 1 ≤ l.length ∧ uniq (fun a b : Int=>decide (a = b)) (l.take (k + 1)) = l.take (k + 1)) (fun k=>l.length - k) 0
   sB rfl rfl ⟨oM,uniq_short (fun a b : Int=>decide (a = b)) (by rw [List.length_take]; omega)⟩ ?_
  rintro k ⟨hk,huq⟩
  refine sQ (SC.sR (lM I (lM I (lU (eN uT27 I) (lU (lS I I) (SL.nT ?_))))))
  refine iP I (fun hlt=>?_) (fun hlt=>?_)
  ·obtain ⟨A,x,y,R,hsp,hA⟩:=split_at (l:=l) (k:=k) oM
   have hlen : l.length = k + 2 + R.length:=by rw [hsp]; simp; omega
   have hg1 : l[((k : Int) + 1).toNat]? = some y:=by
    have h3 : l = (A ++ [x]) ++ y :: R:=by rw [hsp]; simp
    rw [h3]; exact get_mid (by simp; omega)
   have hg0 : l[((k : Int) + 1 - 1).toNat]? = some x:=by rw [hsp]; exact get_mid oM
   have htk : l.take (k + 1) = A ++ [x]:=by rw [hsp,← hA]; exact take_at A x (y :: R)
   rw [htk] at huq
   refine kP (tN (sQ (bK (sQ ?_))))
   refine dW [] [(0,2),(1,2),(2,2),(3,1),(4,2),(5,2),(6,2),(7,2),(8,1),(9,2)] Tryz.mixed (by kernel_rfl) ?_
   refine pU I (mV I) (pU I (mV I) (pU I (iA uT27 zT3 I I I oM sL) (pK I (eB iT3 I (Rd.rowA 0 I) hg1 I) (pU I (mV I) (pU I (mV I) (pU I (sU I I oM) (pU I (iA uT27 zT3 I I I oM sL) (pK I (eB iT3 I (Rd.rowA 0 I) hg0 I) (pU I (eQ I I) (pN (tN ?_)))))))))))
   refine iQ I (fun heq=>?_) (fun heq=>?_)
   ·have hU : uniq (fun a b : Int=>decide (a = b)) l = (A ++ [x]) ++ uniqGo (fun a b : Int=>decide (a = b)) y R:=by rw [hsp,uniq_append,huq]; simp only [uniqGo,heq,if_true]
    refine SC.sR (lM I (lM I (lU (SU.eq (v':=.slice (some ⟨b,0 + (k + 1) * 1,none⟩) (l.length - (k + 1)) (cap + 1 - (k + 1))) (SU.sliceL uT27 zT3 I I oM oM) (by rw [show ((k : Int) + 1).toNat = k + 1 by omega]; exact sl_from oM)) ?_)))
    refine lA I (SL.nT (sQ (SC.sR (lA I (SL.nT (bK ?_))))))
    refine oP (ι:=List Int × List Int × Int × List Int × Nat) (fun i=>[(0,.slice (some ⟨b,0,none⟩) l.length (cap + 1)),(3,vi i.1.length),(4,.slice (some ⟨b,0 + (k + 1) * 1,none⟩) (l.length - (k + 1)) (cap + 1 - (k + 1))),(5,vi i.2.2.2.2)]) (fun _=>g)
     (fun i=>rowA encInt 3 (.slice (some ⟨b,0,none⟩) l.length (cap + 1)) (i.1 ++ (i.2.1 ++ [i.2.2.1]) ++ i.2.2.2.1) :: s)
     (fun i=>i.1.length + i.2.1.length = k + i.2.2.2.2 ∧ 1 ≤ i.2.2.2.2 ∧ uniq (fun a b : Int=>decide (a = b)) l = i.1 ++ uniqGo (fun a b : Int=>decide (a = b)) i.2.2.1 i.2.2.2.1 ∧ i.1.length + i.2.1.length + 1 + i.2.2.2.1.length = l.length) (fun i=>i.2.2.2.1.length)
     (A ++ [x],[],y,R,1) ⟨rfl,vi_eq lN,rfl,rfl,trivial⟩ rfl (by dsimp only; rw [hsp]; simp) ⟨lN,lR _,hU,lN⟩ ?_
    rintro ⟨D,J0,z,R',n⟩ ⟨hn1,hn2,hu,hln⟩
    dsimp only at hn1 hn2 hu hln ⊢
    have hrl : (D ++ (J0 ++ [z]) ++ R').length = l.length:=lN
    refine sQ (SC.sR (lM I (lM I (lU (eN uT27 I) (lU (lS I I) (SL.nT ?_))))))
    refine iP I (fun hlt2=>?_) (fun hlt2=>?_)
    ·cases R' with
     | nil=>simp at hln; omega
     | cons y' R2 =>
     simp only [List.length_cons] at hln
     have hy1 : ((D ++ (J0 ++ [z]) ++ y' :: R2).drop (k + 1))[((n : Nat) : Int).toNat]? = some y':=by
      rw [List.getElem?_drop]; exact get_mid lN
     have hy0 : ((D ++ (J0 ++ [z]) ++ y' :: R2).drop (k + 1))[((n : Nat) : Int) - 1 |>.toNat]? = some z:=by
      rw [List.getElem?_drop,show D ++ (J0 ++ [z]) ++ y' :: R2 = (D ++ J0) ++ z :: y' :: R2 by simp]; exact get_mid lN
     have hrd : ∀ s',Rd g (rowA encInt 3 (.slice (some ⟨b,0,none⟩) l.length (cap + 1)) (D ++ (J0 ++ [z]) ++ y' :: R2) :: s') (.slice (some ⟨b,0 + (k + 1) * 1,none⟩) (l.length - (k + 1)) (cap + 1 - (k + 1))) (((D ++ (J0 ++ [z]) ++ y' :: R2).drop (k + 1)).flatMap encInt.enc):=fun s'=>by
      rw [Nat.zero_add]; exact Rd.fromA (Rd.rowA 0 rfl)
     refine kP (tN (sQ (bK (sQ ?_))))
     refine dW [] [(0,2),(1,2),(2,2),(3,1),(4,2),(5,2),(6,2),(7,2),(8,1),(9,2)] Tryz.mixed (by kernel_rfl) ?_
     refine pU I (mV I) (pU I (mV I) (pU I (iA uT27 zT3 I I I oM sL) (pK I (eB iT3 I (hrd _) hy1 I) (pU I (mV I) (pU I (mV I) (pU I (sU I I oM) (pU I (iA uT27 zT3 I I I oM sL) (pK I (eB iT3 I (hrd _) hy0 I) (pU I (nQ I I) (pN (tN ?_)))))))))))
     refine iQ I (fun hne=>?_) (fun hne=>?_)
     ·have hne' : decide (y' = z) = false:=by simpa using hne
      refine SC.sR (lM I (lM I (lM I (lM I (lU (iA uT27 zT3 I I I oM sL) (lK (eB iT3 I (hrd _) hy1 I) (lU (iA uT27 zT3 I I I oM sL) (SL.O2 (sT (a:=y') 0 zT3 I I I lN I) ?_))))))))
      refine SL.nT (rG (lM I (lU (aD I I oM) (lA I (nL (bN (tN (rG (lM I (lU (aD I I oM) (lA I (nL ?_))))))))))))
      have hset : ∃ J',(D ++ (J0 ++ [z]) ++ y' :: R2).set ((D.length : Nat) : Int).toNat y' = (D ++ [y']) ++ (J' ++ [y']) ++ R2 ∧ J'.length = J0.length:=by
       cases J0 with
       | nil=>exact ⟨[],by rw [show D ++ ([] ++ [z]) ++ y' :: R2 = D ++ z :: y' :: R2 by simp,set_mid oM]; simp,rfl⟩
       | cons j J1=>exact ⟨J1 ++ [z],by rw [show D ++ (j :: J1 ++ [z]) ++ y' :: R2 = D ++ j :: (J1 ++ [z] ++ y' :: R2) by simp,set_mid oM]; simp,by simp⟩
      obtain ⟨J',hset,hJ'⟩:=hset
      refine ST.to (fun w hw=>?_) (g':=g) (s':=rowA encInt 3 (.slice (some ⟨b,0,none⟩) l.length (cap + 1)) ((D ++ [y']) ++ (J' ++ [y']) ++ R2) :: s) ?_
      ·rw [← hset]; exact hw
      exact gA (D ++ [y'],J',y',R2,n + 1) ⟨I,vi_eq lN,I,I,trivial⟩ I I ⟨lN,lN,by rw [hu]; simp only [uniqGo,hne']; simp,lN⟩ lN
     ·have he' : decide (y' = z) = true:=by simpa using hne
      refine kP (bN (tN (rG (lM I (lU (aD I I oM) (lA I (nL ?_)))))))
      refine ST.to (fun w hw=>?_) (g':=g) (s':=rowA encInt 3 (.slice (some ⟨b,0,none⟩) l.length (cap + 1)) (D ++ ((J0 ++ [z]) ++ [y']) ++ R2) :: s) ?_
      ·rw [show D ++ ((J0 ++ [z]) ++ [y']) ++ R2 = D ++ (J0 ++ [z]) ++ y' :: R2 by simp]; exact hw
      exact gA (D,J0 ++ [z],y',R2,n + 1) sB I I ⟨lN,lN,by rw [hu]; simp only [uniqGo,he']; simp,lN⟩ lN
    ·have hR : R' = []:=List.eq_nil_of_length_eq_zero oM
     subst hR
     simp only [List.length_nil] at hln
     refine xI (tX (tX (bX (tN (SC.sR ?_)))))
     refine SL.to (fun w hw=>At.shrink (i:=0) (D:=D) (J:=J0 ++ [z]) hw (by rw [List.append_nil]; rfl) rfl) ?_
     refine lM I (lM I (lU (SU.eq (v':=.slice (some ⟨b,D.length * 1,none⟩) (l.length - D.length) (cap + 1 - D.length)) (SU.sliceL uT27 zT3 I I oM oM) (by rw [Int.toNat_natCast,sl_from oM,Nat.zero_add])) ?_))
     refine lO (SO.clearA (D:=D) 0 sty27 (ones_mk (l:=[vi 0]) ⟨I,trivial⟩) I I I oM) ?_
     rintro _ _ _ ⟨rfl,rfl⟩
     refine SL.nT (SC.sR (lM I (lM I (lU (SU.eq (v':=.slice (some ⟨b,0,none⟩) D.length (cap + 1)) (SU.sliceH uT27 zT3 I I oM oM) (by rw [Int.toNat_natCast]; exact sl_to)) ?_))))
     refine lA I (SL.nT (rE (bR (tR (tR (bR (tR ?_)))))))
     exact ST.ret1 (.inl I) results88 I ⟨I,by rw [hu]; simp [uniqGo]⟩
   ·refine kP (bN (tN (rG (lM I (lU (aD I I oM) (lA I (nL ?_)))))))
    exact gA (k + 1) ⟨I,vi_eq oM,trivial⟩ I I ⟨oM,by
     have h3 : l = (A ++ [x]) ++ y :: R:=by rw [hsp]; simp
     have h4 : l.take (k + 1 + 1) = (A ++ [x]) ++ [y]:=by
      rw [h3,show k + 1 + 1 = (A ++ [x]).length + 1 by simp; omega]; exact take_at _ y R
     rw [h4,show (A ++ [x]) ++ [y] = A ++ x :: [y] by simp,uniq_append,huq]
     simp [uniqGo,heq]⟩ oM
  ·have hkk : k + 1 = l.length:=oM
   rw [hkk,tL (lR _)] at huq
   refine xI (tX (tX (bX (tN (SC.sR (lM I (lA I (SL.nT (rE ?_)))))))))
   exact ST.ret1 (.inl I) results88 I ⟨I,by rw [huq]⟩
theorem growNil (E : World) (g : PH) (s : Own) (n : Nat) (hn : n < 1099511627776) :
  Ctr Tryz.prog E 145 #[.slice none 0 0,vi n] g s (fun r g' s'=>g = g' ∧ s' = rowA encInt 3 r [] :: s):=by
 refine Ctr.of (args:=[.slice none 0 0,vi n]) func145 I ntmps145 (bE I) ?_
 refine SC.sR (lA I (SL.nT (sQ (SC.sR (lM I (lU (lS I I) (SL.nT ?_)))))))
 refine iP I (fun hneg=>?_) (fun hneg=>?_)
 ·exfalso
  omega
 ·refine kP (tN (sQ (SC.sR (lM I (lM I (lU (SU.cap uT27 I) (lM I (lU (eN uT27 I) (lU (sU I I oM) (lU (SU.eq (v':=vi n) (sU I I oM) (congrArg vi oM)) (lA I (SL.nT (SC.sR (lM I (lU (gR I I) (SL.nT ?_))))))))))))))))
  refine iP I (fun hpos=>?_) (fun hpos=>?_)
  ·refine rG (lM I (lM I (lU (SU.cap uT27 I) (lU (SU.eq (v':=.slice none 0 0) (SU.sliceH uT27 zT3 I I oM oM) I) (lM I (lW (SO.appendZ encInt sty27 uT3 I I oM oM oM) ?_))))))
   rintro _ _ _ ⟨b,cap,rfl,hcap,rfl,rfl⟩
   refine lM I (lU (eN uT27 I) (lU (SU.eq (v':=.slice (some ⟨b,0,none⟩) 0 (cap + 1)) (SU.sliceH uT27 zT3 I I oM oM) sl_to) (lA I (SL.nT (SC.sR (lM I (lA I (SL.nT (rE ?_)))))))))
   exact ST.ret1 (.inl I) results145 I ⟨I,I⟩
  ·refine kP (tN (SC.sR (lM I (lA I (SL.nT (rE (ST.nilRow 3 1 ?_)))))))
   exact ST.ret1 (.inl I) results145 I ⟨I,I⟩
def sumLen (ls : List (List Int)) : Nat:=(ls.map List.length).sum
theorem sumLen_take (ls : List (List Int)) (k : Nat) : sumLen (ls.take k) ≤ sumLen ls:=by
 have h:=congrArg (fun l=>(l.map List.length).sum) (List.take_append_drop k ls)
 simp only [List.map_append,List.sum_append] at h
 unfold sumLen
 omega
theorem sumLen_succ {ls : List (List Int)} {k : Nat} (h : k < ls.length) : sumLen (ls.take (k + 1)) = sumLen (ls.take k) + ls[k].length:=by
 unfold sumLen
 rw [tS h,List.map_append,List.sum_append]
 rfl
theorem sumLen_flatten (ls : List (List Int)) : ls.flatten.length = sumLen ls:=List.length_flatten
theorem concat_spec (E : World) (g : PH) (s : Own) (v : Value) (ls : List (List Int)) (hv : Lists g v ls) (hn : ls.length < 1099511627776) (hl : sumLen ls < 1099511627776) :
  Ctr Tryz.prog E 94 #[v] g s (fun r g' s'=>g = g' ∧ s' = rowA encInt 3 r ls.flatten :: s):=by
 obtain ⟨rs,hrs,hall⟩:=hv
 have hlen:=hall.length
 obtain ⟨p,c,rfl⟩:=SlA.form hrs
 refine Ctr.of (args:=[.slice p rs.length c]) func94 I ntmps94 (bE I) ?_
 refine SC.sR (lA I (SL.nT (SC.sR (lA I (SL.nT (sQ (SC.sR (lM I (lU (eN uT22 I) (lM I (SL.nT (bK ?_))))))))))))
 refine oP (ι:=Nat) (fun k=>[(0,.slice p rs.length c),(3,vi (sumLen (ls.take k))),(9,.slice p rs.length c),(10,vi rs.length),(11,vi k)]) (fun _=>g) (fun _=>s) (fun k=>k ≤ rs.length) (fun k=>rs.length - k) 0
  sB rfl rfl (Nat.zero_le _) ?_
 rintro k hk
 have hsl:=sumLen_take ls k
 refine SC.sR (lU (lS I I) (SL.nT (sQ ?_)))
 refine iP I (fun hlt=>?_) (fun hlt=>?_)
 ·have hkl : k < ls.length:=oM
  have hkr : k < rs.length:=oM
  have hR:=hall.get (gE hkl) (gE hkr)
  have hRl:=hR.len
  have hb1:=hrs.based oM
  have hs1:=sumLen_succ hkl
  have hs2:=sumLen_take ls (k + 1)
  refine kP (tN (sQ (bK (SC.sR (lU (iA uT22 zT27 I I hb1 oM sL) ?_)))))
  refine SL.q (eB iT27 I hrs.rd (gE hkr) I) dC ?_
  refine lA I (SL.nT (SC.sR (lM I (lM I (lU (eN uT27 I) (lU (aD I I oM) (lA I (SL.nT (SC.sR (lM I (lU (lS I I) (SL.nT ?_))))))))))))
  refine iP I (fun hneg=>?_) (fun hneg=>?_)
  ·exfalso
   omega
  ·refine kP (bN (tN (rG (lU (aD I I oM) (lM I (nL ?_))))))
   exact gA (k + 1) ⟨I,vi_eq oM,I,I,I,trivial⟩ I I oM oM
 ·have hkk : ls.take k = ls:=tL oM
  refine xI (tX (tX (bX (tN (SC.sR (lM I (lW (cL call145 I (growNil E g s (sumLen (ls.take k)) oM)) ?_)))))))
  rintro nv _ _ ⟨rfl,rfl⟩
  refine lA I (SL.nT (sQ (SC.sR (lM I (lU (eN uT22 I) (lM I (SL.nT (bK ?_))))))))
  refine oP (ι:=Value × Nat) (fun i=>[(0,.slice p rs.length c),(6,i.1),(25,.slice p rs.length c),(26,vi rs.length),(27,vi i.2)]) (fun _=>g) (fun i=>rowA encInt 3 i.1 (ls.take i.2).flatten :: s) (fun i=>i.2 ≤ rs.length) (fun i=>rs.length - i.2) (nv,0)
   sB rfl rfl (Nat.zero_le _) ?_
  rintro ⟨cv,m⟩ hm
  dsimp only at hm ⊢
  refine SC.sR (lU (lS I I) (SL.nT (sQ ?_)))
  refine iP I (fun hlt2=>?_) (fun hlt2=>?_)
  ·have hml : m < ls.length:=oM
   have hmr : m < rs.length:=oM
   have hR:=hall.get (gE hml) (gE hmr)
   have hb1:=hrs.based oM
   have hs1:=sumLen_succ hml
   have hs2:=sumLen_take ls (m + 1)
   have hs3:=sumLen_flatten (ls.take m)
   refine kP (tN (sQ (bK (SC.sR (lU (iA uT22 zT27 I I hb1 oM sL) ?_)))))
   refine SL.q (eB iT27 I hrs.rd (gE hmr) I) dC ?_
   refine lA I (SL.nT (rG (lM I (lM I (lW (aQ (e:=encInt) 0 sty27 I I I hR oM oM) ?_)))))
   rintro cv' _ _ ⟨rfl,rfl⟩
   refine lA I (nL (bN (tN (rG (lU (aD I I oM) (lM I (nL ?_)))))))
   refine ST.to (fun w hw=>?_) (g':=g) (s':=rowA encInt 3 cv' (ls.take (m + 1)).flatten :: s) ?_
   ·rw [tS hml,List.flatten_append,List.flatten_singleton]; exact hw
   exact gA (cv',m + 1) sB I I lN lN
  ·have hmm : ls.take m = ls:=tL oM
   rw [hmm]
   refine xI (tX (tX (bX (tN (SC.sR (lM I (lA I (SL.nT (rE ?_)))))))))
   exact ST.ret1 (.inl I) results94 I ⟨I,I⟩
def lbL (ls : List (List Int)) (t : List Int) : Nat:=(ls.filter fun x=>decide (compareC x t < 0)).length
theorem lb_gen {α : Type} {p : α → Bool} {l : List α} {i : Nat} (hi : i ≤ l.length) (h1 : ∀ k (h : k < l.length),k < i → p l[k] = true) (h2 : ∀ k (h : k < l.length),i ≤ k → p l[k] = false) : (l.filter p).length = i:=by
 rw [← List.take_append_drop i l,List.filter_append,List.length_append]
 have f1 : (l.take i).filter p = l.take i:=List.filter_eq_self.2 fun x hx=>by
  obtain ⟨k,hk,rfl⟩:=List.getElem_of_mem hx
  rw [List.length_take] at hk
  rw [List.getElem_take]
  exact h1 k oM oM
 have f2 : (l.drop i).filter p = []:=List.filter_eq_nil_iff.2 fun x hx=>by
  obtain ⟨k,hk,rfl⟩:=List.getElem_of_mem hx
  rw [List.length_drop] at hk
  rw [List.getElem_drop,h2 (i + k) oM oM]
  simp
 rw [f1,f2]
 simp
 omega
theorem binSearchL (E : World) (g : PH) (s : Own) (v u : Value) (ls : List (List Int)) (t : List Int) (hv : Lists g v ls) (hu : Ints g u t) (hl : ls.length < 1099511627776) (hll : ∀ x ∈ ls,x.length < 1099511627776)
  (hs : ∀ i j (hi : i < ls.length) (hj : j < ls.length),i < j → compareC ls[j] t < 0 → compareC ls[i] t < 0) :
  Ctr Tryz.prog E 95 #[v,u,.func (.func 91) #[] #[]] g s (fun r g' s'=>(∃ b,r = .tuple #[vi (lbL ls t),vb b]) ∧ g = g' ∧ s = s'):=by
 obtain ⟨rs,hrs,hall⟩:=hv
 have hlen:=hall.length
 obtain ⟨p,c,rfl⟩:=SlA.form hrs
 refine Ctr.of (args:=[.slice p rs.length c,u,.func (.func 91) #[] #[]]) func95 I ntmps95 (bE I) ?_
 refine SC.sR (lA I (lA I (SL.nT (SC.sR (lM I (lU (eN uT22 I) (lA I (SL.nT (SC.sR (lM I (lA I (lA I (SL.nT (sQ (bK ?_)))))))))))))))
 refine oP (ι:=Nat × Nat) (fun q=>[(0,.slice p rs.length c),(1,u),(2,.func (.func 91) #[] #[]),(8,vi rs.length),(9,vi q.1),(10,vi q.2)]) (fun _=>g) (fun _=>s)
  (fun q=>q.1 ≤ q.2 ∧ q.2 ≤ ls.length ∧ (∀ k (h : k < ls.length),k < q.1 → compareC ls[k] t < 0) ∧ ∀ k (h : k < ls.length),q.2 ≤ k → ¬ compareC ls[k] t < 0) (fun q=>q.2 - q.1) (0,ls.length)
  ⟨rfl,rfl,rfl,rfl,rfl,vi_eq oM,trivial⟩ rfl rfl ⟨Nat.zero_le _,lR _,fun k _ h=>absurd h oM,fun k h1 h2=>absurd h1 (by dsimp only at h2; omega)⟩ ?_
 rintro ⟨i,j⟩ ⟨hij,hj,hlo,hhi⟩
 dsimp only at hij hj hlo hhi ⊢
 refine sQ (SC.sR (lM I (lM I (lU (lS I I) (SL.nT ?_)))))
 refine iP I (fun hlt=>?_) (fun hlt=>?_)
 ·have hb1:=hrs.based oM
  have hmid : ((i : Int) + (j : Int)) / 2 = (((i + j) / 2 : Nat) : Int):=oM
  have hml : (i + j) / 2 < ls.length:=oM
  have hmr : (i + j) / 2 < rs.length:=oM
  have hmx : rs[((((i + j) / 2 : Nat) : Int)).toNat]? = some rs[(i + j) / 2]:=gE hmr
  have hR:=hall.get (gE hml) (gE hmr)
  have hxl:=hll _ (gM hml)
  refine kP (tN (bK (SC.sR (lM I (lM I (lU (aD I I oM) (lU (SU.convert uT3 uT139 I) (lU (SU.shr I I dC) (lU (SU.eq (SU.convert uT139 uT3 I) (congrArg vi ((half_int _ oM oM).trans hmid))) (lA I (SL.nT (SC.sR (lM I (lM I (lM I (lU (iA uT22 zT27 I I hb1 oM sL) (lK (eB iT27 I hrs.rd hmx I) (lM I (lW (SO.callV I I (CallV.mk (args:=[_,_]) (cap:=[]) call91 (compareSets E g _ _ _ ls[(i + j) / 2] t hR hu hxl))) ?_)))))))))))))))))))
  rintro _ _ _ ⟨rfl,rfl,rfl⟩
  refine lU (lS I I) (SL.nT ?_)
  refine iP I (fun hc=>?_) (fun hc=>?_)
  ·refine rG (lM I (lU (aD I I oM) (lA I (nL (bN ?_)))))
   refine gA ((i + j) / 2 + 1,j) sB I I ⟨lN,hj,fun k hk h=>?_,hhi⟩ lN
   dsimp only at h
   rcases Nat.eq_or_lt_of_le (show k ≤ (i + j) / 2 by omega) with rfl | h'
   ·exact hc
   ·exact hs k ((i + j) / 2) hk hml h' hc
  ·refine rG (lM I (lA I (nL (bN ?_))))
   refine gA (i,(i + j) / 2) sB I I ⟨lN,lN,hlo,fun k hk h=>?_⟩ lN
   dsimp only at h
   rcases Nat.eq_or_lt_of_le (show (i + j) / 2 ≤ k by omega) with h' | h'
   ·subst h'; exact hc
   ·exact fun hx=>hc (hs ((i + j) / 2) k hml hk h' hx)
 ·have hie : i = j:=oM
  subst hie
  have hlb : lbL ls t = i:=lb_gen hj (fun k h h'=>by simpa using hlo k h h') (fun k h h'=>by simpa using hhi k h h')
  have hx0:=fun h=>hrs.based h
  have hx : (i : Int) < (rs.length : Int) → ∃ r,rs[((i : Nat) : Int).toNat]? = some r ∧ ∃ x,ListR g x r ∧ x.length < 1099511627776:=fun h=>by
   have h2 : i < ls.length:=oM
   have h3 : i < rs.length:=oM
   exact ⟨rs[i],gE h3,ls[i],hall.get (gE h2) (gE h3),hll _ (gM h2)⟩
  by_cases hin : (i : Int) < (rs.length : Int)
  ·obtain ⟨r,hr,x,hxr,hxl⟩:=hx hin
   have hd : decide ((i : Int) < (rs.length : Int)) = true:=decide_eq_true hin
   refine xI (tX (tX (bX (tN (SC.sR (lM I (lM I (lM I (lU (SU.eq (lS I I) (congrArg vb hd)) (lM I (lY I I I (mV I) (lY I I I (mV I) (lY I I I (mV I) (lY I I I (iA uT22 zT27 I I (hx0 oM) oM sL) (SL.gq (gT I I I dC) (eB iT27 I hrs.rd hr I) dC (lY I I I (mV I) (SL.go (gT I I I dC) (SO.callV I I (CallV.mk (args:=[_,_]) (cap:=[]) call91 (compareSets E g _ _ _ x t hxr hu hxl))) dC ?_)))))))))))))))))
   rintro _ _ _ ⟨rfl,rfl,rfl⟩
   refine lY I I I (eQ I I) (lU (pT I I) (lA I (lA I (SL.nT (rE ?_)))))
   exact ST.ret2 (.inl I) results95 I I ⟨⟨_,by rw [hlb]⟩,I,I⟩
  ·have hd : decide ((i : Int) < (rs.length : Int)) = false:=decide_eq_false hin
   refine xI (tX (tX (bX (tN (SC.sR (lM I (lM I (lM I (lU (SU.eq (lS I I) (congrArg vb hd)) (lM I (lZ I I I (lZ I I I (lZ I I I (lZ I I I (lZ I I I (lZ I I I (lZ I I I (lZ I I I (lU (pF I I) (lA I (lA I (SL.nT (rE ?_)))))))))))))))))))))))
   exact ST.ret2 (.inl I) results95 I I ⟨⟨_,by rw [hlb]⟩,I,I⟩
theorem cmpI_cases (a b : Int) : (a < b ∧ cmpI a b = -1) ∨ (a = b ∧ cmpI a b = 0) ∨ (b < a ∧ cmpI a b = 1):=by
 unfold cmpI
 by_cases h : a < b
 ·exact .inl ⟨h,if_pos h⟩
 ·by_cases h2 : a > b
  ·exact .inr (.inr ⟨h2,by rw [if_neg h,if_pos h2]⟩)
  ·exact .inr (.inl ⟨oM,by rw [if_neg h,if_neg h2]⟩)
theorem cmpL_antisymm : ∀ a b : List Int,cmpL b a = - cmpL a b
 | [],[]=>rfl
 | [],_ :: _=>rfl
 | _ :: _,[]=>rfl
 | x :: a,y :: b=>by
  have ih:=cmpL_antisymm a b
  simp only [cmpL]
  rcases cmpI_cases x y with ⟨h,e⟩ | ⟨h,e⟩ | ⟨h,e⟩ <;> rcases cmpI_cases y x with ⟨h',e'⟩ | ⟨h',e'⟩ | ⟨h',e'⟩ <;> simp [e,e'] <;> omega
theorem cmpL_eq : ∀ a b : List Int,cmpL a b = 0 ↔ a = b
 | [],[]=>by simp [cmpL]
 | [],_ :: _=>by simp [cmpL]
 | _ :: _,[]=>by simp [cmpL]
 | x :: a,y :: b=>by
  have ih:=cmpL_eq a b
  simp only [cmpL]
  rcases cmpI_cases x y with ⟨h,e⟩ | ⟨h,e⟩ | ⟨h,e⟩
  ·simp [e]; omega
  ·subst h; simp [e,ih]
  ·simp [e]; omega
theorem cmpL_trans : ∀ a b c : List Int,cmpL a b < 0 → cmpL b c < 0 → cmpL a c < 0
 | [],[],_,h,_=>by simp [cmpL] at h
 | [],_ :: _,[],_,h=>by simp [cmpL] at h
 | [],_ :: _,_ :: _,_,_=>by simp [cmpL]
 | _ :: _,[],_,h,_=>by simp [cmpL] at h
 | _ :: _,_ :: _,[],_,h=>by simp [cmpL] at h
 | x :: a,y :: b,z :: c,h1,h2=>by
  have ih:=cmpL_trans a b c
  simp only [cmpL] at h1 h2 ⊢
  rcases cmpI_cases x y with ⟨h,e⟩ | ⟨h,e⟩ | ⟨h,e⟩ <;> rcases cmpI_cases y z with ⟨h',e'⟩ | ⟨h',e'⟩ | ⟨h',e'⟩ <;> rcases cmpI_cases x z with ⟨h'',e''⟩ | ⟨h'',e''⟩ | ⟨h'',e''⟩ <;> simp [e,e',e''] at h1 h2 ⊢ <;> first | omega | exact ih h1 h2
theorem compareC_antisymm (a b : List Int) : compareC b a = - compareC a b:=by
 have h1:=cmpL_antisymm a b
 unfold compareC
 rcases cmpI_cases a.length b.length with ⟨h,e⟩ | ⟨h,e⟩ | ⟨h,e⟩ <;> rcases cmpI_cases b.length a.length with ⟨h',e'⟩ | ⟨h',e'⟩ | ⟨h',e'⟩ <;> simp [e,e'] <;> omega
theorem compareC_eq (a b : List Int) : compareC a b = 0 ↔ a = b:=by
 have h1:=cmpL_eq a b
 unfold compareC
 rcases cmpI_cases a.length b.length with ⟨h,e⟩ | ⟨h,e⟩ | ⟨h,e⟩
 ·simp [e]; intro h2; rw [h2] at h; omega
 ·simp [e,h1]
 ·simp [e]; intro h2; rw [h2] at h; omega
theorem compareC_trans (a b c : List Int) (h1 : compareC a b < 0) (h2 : compareC b c < 0) : compareC a c < 0:=by
 have ih:=cmpL_trans a b c
 unfold compareC at *
 rcases cmpI_cases a.length b.length with ⟨h,e⟩ | ⟨h,e⟩ | ⟨h,e⟩ <;> rcases cmpI_cases b.length c.length with ⟨h',e'⟩ | ⟨h',e'⟩ | ⟨h',e'⟩ <;> rcases cmpI_cases a.length c.length with ⟨h'',e''⟩ | ⟨h'',e''⟩ | ⟨h'',e''⟩ <;> simp [e,e',e''] at h1 h2 ⊢ <;> first | omega | exact ih h1 h2
theorem compareC_self (a : List Int) : compareC a a = 0:=(compareC_eq a a).2 rfl
theorem compareC_cases (a b : List Int) : compareC a b < 0 ∨ a = b ∨ compareC b a < 0:=by
 have h1:=compareC_antisymm a b
 rcases Int.lt_trichotomy (compareC a b) 0 with h | h | h
 ·exact .inl h
 ·exact .inr (.inl ((compareC_eq a b).1 h))
 ·exact .inr (.inr oM)
theorem compareC_ntrans (a b c : List Int) (h1 : ¬ compareC a b < 0) (h2 : ¬ compareC b c < 0) : ¬ compareC a c < 0:=by
 intro h3
 rcases compareC_cases a b with h | h | h
 ·exact h1 h
 ·subst h; exact h2 h3
 ·exact h2 (compareC_trans b a c h h3)
def SrtL (l : List (List Int)) : Prop:=l.Pairwise fun a b=>¬ compareC b a < 0
def insL (x : List Int) : List (List Int) → List (List Int)
 | []=>[x]
 | y :: r=>if compareC y x < 0 then y :: insL x r else x :: y :: r
def sortL : List (List Int) → List (List Int)
 | []=>[]
 | x :: r=>insL x (sortL r)
theorem insL_perm (x : List Int) : ∀ l,(insL x l).Perm (x :: l)
 | []=>.refl _
 | y :: r=>by
  unfold insL
  split
  ·exact ((insL_perm x r).cons y).trans (.swap x y r)
  ·exact .refl _
theorem sortL_perm : ∀ l,(sortL l).Perm l
 | []=>.refl _
 | x :: r=>(insL_perm x (sortL r)).trans ((sortL_perm r).cons x)
theorem insL_srt (x : List Int) : ∀ {l},SrtL l → SrtL (insL x l)
 | [],_=>List.pairwise_singleton _ _
 | y :: r,h=>by
  obtain ⟨h1,h2⟩:=List.pairwise_cons.1 h
  unfold insL
  split
  ·rename_i hy
   refine List.pairwise_cons.2 ⟨fun z hz=>?_,insL_srt x h2⟩
   rcases List.mem_cons.1 ((insL_perm x r).subset hz) with rfl | hz
   ·intro h3; have:=compareC_trans y z y hy h3; rw [compareC_self] at this; omega
   ·exact h1 z hz
  ·rename_i hy
   refine List.pairwise_cons.2 ⟨fun z hz=>?_,h⟩
   rcases List.mem_cons.1 hz with rfl | hz
   ·exact hy
   ·exact compareC_ntrans z y x (h1 z hz) hy
theorem sortL_srt : ∀ l,SrtL (sortL l)
 | []=>List.Pairwise.nil
 | x :: r=>insL_srt x (sortL_srt r)
theorem srtL_unique : ∀ {l m : List (List Int)},SrtL l → SrtL m → l.Perm m → l = m
 | [],m,_,_,h=>(List.nil_perm.1 h).symm
 | x :: l,[],_,_,h=>by have:=h.length_eq; simp at this
 | x :: l,y :: m,hl,hm,h=>by
  obtain ⟨h1,h2⟩:=List.pairwise_cons.1 hl
  obtain ⟨h3,h4⟩:=List.pairwise_cons.1 hm
  have hxy : x = y:=by
   have hx : x ∈ y :: m:=h.subset (by simp)
   have hy : y ∈ x :: l:=h.symm.subset (by simp)
   rcases List.mem_cons.1 hx with e | hx
   ·exact e
   ·rcases List.mem_cons.1 hy with e | hy
    ·exact e.symm
    ·rcases compareC_cases x y with h5 | h5 | h5
     ·exact absurd h5 (h3 x hx)
     ·exact h5
     ·exact absurd h5 (h1 y hy)
  subst hxy
  rw [srtL_unique h2 h4 (h.cons_inv)]
open Go Go.Sy Go.Pl Go.Proofs Go.Shelf Go.Sort
def Tryz.sortF_ren : Ren :=
 {
  f:=fun x =>
   match x with
   | 6=>90
   | 15=>141
   | 14=>142
   | 28=>167
   | 29=>168
   | 20=>169
   | 21=>170
   | 22=>171
   | 23=>172
   | 24=>173
   | 25=>174
   | 26=>175
   | 27=>176
   | 46=>193
   | 47=>189
   | 48=>190
   | 49=>194
   | 50=>195
   | 57=>203
   | n=>n,
  t:=fun x =>
   match x with
   | 22=>22
   | 24=>27
   | 25=>114
   | 3=>3
   | 39=>139
   | 0=>0
   | 53=>176
   | 55=>158
   | 4=>4
   | 46=>170
   | 45=>169
   | 50=>95
   | 5=>5
   | 9=>9
   | 66=>197
   | 70=>201
   | 76=>209
   | 77=>210
   | n=>n,
  g:=fun x =>
   have n:=x;
   n }
theorem Tryz.sortF : SlLaysF.n6 Tryz.prog Tryz.sortF_ren :=
  {
  mixed:=Eq.refl true,
  f6 :=
   Exists.intro "slices.SortFunc[[][]int,[]int]"
    ⟨of_decide_eq_true (id (Eq.refl true)),
     Eq.trans func90
      (congrArg some
       (by kernel_rfl))⟩,
  f14 :=
   Exists.intro "slices.pdqsortCmpFunc[[]int]"
    ⟨of_decide_eq_true (id (Eq.refl true)),
     Eq.trans func142
      (congrArg some
       (by kernel_rfl))⟩,
  f15:=Eq.trans func141 (congrArg some (by kernel_rfl)),
  f20 :=
   Exists.intro "slices.insertionSortCmpFunc[[]int]"
    ⟨of_decide_eq_true (id (Eq.refl true)),
     Eq.trans func169
      (congrArg some
       (by kernel_rfl))⟩,
  f21 :=
   Exists.intro "slices.heapSortCmpFunc[[]int]"
    ⟨of_decide_eq_true (id (Eq.refl true)),
     Eq.trans func170
      (congrArg some
       (by kernel_rfl))⟩,
  f22 :=
   Exists.intro "slices.breakPatternsCmpFunc[[]int]"
    ⟨of_decide_eq_true (id (Eq.refl true)),
     Eq.trans func171
      (congrArg some
       (by kernel_rfl))⟩,
  f23 :=
   Exists.intro "slices.choosePivotCmpFunc[[]int]"
    ⟨of_decide_eq_true (id (Eq.refl true)),
     Eq.trans func172
      (congrArg some
       (by kernel_rfl))⟩,
  f24 :=
   Exists.intro "slices.reverseRangeCmpFunc[[]int]"
    ⟨of_decide_eq_true (id (Eq.refl true)),
     Eq.trans func173
      (congrArg some
       (by kernel_rfl))⟩,
  f25 :=
   Exists.intro "slices.partialInsertionSortCmpFunc[[]int]"
    ⟨of_decide_eq_true (id (Eq.refl true)),
     Eq.trans func174
      (congrArg some
       (by kernel_rfl))⟩,
  f26 :=
   Exists.intro "slices.partitionEqualCmpFunc[[]int]"
    ⟨of_decide_eq_true (id (Eq.refl true)),
     Eq.trans func175
      (congrArg some
       (by kernel_rfl))⟩,
  f27 :=
   Exists.intro "slices.partitionCmpFunc[[]int]"
    ⟨of_decide_eq_true (id (Eq.refl true)),
     Eq.trans func176
      (congrArg some
       (by kernel_rfl))⟩,
  f28:=Eq.trans func167 (congrArg some (by kernel_rfl)),
  f29:=Eq.trans func168 (congrArg some (by kernel_rfl)),
  f46 :=
   Exists.intro "slices.siftDownCmpFunc[[]int]"
    ⟨of_decide_eq_true (id (Eq.refl true)),
     Eq.trans func193
      (congrArg some
       (by kernel_rfl))⟩,
  f47:=Eq.trans func189 (congrArg some (by kernel_rfl)),
  f48:=Eq.trans func190 (congrArg some (by kernel_rfl)),
  f49 :=
   Exists.intro "slices.medianAdjacentCmpFunc[[]int]"
    ⟨of_decide_eq_true (id (Eq.refl true)),
     Eq.trans func194
      (congrArg some
       (by kernel_rfl))⟩,
  f50 :=
   Exists.intro "slices.medianCmpFunc[[]int]"
    ⟨of_decide_eq_true (id (Eq.refl true)),
     Eq.trans func195
      (congrArg some
       (by kernel_rfl))⟩,
  f57 :=
   Exists.intro "slices.order2CmpFunc[[]int]"
    ⟨of_decide_eq_true (id (Eq.refl true)),
     Eq.trans func203
      (congrArg some
       (by kernel_rfl))⟩,
  t0:=underlying0,a0:=isAgg0,z0:=sizeOf0,v0:=zeroValue0,t3:=uT3,
  a3:=iT3,z3:=zT3,v3:=zeroValue3,t4:=underlying4,a4:=isAgg4,
  z4:=sizeOf4,v4:=zeroValue4,t5:=uT5,a5:=isAgg5,z5:=sizeOf5,
  v5:=zeroValue5,t9:=underlying9,a9:=isAgg9,z9:=sizeOf9,v9:=zeroValue9,
  t22:=uT22,a22:=isAgg22,z22:=sizeOf22,v22:=zeroValue22,a24:=iT27,
  z24:=zT27,t25:=underlying114,a25:=isAgg114,z25:=sizeOf114,
  v25:=zeroValue114,t39:=uT139,a39:=isAgg139,z39:=sizeOf139,
  v39:=zeroValue139,t45:=underlying169,a45:=isAgg169,z45:=sizeOf169,
  v45:=zeroValue169,t46:=underlying170,a46:=isAgg170,z46:=sizeOf170,
  v46:=zeroValue170,t50:=underlying95,a50:=isAgg95,z50:=sizeOf95,
  v50:=zeroValue95,t53:=underlying176,a53:=isAgg176,z53:=sizeOf176,
  v53:=zeroValue176,t55:=underlying158,a55:=isAgg158,z55:=sizeOf158,
  v55:=zeroValue158,t66:=underlying197,a66:=isAgg197,z66:=sizeOf197,
  v66:=zeroValue197,t70:=underlying201,a70:=isAgg201,z70:=sizeOf201,
  v70:=zeroValue201,t76:=underlying209,a76:=isAgg209,z76:=sizeOf209,
  v76:=zeroValue209,t77:=underlying210,a77:=isAgg210,z77:=sizeOf210,
  v77:=zeroValue210 }
structure LV (g : PH) where
 sv : Sv
 l : List Int
 h : ListR g l sv
 len : l.length < 1099511627776
def LV.val {g : PH} (x : LV g) : Value:=.slice x.sv.p x.sv.n x.sv.c
def encLV (g : PH) : Enc (LV g) 1:=⟨fun x=>[x.val],fun _=>rfl,fun _ u hu=>by simp at hu; subst hu; rfl,by decide⟩
instance (g : PH) : Inhabited (LV g):=⟨⟨⟨none,0,0⟩,[],Sl.nil g 1,by decide⟩⟩
theorem flat_LV {g : PH} (l : List (LV g)) : l.flatMap (encLV g).enc = l.map LV.val:=by
 induction l with
 | nil=>rfl
 | cons a t ih=>simp only [List.flatMap_cons,List.map_cons,ih]; rfl
def allOf (W : World) : PH:=fun b=>W.heap[b]?
theorem at_all (W : World) : At W (allOf W) [] W:=⟨rfl,⟨rfl,Nat.le_refl _⟩,rfl,fun _ _ h=>h,by simp,by simp,List.Pairwise.nil⟩
theorem at_grown {W w' : World} (h : At W (allOf W) [] w') : ∃ q os',w' = grow (W.drewN q) os':=by
 refine ⟨w'.drawn - W.drawn,w'.heap.extract W.heap.size,?_⟩
 have hpre : ∀ k,k < W.heap.size → w'.heap[k]? = W.heap[k]?:=fun k hk=>by
  rw [h.known k W.heap[k] (by simp [allOf,hk]),Array.getElem?_eq_getElem hk]
 have hsz : W.heap.size ≤ w'.heap.size:=by
  rcases Nat.eq_zero_or_pos W.heap.size with h0 | h0
  ·omega
  ·have:=hpre (W.heap.size - 1) oM
   rw [Array.getElem?_eq_getElem (xs:=W.heap) oM] at this
   have:=(Array.getElem?_eq_some_iff.1 this).1
   omega
 have hheap : w'.heap = W.heap ++ w'.heap.extract W.heap.size:=by
  apply Array.ext_getElem?
  intro k
  rw [Array.getElem?_append]
  split
  ·exact hpre k (by assumption)
  ·rename_i hk
   rw [Array.getElem?_extract]
   by_cases hk2 : k < w'.heap.size
   ·rw [if_pos oM]; congr 1; omega
   ·rw [if_neg oM,Array.getElem?_eq_none oM]
 obtain ⟨hp,tp,dr,osx,ou⟩:=w'
 have h1:=h.os; have h2:=h.tape; have h3:=h.output
 simp only at h1 h2 h3 hheap
 simp only [grow,World.drewN]
 obtain ⟨h2a,h2b⟩:=h2
 subst h1; subst h2a; subst h3
 congr 1
 omega
theorem cmpLays {E : World} {g : PH} {s : Own} {l : List (LV g)} {w : World} {b off : Nat} (hw : At E g s w) (hb : g b = none) : CmpLays1 Tryz.prog 91 #[] (LV.val (g:=g)) (fun x y=>compareC x.l y.l) b off l.toArray.size w:=by
 intro m os dk hs x y
 have hle : Le g (allOf (sortWorld LV.val w b off m dk os)):=fun k o hk=>by
  have h1:=hw.known k o hk
  have hlt:=hw.lt hk
  have hne : b ≠ k:=fun e=>by rw [e] at hb; rw [hb] at hk; cases hk
  show (grow (putRow LV.val (Sort.ahead w m) b off dk) os).heap[k]? = some o
  rw [heap_grow_old _ _ (by simpa using hlt)]
  simp [putRow,mapBlock,Sort.ahead,Array.getElem?_modify,hne,h1]
 have h2:=compareSets (sortWorld LV.val w b off m dk os) (allOf _) [] x.val y.val x.l y.l (SlA.mono x.h hle) (SlA.mono y.h hle) x.len _ (at_all _)
 refine h2.mono ?_
 rintro e w' ⟨v',g',s',rfl,hat,rfl,rfl,rfl⟩
 exact ⟨I,at_grown hat⟩
theorem sortFuncAny (E : World) (g : PH) (s : Own) (v : Value) (l : List (LV g)) (h0 : 0 < l.length) (hl : l.length < 1099511627776) :
  Ctr Tryz.prog E 90 #[v,.func (.func 91) #[] #[]] g (rowA (encLV g) 27 v l :: s) (fun _ g' s'=>g = g' ∧ ∃ l' : List (LV g),l'.Perm l ∧ l'.map LV.l = sortL (l.map LV.l) ∧ s' = rowA (encLV g) 27 v l' :: s):=by
 intro w hw
 obtain ⟨h1,h2⟩:=row_is (i:=0) hw rfl
 rcases h2 with ⟨p,rfl,hn⟩ | ⟨b,cap,cur,rfl,hb,hle,hcm,hcs,ht⟩
 ·omega
 ·have hfr:=hw.fresh _ (by simp : rowA (encLV g) 27 (.slice (some ⟨b,0,none⟩) l.length (cap + 1)) l ∈ _) b rfl
  have hblt:=(Array.getElem?_eq_some_iff.1 hb).1
  have ht' : cur.toList.take l.length = l.map LV.val:=by rw [← flat_LV]; simpa using ht
  have hH : Holds LV.val w b 0 l.toArray:=by
   intro j hj
   have hj' : j < l.length:=by simpa using hj
   refine ⟨?_,by simp [World.frozen?,hb]⟩
   have h1 : (cur.toList.take l.length)[j]? = (l.map LV.val)[j]?:=by rw [ht']
   rw [List.getElem?_take_of_lt hj'] at h1
   simp only [World.cell?,hb,Nat.zero_add]
   simp only [Option.isSome_none,Bool.false_eq_true,if_false]
   rw [← Array.getElem?_toList,h1]
   simp [hj']
  have hswo : SWO (ltOf fun x y : LV g=>compareC x.l y.l):=⟨fun x=>by simp [ltOf,compareC_self],fun x y z h1 h2=>by simp [ltOf] at *; exact compareC_trans _ _ _ h1 h2,fun x y z h1 h2=>by
   simp only [ltOf,decide_eq_false_iff_not] at *; exact compareC_ntrans _ _ _ h1 h2⟩
  refine (Any.slices_SortFunc Tryz.sortF LV.val (fun _=>I) (fun x y : LV g=>compareC x.l y.l) hswo 91 #[] b 0 (cap + 1) l.toArray w call91 (cmpLays hw hfr.1) hH hblt (by simp; omega)).mono ?_
  rintro e w' ⟨rfl,d',n,os,hp,hsd,rfl⟩
  obtain ⟨d'⟩:=d'
  have hdl : d'.length = l.length:=by have:=hp.1; simpa using this
  have hperm : d'.Perm l:=by
   have h5:=hp.2.2
   simp only [List.size_toArray,List.extract_toArray] at h5
   simpa [List.extract_eq_take_drop,hdl,tL (Nat.le_of_eq hdl)] using h5
  have hsrt : SrtL (d'.map LV.l):=by
   rw [SrtL,List.pairwise_map,List.pairwise_iff_getElem]
   intro i j hi hj hij
   have h5:=hsd i j (Nat.zero_le _) hij (by simp; omega)
   simp only [ltOf,decide_eq_false_iff_not] at h5
   simpa [hi,hj] using h5
  have huni : d'.map LV.l = sortL (l.map LV.l):=srtL_unique hsrt (sortL_srt _) ((hperm.map _).trans (sortL_perm _).symm)
  refine ⟨_,g,rowA (encLV g) 27 (.slice (some ⟨b,0,none⟩) l.length (cap + 1)) d' :: s,I,?_,I,d',hperm,huni,I⟩
  have h5 : (sortWorld LV.val w b 0 n d'.toArray os).heap[b]? = some (.cells (putCells LV.val 0 d'.toArray cur) 27 (0,0)):=by
   show (grow (putRow LV.val (Sort.ahead w n) b 0 d'.toArray) os).heap[b]? = _
   rw [heap_grow_old _ _ (by simpa using hblt)]
   simp [putRow,mapBlock,Sort.ahead,Array.getElem?_modify,hb,onCells]
  have h6:=hw.turn (i:=0) (w':=sortWorld LV.val w b 0 n d'.toArray os) (e':=rowA (encLV g) 27 (.slice (some ⟨b,0,none⟩) l.length (cap + 1)) d') rfl rfl ⟨rfl,Nat.le_add_right _ _⟩ rfl (by simp [sortWorld,grow,putRow,mapBlock,Sort.ahead]) (fun k hk hne=>by
    have hne' : b ≠ k:=fun e=>hne (by rw [e]; rfl)
    show (grow (putRow LV.val (Sort.ahead w n) b 0 d'.toArray) os).heap[k]? = _
    rw [heap_grow_old _ _ (by simpa using hk)]
    simp [putRow,mapBlock,Sort.ahead,Array.getElem?_modify,hne']) (by
    have:=row_holds (w:=sortWorld LV.val w b 0 n d'.toArray os) (T:=27) (k:=1) (n:=d'.length) (b:=b) (cap:=cap) (xs:=d'.flatMap (encLV g).enc) (by rw [(encLV g).length]) h5 oM hcm (by simp [putCells]; simpa using hcs) (by
     rw [flat_LV,Nat.mul_one]
     apply List.ext_getElem?
     intro j
     by_cases hj : j < d'.length
     ·rw [List.getElem?_take_of_lt hj,Array.getElem?_toList]
      simp [putCells,hj,show j < cur.size by omega]
     ·rw [List.getElem?_take_eq_none oM,List.getElem?_eq_none (by simp; omega)])
    rw [show rowA (encLV g) 27 (.slice (some ⟨b,0,none⟩) l.length (cap + 1)) d' = row 27 1 (.slice (some ⟨b,0,none⟩) d'.length (cap + 1)) d'.length (d'.flatMap (encLV g).enc) by simp only [rowA,hdl]]
    exact this) (fun b' hb'=>by
    simp only [rowA,row,rblk,Option.some.injEq] at hb'
    subst hb'
    exact ⟨(Array.getElem?_eq_some_iff.1 h5).1,.inl I⟩)
  exact h6
end Go.Proofs.YtkdibcicncjpdaaGreatDoor
