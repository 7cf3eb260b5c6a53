/- San Ref1 Ref2 Ref3 -/
import Derived.Test.YtkdibcicncjpdaaGreatDoorCl06
set_option linter.unusedSimpArgs false
set_option linter.unusedVariables false
namespace Go.Proofs.YtkdibcicncjpdaaGreatDoor
open _root_.Go.Proofs.Tryz _root_.Go.Proofs.YtkdibcicncjpdaaGreatDoor.Tryz
open Go Go.Sy Go.Pl Go.Proofs
set_option maxRecDepth 100000
theorem CellO.form {c : Cl} {r : Rc} (h : CellO c r) : ∃ p d,r = ⟨c.id,c.dim,⟨p,c.sides.length,d⟩⟩:=by
 obtain ⟨i,dm,p,n,d⟩:=r
 obtain ⟨h1,h2,h3⟩:=h
 dsimp only at h1 h2 h3
 subst h1 h2 h3
 exact ⟨p,d,I⟩
theorem All2.cons_left {α β : Type} {R : α → β → Prop} {a : α} {l : List α} {m : List β} (h : All2 R (a :: l) m) : ∃ b m',m = b :: m' ∧ R a b ∧ All2 R l m':=by
 cases m with
 | nil=>exact h.elim
 | cons b m=>exact ⟨b,m,rfl,h.1,h.2⟩
theorem All2.nil_left {α β : Type} {R : α → β → Prop} {m : List β} (h : All2 R ([] : List α) m) : m = []:=by
 cases m with
 | nil=>rfl
 | cons b m=>exact h.elim
def triRs (p1 p2 p3 p4 p5 p6 p7 : Option Addr) (d1 d2 d3 d4 d5 d6 d7 : Nat) : List Rc :=
 [⟨1,0,⟨p1,0,d1⟩⟩,⟨2,0,⟨p2,0,d2⟩⟩,⟨3,0,⟨p3,0,d3⟩⟩,⟨4,1,⟨p4,2,d4⟩⟩,⟨5,1,⟨p5,2,d5⟩⟩,⟨6,1,⟨p6,2,d6⟩⟩,⟨7,2,⟨p7,3,d7⟩⟩]
theorem tri_rs {rs : List Rc} (h : All2 CellO triL rs) : ∃ p1 p2 p3 p4 p5 p6 p7 d1 d2 d3 d4 d5 d6 d7,rs = triRs p1 p2 p3 p4 p5 p6 p7 d1 d2 d3 d4 d5 d6 d7:=by
 obtain ⟨r1,rs,rfl,h1,h⟩:=All2.cons_left h
 obtain ⟨r2,rs,rfl,h2,h⟩:=All2.cons_left h
 obtain ⟨r3,rs,rfl,h3,h⟩:=All2.cons_left h
 obtain ⟨r4,rs,rfl,h4,h⟩:=All2.cons_left h
 obtain ⟨r5,rs,rfl,h5,h⟩:=All2.cons_left h
 obtain ⟨r6,rs,rfl,h6,h⟩:=All2.cons_left h
 obtain ⟨r7,rs,rfl,h7,h⟩:=All2.cons_left h
 have:=All2.nil_left h
 subst this
 obtain ⟨p1,d1,rfl⟩:=h1.form
 obtain ⟨p2,d2,rfl⟩:=h2.form
 obtain ⟨p3,d3,rfl⟩:=h3.form
 obtain ⟨p4,d4,rfl⟩:=h4.form
 obtain ⟨p5,d5,rfl⟩:=h5.form
 obtain ⟨p6,d6,rfl⟩:=h6.form
 obtain ⟨p7,d7,rfl⟩:=h7.form
 exact ⟨p1,p2,p3,p4,p5,p6,p7,d1,d2,d3,d4,d5,d6,d7,I⟩
theorem turn_o (p1 p2 p3 p4 p5 p6 p7 : Option Addr) (d1 d2 d3 d4 d5 d6 d7 : Nat) : All2 CellO turnL (triRs p1 p2 p3 p4 p5 p6 p7 d1 d2 d3 d4 d5 d6 d7) :=
 ⟨⟨rfl,rfl,rfl⟩,⟨rfl,rfl,rfl⟩,⟨rfl,rfl,rfl⟩,⟨rfl,rfl,rfl⟩,⟨rfl,rfl,rfl⟩,⟨rfl,rfl,rfl⟩,⟨rfl,rfl,rfl⟩,trivial⟩
theorem less_o (p1 p2 p3 p4 p5 p6 p7 : Option Addr) (d1 d2 d3 d4 d5 d6 d7 : Nat) : All2 CellO lessL ((triRs p1 p2 p3 p4 p5 p6 p7 d1 d2 d3 d4 d5 d6 d7).eraseIdx 4) :=
 ⟨⟨rfl,rfl,rfl⟩,⟨rfl,rfl,rfl⟩,⟨rfl,rfl,rfl⟩,⟨rfl,rfl,rfl⟩,⟨rfl,rfl,rfl⟩,⟨rfl,rfl,rfl⟩,trivial⟩
theorem SU.eqlSideT {N : Nat} {f : Fr} {dst : Option Tmp} {ty : TypeId} {pos : String} {af : Array Edge} {gd : Option (Nat × Bool)} {x y : Operand} (a : Side) {U : TypeId} (hx : ev f x = some (.agg (encSide.enc a).toArray)) (hy : ev f y = some (.agg (encSide.enc a).toArray)) :
  SU Tryz.prog N ⟨dst,.binOp .eql 42 x y U,ty,pos,af,gd⟩ f (vb true):=SU.eq (SU.eqlSide a a hx hy) (congrArg vb (decide_eq_true rfl))
theorem cellR_form {g : PH} {c : Cl} {r : Rc} (h : CellR g c r) : ∃ p d,r = ⟨c.id,c.dim,⟨p,c.sides.length,d⟩⟩ ∧ SlA encSide g (.slice p c.sides.length d) c.sides:=by
 obtain ⟨i,dm,p,n,d⟩:=r
 obtain ⟨h1,h2,h3⟩:=h
 dsimp only at h1 h2 h3
 have h4:=(SlA.cap h3).1
 subst h1 h2 h4
 exact ⟨p,d,I,h3⟩
theorem less_at {E : World} {g : PH} {w : World} {X Y : Ent} {R : Own} {p1 p2 p3 p4 p5 p6 p7 : Option Addr} {d1 d2 d3 d4 d5 d6 d7 : Nat} (h : At E g (X :: Y :: (ownS triL (triRs p1 p2 p3 p4 p5 p6 p7 d1 d2 d3 d4 d5 d6 d7) ++ R)) w) :
  At E g (Y :: (ownS lessL ((triRs p1 p2 p3 p4 p5 p6 p7 d1 d2 d3 d4 d5 d6 d7).eraseIdx 4) ++ (X :: R))) w :=
 (h.sublist (s':=X :: ((Y :: ownS lessL ((triRs p1 p2 p3 p4 p5 p6 p7 d1 d2 d3 d4 d5 d6 d7).eraseIdx 4)) ++ R)) (.cons_cons _ (.cons_cons _ (.cons_cons _ (.cons_cons _ (.cons_cons _ (.cons_cons _ (.cons _ (.refl _))))))))).perm (List.perm_middle (l₁:=Y :: ownS lessL ((triRs p1 p2 p3 p4 p5 p6 p7 d1 d2 d3 d4 d5 d6 d7).eraseIdx 4))).symm
theorem turn_at {E : World} {g : PH} {w : World} {X Y : Ent} {R : Own} {p1 p2 p3 p4 p5 p6 p7 : Option Addr} {d1 d2 d3 d4 d5 d6 d7 : Nat} (h : At E g (X :: Y :: (ownS turnL (triRs p1 p2 p3 p4 p5 p6 p7 d1 d2 d3 d4 d5 d6 d7) ++ R)) w) :
  At E g (Y :: (ownS turnL (triRs p1 p2 p3 p4 p5 p6 p7 d1 d2 d3 d4 d5 d6 d7) ++ (X :: R))) w :=
 h.perm (List.perm_middle (l₁:=Y :: ownS turnL (triRs p1 p2 p3 p4 p5 p6 p7 d1 d2 d3 d4 d5 d6 d7))).symm
theorem tri_ids : ∀ c ∈ triL,inI64 c.id:=by unfold inI64; decide
theorem sanity_spec (E : World) (hE : E.drawn = 0) (g : PH) (s : Own) : Ctr Tryz.prog E 6 #[] g s (fun r g' s'=>r = vb true ∧ s = s' ∧ Le g g'):=by
 refine Ctr.of (args:=[]) func6 I ntmps6 (bE I) ?_
 refine SC.sR (lA I (SL.nT (SC.sR (lW (cL call26 I (triangle_spec E g s)) ?_))))
 rintro _ g1 _ ⟨rfl,hle1,u,rfl,hu⟩
 obtain ⟨q,d,rfl⟩:=hu.form
 refine SL.bx (aL zeroValue31) fun b1=>?_
 refine SL.O2 (sK 0 zT31 I I I I I sB) ?_
 refine SL.nT (SC.sR (lK (qV 0 iT31 zT31 I I I) (lW (cL call27 I (find_spec E g1 _ _ triL 7 hu tri_fits)) ?_)))
 rintro _ g2 _ ⟨rfl,hle2,x,rfl,hx⟩
 rw [tri_find7] at hx
 rw [tri_find7]
 obtain ⟨xp,xd,rfl,hxs⟩:=cellR_form (c:=⟨7,2,[⟨4,1⟩,⟨5,-1⟩,⟨6,1⟩]⟩) hx
 have hbx : based (.slice xp 3 xd) = true:=hxs.based dC
 have hu2:=hu.mono hle2
 refine lM I (lU (xT I I) (lU (xT I I) (SL.bx (aL zeroValue40) fun b2=>?_)))
 refine SL.O2 (sK 0 zT40 I I I I I sB) ?_
 refine lA I (SL.nT (SC.sR (lK (qV 1 iT31 zT31 I I I) (lW (cL call27 I (find_spec E g2 _ _ triL 4 hu2 tri_fits)) ?_))))
 rintro _ g3 _ ⟨rfl,hle3,y,rfl,hy⟩
 rw [tri_find4] at hy
 rw [tri_find4]
 obtain ⟨yp,yd,rfl,hys⟩:=cellR_form (c:=⟨4,1,[⟨1,-1⟩,⟨2,1⟩]⟩) hy
 have hby : based (.slice yp 2 yd) = true:=hys.based dC
 have hu3:=hu2.mono hle3
 have hxs3:=hxs.mono hle3
 refine lM I (lU (xT I I) (lU (xT I I) (SL.bx (aL zeroValue40) fun b4=>?_)))
 refine SL.O2 (sK 0 zT40 I I I I I sB) ?_
 refine lA I (SL.nT (sQ (sQ ?_)))
 refine SC.to (fun w hw=>hw) (g':=g3) (s':=pt b4 (.cells #[vi 4,vi 1,.slice yp 2 yd] 40 (0,0)) :: pt b2 (.cells #[vi 7,vi 2,.slice xp 3 xd] 40 (0,0)) :: pt b1 (.cells #[.slice q triL.length d] 31 (0,0)) :: s) ?_
 refine rG (lM I (lU (SU.not I) (lM I ?_)))
 first | refine SL.gu (gT rfl rfl rfl dC) (mV rfl) dC ?_ | refine SL.off (gF rfl rfl rfl dC) dC ?_ | refine SL.off (Gd.off rfl rfl rfl dC) dC ?_
 first | refine SL.gu (gT rfl rfl rfl dC) (SU.not rfl) dC ?_ | refine SL.off (gF rfl rfl rfl dC) dC ?_ | refine SL.off (Gd.off rfl rfl rfl dC) dC ?_
 refine lU (pF I I) (lM I ?_)
 first | refine SL.gu (gT rfl rfl rfl dC) (fA uT40 rfl zT38 rfl) dC ?_ | refine SL.off (gF rfl rfl rfl dC) dC ?_ | refine SL.off (Gd.off rfl rfl rfl dC) dC ?_
 first | refine SL.gq (gT rfl rfl rfl dC) (qL (v:=.slice xp 3 xd) iT38 rfl (cO 1 rfl rfl)) dC ?_ | refine SL.off (gF rfl rfl rfl dC) dC ?_ | refine SL.off (Gd.off rfl rfl rfl dC) dC ?_
 first | refine SL.gu (gT rfl rfl rfl dC) (eN uT38 rfl) dC ?_ | refine SL.off (gF rfl rfl rfl dC) dC ?_ | refine SL.off (Gd.off rfl rfl rfl dC) dC ?_
 first | refine SL.gu (gT rfl rfl rfl dC) (nQ rfl rfl) dC ?_ | refine SL.off (gF rfl rfl rfl dC) dC ?_ | refine SL.off (Gd.off rfl rfl rfl dC) dC ?_
 refine lU (pF I I) (lM I ?_)
 first | refine SL.gu (gT rfl rfl rfl dC) (fA uT31 rfl zT29 rfl) dC ?_ | refine SL.off (gF rfl rfl rfl dC) dC ?_ | refine SL.off (Gd.off rfl rfl rfl dC) dC ?_
 first | refine SL.gq (gT rfl rfl rfl dC) (qL iT29 rfl (cO 2 rfl rfl)) dC ?_ | refine SL.off (gF rfl rfl rfl dC) dC ?_ | refine SL.off (Gd.off rfl rfl rfl dC) dC ?_
 first | refine SL.gu (gT rfl rfl rfl dC) (eN uT29 rfl) dC ?_ | refine SL.off (gF rfl rfl rfl dC) dC ?_ | refine SL.off (Gd.off rfl rfl rfl dC) dC ?_
 first | refine SL.gu (gT rfl rfl rfl dC) (nQ rfl rfl) dC ?_ | refine SL.off (gF rfl rfl rfl dC) dC ?_ | refine SL.off (Gd.off rfl rfl rfl dC) dC ?_
 refine lU (pF I I) (lM I ?_)
 first | refine SL.gu (gT rfl rfl rfl dC) (fA uT40 rfl zT38 rfl) dC ?_ | refine SL.off (gF rfl rfl rfl dC) dC ?_ | refine SL.off (Gd.off rfl rfl rfl dC) dC ?_
 first | refine SL.gq (gT rfl rfl rfl dC) (qL (v:=.slice yp 2 yd) iT38 rfl (cO 0 rfl rfl)) dC ?_ | refine SL.off (gF rfl rfl rfl dC) dC ?_ | refine SL.off (Gd.off rfl rfl rfl dC) dC ?_
 first | refine SL.gu (gT rfl rfl rfl dC) (eN uT38 rfl) dC ?_ | refine SL.off (gF rfl rfl rfl dC) dC ?_ | refine SL.off (Gd.off rfl rfl rfl dC) dC ?_
 first | refine SL.gu (gT rfl rfl rfl dC) (nQ rfl rfl) dC ?_ | refine SL.off (gF rfl rfl rfl dC) dC ?_ | refine SL.off (Gd.off rfl rfl rfl dC) dC ?_
 refine lU (pF I I) (SL.nT (cF I (kP (tN (SC.sR (lU (fA uT40 I zT38 I) (lK (qL (v:=.slice xp 3 xd) iT38 I (cO 1 I I)) (lU (iA uT38 zT42 I I hbx dC (show (0 : Int) < ((3 : Nat) : Int) by decide)) ?_))))))))
 refine lK (eA (a:=⟨4,1⟩) iT42 zT42 I hxs3.rd I) (lU (SU.build I (buildS42 4 1)) (lU (SU.eqlSideT ⟨4,1⟩ I I) (lM I (lY I I I (fA uT40 I zT38 I) (SL.gq (gT I I I dC) (qL (v:=.slice xp 3 xd) iT38 I (cO 1 I I)) dC (lY I I I (iA uT38 zT42 I I hbx dC (show (1 : Int) < ((3 : Nat) : Int) by decide)) ?_))))))
 refine SL.gq (gT I I I dC) (eA (a:=⟨5,-1⟩) iT42 zT42 I hxs3.rd I) dC (lY I I I (SU.build I (buildS42 5 (-1))) (lY I I I (SU.eqlSideT ⟨5,-1⟩ I I) (lU (pT I I) (lM I (lY I I I (fA uT40 I zT38 I) (SL.gq (gT I I I dC) (qL (v:=.slice xp 3 xd) iT38 I (cO 1 I I)) dC (lY I I I (iA uT38 zT42 I I hbx dC (show (2 : Int) < ((3 : Nat) : Int) by decide)) ?_)))))))
 refine SL.gq (gT I I I dC) (eA (a:=⟨6,1⟩) iT42 zT42 I hxs3.rd I) dC (lY I I I (SU.build I (buildS42 6 1)) (lY I I I (SU.eqlSideT ⟨6,1⟩ I I) (lU (pT I I) (lM I (lY I I I (fA uT40 I zT38 I) (SL.gq (gT I I I dC) (qL (v:=.slice yp 2 yd) iT38 I (cO 0 I I)) dC (lY I I I (iA uT38 zT42 I I hby dC (show (0 : Int) < ((2 : Nat) : Int) by decide)) ?_)))))))
 refine SL.gq (gT I I I dC) (eA (a:=⟨1,-1⟩) iT42 zT42 I hys.rd I) dC (lY I I I (SU.build I (buildS42 1 (-1))) (lY I I I (SU.eqlSideT ⟨1,-1⟩ I I) (lU (pT I I) (lA I (SL.nT (SC.sR (lK (qV 2 iT31 zT31 I I I) (lW (cL call28 I (copy_own E g3 _ _ triL hu3 tri_fits)) ?_))))))))
 rintro _ _ _ ⟨rfl,u1,rs1,rfl,hO1,rfl⟩
 obtain ⟨p1,p2,p3,p4,p5,p6,p7,d1,d2,d3,d4,d5,d6,d7,rfl⟩:=tri_rs hO1
 refine SL.facts fun ⟨w0,hw0⟩=>?_
 obtain ⟨pu,cu,rfl⟩:=rowA_form (i:=0) hw0 rfl
 obtain ⟨bu,cap,rfl,rfl,hcap⟩:=row_cap (i:=0) hw0 rfl (show 0 < 7 by decide)
 have hcap7 : 7 ≤ cap + 1:=hcap
 clear hw0 w0
 refine SL.bx (aL zeroValue31) fun b7=>?_
 refine SL.O2 (sK 0 zT31 I I I I I sB) ?_
 refine SL.nT (sQ ?_)
 refine dW [6,7,8] [(0,2),(1,1),(2,2),(3,2),(4,1),(5,2),(6,0),(7,0),(8,0)] Tryz.mixed (by kernel_rfl) ?_
 refine pU I (fA uT31 I zT29 I) (pK I (qL iT29 I (cO 0 I I)) (pU I (SU.sliceH uT29 zT40 I I dC oM) (pU I (fA uT31 I zT29 I) (pK I (qL iT29 I (cO 0 I I)) (pU I (SU.sliceL uT29 zT40 I I dC (show (5 : Int) ≤ ((7 : Nat) : Int) by decide)) ?_)))))
 refine SP.o I (SO.cutA (j:=4) (n:=7) (c:=cap + 1) (p:=some ⟨bu,0,none⟩) (e:=encCell) 1 sty29 I I I I (show 4 < 7 by decide)) dC (.inl dC) ?_
 rintro _ _ _ ⟨rfl,rfl,rfl⟩
 refine oU I (fA uT31 I zT29 I) dC (.inl dC) (SP.on I (sK 0 zT29 I I I I I sB) (.inl dC) ?_)
 rintro _ _ _ ⟨rfl,rfl⟩
 refine pN (tN (sQ ?_))
 refine SC.to (g':=g3) (s':=rowA encCell 40 (.slice (some ⟨bu,0,none⟩) 6 (cap + 1)) ((triRs p1 p2 p3 p4 p5 p6 p7 d1 d2 d3 d4 d5 d6 d7).eraseIdx 4) :: (ownS lessL ((triRs p1 p2 p3 p4 p5 p6 p7 d1 d2 d3 d4 d5 d6 d7).eraseIdx 4) ++ (pt b7 (.cells #[.slice (some ⟨bu,0,none⟩) 6 (cap + 1)] 31 (0,0)) :: pt b4 (.cells #[vi 4,vi 1,.slice yp 2 yd] 40 (0,0)) :: pt b2 (.cells #[vi 7,vi 2,.slice xp 3 xd] 40 (0,0)) :: pt b1 (.cells #[.slice q triL.length d] 31 (0,0)) :: s))) (fun w hw=>less_at hw) ?_
 refine SC.freezeCells (less_o _ _ _ _ _ _ _ _ _ _ _ _ _ _) fun g4 hle4 hless=>?_
 have hu4:=hu3.mono hle4
 refine rG (lK (qV 3 iT31 zT31 I I I) (lW (cL call28 I (copy_own E g4 _ _ triL hu4 tri_fits)) ?_))
 rintro _ _ _ ⟨rfl,u2,rs2,rfl,hO2,rfl⟩
 obtain ⟨r1,r2,r3,r4,r5,r6,r7,e1,e2,e3,e4,e5,e6,e7,rfl⟩:=tri_rs hO2
 refine SL.facts fun ⟨w0,hw0⟩=>?_
 obtain ⟨pv,cv,rfl⟩:=rowA_form (i:=0) hw0 rfl
 obtain ⟨bv,cap2,rfl,rfl,hcap2⟩:=row_cap (i:=0) hw0 rfl (show 0 < 7 by decide)
 have hb7 : based (.slice r7 3 e7) = true:=(by obtain ⟨b0,c0,he⟩:=rowA_based (i:=7) hw0 rfl (show 0 < 3 by decide); rw [show Value.slice r7 3 e7 = _ from he]; rfl)
 clear hw0 w0
 refine SL.bx (aL zeroValue31) fun b8=>?_
 refine SL.O2 (sK 0 zT31 I I I I I sB) ?_
 refine SL.nT (sQ (sQ ?_))
 refine SC.to (g':=g4) (s':=pt b8 (.cells #[.slice (some ⟨bv,0,none⟩) 7 (cap2 + 1)] 31 (0,0)) :: rowA encCell 40 (.slice (some ⟨bv,0,none⟩) 7 (cap2 + 1)) (triRs r1 r2 r3 r4 r5 r6 r7 e1 e2 e3 e4 e5 e6 e7) :: (ownS triL (triRs r1 r2 r3 r4 r5 r6 r7 e1 e2 e3 e4 e5 e6 e7) ++ (pt b7 (.cells #[.slice (some ⟨bu,0,none⟩) 6 (cap + 1)] 31 (0,0)) :: pt b4 (.cells #[vi 4,vi 1,.slice yp 2 yd] 40 (0,0)) :: pt b2 (.cells #[vi 7,vi 2,.slice xp 3 xd] 40 (0,0)) :: pt b1 (.cells #[.slice q triL.length d] 31 (0,0)) :: s))) (fun w hw=>hw) ?_
 refine rG (lU (fA uT31 I zT29 I) (lK (qL (v:=.slice (some ⟨bv,0,none⟩) 7 (cap2 + 1)) iT29 I (cO 0 I I)) (lU (iA uT29 zT40 I I I dC (show (6 : Int) < ((7 : Nat) : Int) by decide)) ?_)))
 refine lU (fC (v:=.slice (some ⟨bv,0,none⟩) 7 (cap2 + 1)) (o:=18) uT40 I zT38 I I) (lK (pA (e:=encCell) (a:=⟨7,2,⟨r7,3,e7⟩⟩) (j:=6) (o:=2) (u:=.slice r7 3 e7) iT38 I (Rd.rowA (v:=.slice (some ⟨bv,0,none⟩) 7 (cap2 + 1)) 1 I) I I) (lU (eN uT38 I) (lU (nQ I I) (SL.nT (cF I (kP (tN (SC.sR (lU (fA uT31 I zT29 I) (lK (qL (v:=.slice (some ⟨bv,0,none⟩) 7 (cap2 + 1)) iT29 I (cO 0 I I)) (lU (iA uT29 zT40 I I I dC (show (6 : Int) < ((7 : Nat) : Int) by decide)) ?_)))))))))))
 refine lU (fC (v:=.slice (some ⟨bv,0,none⟩) 7 (cap2 + 1)) (o:=18) uT40 I zT38 I I) (lK (pA (e:=encCell) (a:=⟨7,2,⟨r7,3,e7⟩⟩) (j:=6) (o:=2) (u:=.slice r7 3 e7) iT38 I (Rd.rowA (v:=.slice (some ⟨bv,0,none⟩) 7 (cap2 + 1)) 1 I) I I) (lU (iA uT38 zT42 I I hb7 dC (show (1 : Int) < ((3 : Nat) : Int) by decide)) ?_))
 refine lU (fC (v:=.slice r7 3 e7) (o:=2) uT42 I zT3 I hb7) (SL.O2 (SO.partA (e:=encSide) (a:=⟨5,-1⟩) (j:=1) (o:=1) 8 ⟨5,1⟩ zT3 I I I I I I dC I) (SL.nT (sQ ?_)))
 refine SC.to (g':=g4) (s':=rowA encCell 40 (.slice (some ⟨bv,0,none⟩) 7 (cap2 + 1)) (triRs r1 r2 r3 r4 r5 r6 r7 e1 e2 e3 e4 e5 e6 e7) :: (ownS turnL (triRs r1 r2 r3 r4 r5 r6 r7 e1 e2 e3 e4 e5 e6 e7) ++ (pt b8 (.cells #[.slice (some ⟨bv,0,none⟩) 7 (cap2 + 1)] 31 (0,0)) :: pt b7 (.cells #[.slice (some ⟨bu,0,none⟩) 6 (cap + 1)] 31 (0,0)) :: pt b4 (.cells #[vi 4,vi 1,.slice yp 2 yd] 40 (0,0)) :: pt b2 (.cells #[vi 7,vi 2,.slice xp 3 xd] 40 (0,0)) :: pt b1 (.cells #[.slice q triL.length d] 31 (0,0)) :: s))) (fun w hw=>turn_at hw) ?_
 refine SC.freezeCells (turn_o _ _ _ _ _ _ _ _ _ _ _ _ _ _) fun g5 hle5 hturn=>?_
 have hu5:=hu4.mono hle5
 refine rG (lK (qV 1 iT31 zT31 I I I) (lW (cL call13 I (check_spec E g5 _ _ lessL (hless.mono hle5) less_fits)) ?_))
 rintro _ _ _ ⟨rfl,rfl,rfl⟩
 rw [less_check]
 refine lM I (lU (xT I I) (lU (xT I I) (lA I (lA I (SL.nT (SC.sR (lK (qV 0 iT31 zT31 I I I) (lW (cL call13 I (check_spec E g5 _ _ turnL hturn turn_fits)) ?_))))))))
 rintro _ _ _ ⟨rfl,rfl,rfl⟩
 rw [turn_check]
 refine lM I (lU (xT I I) (lU (xT I I) (lA I (lA I (SL.nT (SC.sR (lK (qV 4 iT31 zT31 I I I) (lW (cL call13 I (check_spec E g5 _ _ triL hu5 tri_fits)) ?_))))))))
 rintro _ _ _ ⟨rfl,rfl,rfl⟩
 rw [tri_check]
 refine lM I (lU (xT I I) (lU (xT I I) (lA I (lA I (SL.nT (SC.sR (lM I (lU (eQ I I) (lM I (lY I I I (mV I) (lY I I I (eQ I I) (lU (pT I I) (lM I (lY I I I (mV I) (lY I I I (eQ I I) (lU (pT I I) (lM I (lY I I I (mV I) (lY I I I (eQ I I) (lU (pT I I) (lM I (lY I I I (mV I) (lY I I I (eQ I I) (lU (pT I I) (lM I (lY I I I (mV I) (lY I I I (eQ I I) ?_)))))))))))))))))))))))))))
 refine lU (pT I I) (lA I (SL.nT (SC.sR (lK (qV 4 iT31 zT31 I I I) (lW (cL call19 I (tops_spec E g5 _ _ triL hu5 tri_fits)) ?_)))))
 rintro v150 g6 _ ⟨rfl,hle6,h150⟩
 rw [tri_tops] at h150
 have hu6:=hu5.mono hle6
 refine lW (bS sty27 I I I (szs_mk ⟨I,trivial⟩) dC) ?_
 rintro _ _ _ ⟨b151,rfl,rfl,rfl⟩
 refine SL.freeze fun g7 hle7 hb151=>?_
 have h151 : Ints g7 (.slice (some ⟨b151,0,none⟩) 1 1) [7]:=SlA.lit hb151 rfl rfl
 have hu7:=hu6.mono hle7
 refine lW (cL call18 I (ints_spec E g7 _ _ _ [7] [7] (h150.mono hle7) h151 dC)) ?_
 rintro _ _ _ ⟨rfl,rfl,rfl⟩
 rw [show decide (([7] : List Int) = [7]) = true from decide_eq_true rfl]
 refine lM I (SL.gq (gT I I I dC) (qV 4 iT31 zT31 I I I) dC (SL.go (gT I I I dC) (cL call29 I (above_spec E g7 _ _ triL 2 hu7 tri_fits)) dC ?_))
 rintro v155 g8 _ ⟨rfl,hle8,h155⟩
 rw [tri_above] at h155
 have hu8:=hu7.mono hle8
 refine SL.go (gT I I I dC) (bS sty27 I I I (szs_mk sB) dC) dC ?_
 rintro _ _ _ ⟨b156,rfl,rfl,rfl⟩
 refine SL.freeze fun g9 hle9 hb156=>?_
 have h156 : Ints g9 (.slice (some ⟨b156,0,none⟩) 2 2) [4,6]:=SlA.lit hb156 rfl rfl
 have hu9:=hu8.mono hle9
 refine SL.go (gT I I I dC) (cL call18 I (ints_spec E g9 _ _ _ [4,6] [4,6] (h155.mono hle9) h156 dC)) dC ?_
 rintro _ _ _ ⟨rfl,rfl,rfl⟩
 rw [show decide (([4,6] : List Int) = [4,6]) = true from decide_eq_true rfl]
 refine lU (pT I I) (lM I (SL.gq (gT I I I dC) (qV 4 iT31 zT31 I I I) dC (SL.go (gT I I I dC) (bS sty27 I I I (szs_mk ⟨I,trivial⟩) dC) dC ?_)))
 rintro _ _ _ ⟨b161,rfl,rfl,rfl⟩
 refine SL.freeze fun g10 hle10 hb161=>?_
 have h161 : Ints g10 (.slice (some ⟨b161,0,none⟩) 1 1) [4]:=SlA.lit hb161 rfl rfl
 have hu10:=hu9.mono hle10
 refine SL.go (gT I I I dC) (cL call30 I (closureTop E hE g10 _ _ _ triL [4] hu10 tri_fits h161 dC tri_ids)) dC ?_
 rintro v162 g11 _ ⟨rfl,hle11,h162⟩
 rw [tri_closure] at h162
 have hu11:=hu10.mono hle11
 refine SL.go (gT I I I dC) (bS sty27 I I I (szs_mk sB) dC) dC ?_
 rintro _ _ _ ⟨b163,rfl,rfl,rfl⟩
 refine SL.freeze fun g12 hle12 hb163=>?_
 have h163 : Ints g12 (.slice (some ⟨b163,0,none⟩) 3 3) [1,2,4]:=SlA.lit hb163 rfl rfl
 have hu12:=hu11.mono hle12
 refine SL.go (gT I I I dC) (cL call18 I (ints_spec E g12 _ _ _ [1,2,4] [1,2,4] (h162.mono hle12) h163 dC)) dC ?_
 rintro _ _ _ ⟨rfl,rfl,rfl⟩
 rw [show decide (([1,2,4] : List Int) = [1,2,4]) = true from decide_eq_true rfl]
 refine lU (pT I I) (lA I (SL.nT (SC.sR (lW (bS sty27 I I I (szs_mk sB) dC) ?_))))
 rintro _ _ _ ⟨b166,rfl,rfl,rfl⟩
 refine SL.freeze fun g13 hle13 hb166=>?_
 have h166 : Ints g13 (.slice (some ⟨b166,0,none⟩) 2 2) [0,1]:=SlA.lit hb166 rfl rfl
 have hu13:=hu12.mono hle13
 refine lW (bS sty22 I I I (szs_mk ⟨I,trivial⟩) dC) ?_
 rintro _ _ _ ⟨b167,rfl,rfl,rfl⟩
 refine SL.freeze fun g14 hle14 hb167=>?_
 have hlit : Lists g14 (.slice (some ⟨b167,0,none⟩) 1 1) [[0,1]]:=⟨[svOf (.slice (some ⟨b166,0,none⟩) 2 2)],SlA.lit hb167 rfl rfl,⟨h166.mono hle14,trivial⟩⟩
 have hu14:=hu13.mono hle14
 refine lW (cL call31 I (simplicial_spec E g14 _ _ _ hlit dC dC)) ?_
 rintro _ g15 _ ⟨rfl,hle15,ue,rfl,hedge⟩
 rw [simp_edge] at hedge
 obtain ⟨qe,de,rfl⟩:=hedge.form
 have hu15:=hu14.mono hle15
 refine SL.bx (aL zeroValue31) fun b17=>?_
 refine SL.O2 (sK 0 zT31 I I I I I sB) ?_
 refine SL.nT (SC.sR (lK (qV 0 iT31 zT31 I I I) (lK (qV 0 iT31 zT31 I I I) (lW (cL call32 I (product_spec E g15 _ _ _ edgeL edgeL hedge hedge edge_fits edge_fits)) ?_))))
 rintro _ g16 _ ⟨rfl,hle16,us,rfl,hsq0⟩
 have hsq : Cells g16 us squareL:=hsq0
 obtain ⟨qs,ds,rfl⟩:=hsq.form
 rw [square_len]
 rw [square_len] at hsq
 have hu16:=hu15.mono hle16
 refine SL.bx (aL zeroValue31) fun b18=>?_
 refine SL.O2 (sK 0 zT31 I I I I I sB) ?_
 refine SL.nT (SC.sR (lK (qV 0 iT31 zT31 I I I) (lW (cL call27 I (find_spec E g16 _ _ squareL 9 hsq square_fits)) ?_)))
 rintro _ g17 _ ⟨rfl,hle17,z,rfl,hz⟩
 rw [square_find] at hz
 rw [square_find]
 obtain ⟨zp,zd,rfl,hzs⟩:=cellR_form (c:=⟨9,2,[⟨3,-1⟩,⟨6,1⟩,⟨7,1⟩,⟨8,-1⟩]⟩) hz
 have hbz : based (.slice zp 4 zd) = true:=hzs.based dC
 have hu17:=hu16.mono hle17
 refine lM I (lU (xT I I) (lU (xT I I) (SL.bx (aL zeroValue40) fun b19=>?_)))
 refine SL.O2 (sK 0 zT40 I I I I I sB) ?_
 refine lA I (SL.nT (sQ ?_))
 refine SC.to (g':=g17) (s':=pt b19 (.cells #[vi 9,vi 2,.slice zp 4 zd] 40 (0,0)) :: pt b18 (.cells #[.slice qs 9 ds] 31 (0,0)) :: pt b17 (.cells #[.slice qe edgeL.length de] 31 (0,0)) :: pt b8 (.cells #[.slice (some ⟨bv,0,none⟩) 7 (cap2 + 1)] 31 (0,0)) :: pt b7 (.cells #[.slice (some ⟨bu,0,none⟩) 6 (cap + 1)] 31 (0,0)) :: pt b4 (.cells #[vi 4,vi 1,.slice yp 2 yd] 40 (0,0)) :: pt b2 (.cells #[vi 7,vi 2,.slice xp 3 xd] 40 (0,0)) :: pt b1 (.cells #[.slice q triL.length d] 31 (0,0)) :: s) (fun w hw=>hw) ?_
 refine rG (lM I (lM I (lY I I I (mV I) (lU (pT I I) (lM I (lY I I I (mV I) (lU (pT I I) (lM I (SL.gq (gT I I I dC) (qV 7 iT31 zT31 I I I) dC (SL.go (gT I I I dC) (cL call33 I (euler_spec E g17 _ _ triL hu17 tri_fits)) dC ?_))))))))))
 rintro _ _ _ ⟨rfl,rfl,rfl⟩
 rw [tri_euler]
 refine lY I I I (eQ I I) (lU (pT I I) (lM I (lY I I I (fA uT31 I zT29 I) (SL.gq (gT I I I dC) (qL (v:=.slice qs 9 ds) iT29 I (cO 1 I I)) dC (lY I I I (eN uT29 I) (lY I I I (eQ I I) (lU (pT I I) (lM I (lY I I I (mV I) (lU (pT I I) (lM I (lY I I I (fA uT40 I zT38 I) (SL.gq (gT I I I dC) (qL (v:=.slice zp 4 zd) iT38 I (cO 0 I I)) dC (lY I I I (eN uT38 I) (lY I I I (eQ I I) (lU (pT I I) (lM I (lY I I I (fA uT40 I zT38 I) (SL.gq (gT I I I dC) (qL (v:=.slice zp 4 zd) iT38 I (cO 0 I I)) dC (lY I I I (iA uT38 zT42 I I hbz dC (show (0 : Int) < ((4 : Nat) : Int) by decide)) ?_))))))))))))))))))))
 refine SL.gq (gT I I I dC) (eA (a:=⟨3,-1⟩) iT42 zT42 I hzs.rd I) dC (lY I I I (SU.build I (buildS42 3 (-1))) (lY I I I (SU.eqlSideT ⟨3,-1⟩ I I) (lU (pT I I) (lM I (lY I I I (fA uT40 I zT38 I) (SL.gq (gT I I I dC) (qL (v:=.slice zp 4 zd) iT38 I (cO 0 I I)) dC (lY I I I (iA uT38 zT42 I I hbz dC (show (3 : Int) < ((4 : Nat) : Int) by decide)) ?_)))))))
 refine SL.gq (gT I I I dC) (eA (a:=⟨8,-1⟩) iT42 zT42 I hzs.rd I) dC (lY I I I (SU.build I (buildS42 8 (-1))) (lY I I I (SU.eqlSideT ⟨8,-1⟩ I I) (lU (pT I I) (lA I (SL.nT (rE ?_))))))
 refine dR (s':=s) (by repeat (first | exact List.Sublist.refl _ | refine List.Sublist.cons _ ?_)) ?_
 exact ST.ret1 (.inl I) results6 I ⟨I,I,hle1.trans (hle2.trans (hle3.trans (hle4.trans (hle5.trans (hle6.trans (hle7.trans (hle8.trans (hle9.trans (hle10.trans (hle11.trans (hle12.trans (hle13.trans (hle14.trans (hle15.trans (hle16.trans hle17)))))))))))))))⟩
theorem ins_after {α : Type} {key : α → Int} {l out : List α} {x : α} {k : Nat} (hs : Srt key out) (hst : Stab key l out) (h1 : ∀ y ∈ out.take k,key y ≤ key x) (h2 : ∀ y ∈ out.drop k,key x < key y) :
  Srt key (out.take k ++ x :: out.drop k) ∧ Stab key (l ++ [x]) (out.take k ++ x :: out.drop k):=by
 have hs' : Srt key (out.take k ++ out.drop k):=by rw [List.take_append_drop]; exact hs
 have h3:=Srt.append_iff.1 hs'
 refine ⟨Srt.append_iff.2 ⟨h3.1,Srt.cons_iff.2 ⟨fun y hy=>Int.le_of_lt (h2 y hy),h3.2.1⟩,fun y hy z hz=>?_⟩,?_⟩
 ·rcases List.mem_cons.1 hz with rfl | hz
  ·exact h1 y hy
  ·exact h3.2.2 y hy z hz
 ·have h4 : Stab key (l ++ [x]) (out ++ [x]):=hst.append (Stab.refl [x])
  have h5 : Stab key (out.drop k ++ [x]) ([x] ++ out.drop k):=Stab.swap (fun y hy z hz=>by simp at hz; subst hz; have:=h2 y hy; omega)
  have h6:=Stab.append (Stab.refl (key:=key) (out.take k)) h5
  have h7 : out ++ [x] = out.take k ++ (out.drop k ++ [x]):=by rw [← List.append_assoc,List.take_append_drop]
  rw [h7] at h4
  simpa using h4.trans h6
theorem srt_drop_gt {α : Type} {key : α → Int} {out : List α} {c : Int} {k : Nat} (hs : Srt key out) (hk : k < out.length) (h : c < key out[k]) : ∀ y ∈ out.drop k,c < key y:=by
 rw [List.drop_eq_getElem_cons hk]
 intro y hy
 have h1 : Srt key (out.drop k):=List.Pairwise.sublist (List.drop_sublist k out) hs
 rw [List.drop_eq_getElem_cons hk] at h1
 rcases List.mem_cons.1 hy with rfl | hy
 ·exact h
 ·have:=(Srt.cons_iff.1 h1).1 y hy
  omega
theorem sides_spec (E : World) (g : PH) (s : Own) (v : Value) (l : List Side) (hv : SlA encSide g v l) (hl : l.length < 1099511627776) :
  Ctr Tryz.prog E 101 #[v] g s (fun r g' s'=>s = s' ∧ Le g g' ∧ SlA encSide g' r (sortBy Side.cell l)):=by
 obtain ⟨p,c,rfl⟩:=SlA.form hv
 refine Ctr.of (args:=[.slice p l.length c]) func101 I ntmps101 (bE I) ?_
 refine SC.sR (lA I (SL.nT (SC.sR (lA I (SL.nT (sQ (SC.sR (lA I (SL.nT (bK ?_))))))))))
 refine oP (ι:=PH × Value × List Side × Nat) (fun i=>[(0,.slice p l.length c),(3,i.2.1),(4,vi i.2.2.2)]) (fun i=>i.1) (fun _=>s)
  (fun i=>Le g i.1 ∧ SlA encSide i.1 i.2.1 i.2.2.1 ∧ i.2.2.2 ≤ l.length ∧ Srt Side.cell i.2.2.1 ∧ Stab Side.cell (l.take i.2.2.2) i.2.2.1) (fun i=>l.length - i.2.2.2)
  (g,.slice none 0 0,[],0) sB rfl rfl ⟨Le.refl g,Sl.nil g _,Nat.zero_le _,Srt.nil,Stab.refl _⟩ ?_
 rintro ⟨g1,ov,out,i⟩ ⟨hle,hov,hi,hsrt,hst⟩
 dsimp only at hle hov hi hsrt hst ⊢
 have hol : out.length = i:=by have:=hst.1; rw [List.length_take] at this; omega
 obtain ⟨q,d,rfl⟩:=SlA.form hov
 have hqc:=(SlA.cap hov).2
 refine sQ (SC.sR (lM I (lM I (lU (eN uT38 I) (lU (lS I I) (SL.nT ?_))))))
 refine iP I (fun hlt=>?_) (fun hlt=>?_)
 ·have hil : i < l.length:=oM
  have hb1:=SlA.based (hv.mono hle) oM
  have hgi : l[((i : Nat) : Int).toNat]? = some l[i]:=gE hil
  have htk : l.take (i + 1) = l.take i ++ [l[i]]:=tS hil
  generalize l[i] = x at *
  refine kP (tN (sQ (bK (SC.sR (lA I (SL.nT ?_))))))
  refine SC.cut (ι:=Nat) (fun k=>[(0,.slice p l.length c),(3,.slice q out.length d),(4,vi i),(5,vi k)]) (fun _=>g1) (fun _=>s) (fun k=>k ≤ out.length ∧ (∀ y ∈ out.take k,y.cell ≤ x.cell) ∧ ∀ y ∈ out.drop k,x.cell < y.cell) ?_ ?_
  ·refine bK ?_
   refine oP (ι:=Nat) (fun k=>[(0,.slice p l.length c),(3,.slice q out.length d),(4,vi i),(5,vi k)]) (fun _=>g1) (fun _=>s) (fun k=>k ≤ out.length ∧ ∀ y ∈ out.take k,y.cell ≤ x.cell) (fun k=>out.length - k) 0
    sB rfl rfl ⟨Nat.zero_le _,by simp⟩ ?_
   rintro k ⟨hk,htake⟩
   by_cases hin : (k : Int) < (out.length : Int)
   ·have hkl : k < out.length:=oM
    have hb2:=SlA.based hov oM
    have hd : decide ((k : Int) < (out.length : Int)) = true:=decide_eq_true hin
    refine sQ (sQ ?_)
    refine dW [] [(0,2),(1,2),(2,2),(3,2),(4,2),(5,2),(6,2),(7,2),(8,2),(9,1),(10,2),(11,2),(12,2),(13,2),(14,1),(15,2),(16,2)] Tryz.mixed (by kernel_rfl) ?_
    refine pU I (mV I) (pU I (mV I) (pU I (eN uT38 I) (pU I (SU.eq (lS I I) (congrArg vb hd)) (pU I (mV I) (SP.gu I (gT I I I dC) (mV I) dC (SP.gu I (gT I I I dC) (mV I) dC (SP.gu I (gT I I I dC) (iA uT38 zT42 I I hb2 oM sL) dC (SP.gu I (gT I I I dC) (fC uT42 I zT3 I hb2) dC ?_))))))))
    refine SP.gq I (gT I I I dC) (pA (o:=0) iT3 I hov.rd (gE hkl) I) dC ?_
    refine SP.gu I (gT I I I dC) (mV I) dC (SP.gu I (gT I I I dC) (mV I) dC (SP.gu I (gT I I I dC) (iA uT38 zT42 I I hb1 oM sL) dC (SP.gu I (gT I I I dC) (fC uT42 I zT3 I hb1) dC (SP.gq I (gT I I I dC) (pA (o:=0) iT3 I (hv.mono hle).rd hgi I) dC (SP.gu I (gT I I I dC) (SU.leq I I) dC (pU I (pT I I) (pN (tN ?_))))))))
    refine iP I (fun hc=>?_) (fun hc=>?_)
    ·refine kP (tN (bK (rG (lM I (lU (aD I I oM) (lA I (nL (bN ?_))))))))
     exact gA (k + 1) sB I I ⟨oM,by
      rw [tS hkl]
      intro y hy
      rcases List.mem_append.1 hy with h | h
      ·exact htake y h
      ·simp at h; subst h; exact hc⟩ oM
    ·refine xI (tX (tX (bX ?_)))
     exact ST.mid k sB I I ⟨hk,htake,srt_drop_gt hsrt hkl oM⟩
   ·have hd : decide ((k : Int) < (out.length : Int)) = false:=decide_eq_false hin
    refine sQ (sQ ?_)
    refine dW [] [(0,2),(1,2),(2,2),(3,2),(4,2),(5,2),(6,2),(7,2),(8,2),(9,1),(10,2),(11,2),(12,2),(13,2),(14,1),(15,2),(16,2)] Tryz.mixed (by kernel_rfl) ?_
    refine pU I (mV I) (pU I (mV I) (pU I (eN uT38 I) (pU I (SU.eq (lS I I) (congrArg vb hd)) (pU I (mV I) (fP I (gF I I I dC) dC (fP I (gF I I I dC) dC (fP I (gF I I I dC) dC (fP I (gF I I I dC) dC (SP.off1 I (gF I I I dC) dC (fP I (gF I I I dC) dC (fP I (gF I I I dC) dC (fP I (gF I I I dC) dC (fP I (gF I I I dC) dC (SP.off1 I (gF I I I dC) dC (fP I (gF I I I dC) dC (pU I (pF I I) (pN (tN (cF I (xI (tX (tX (bX ?_)))))))))))))))))))))))
    exact ST.mid k sB I I ⟨hk,htake,by rw [List.drop_eq_nil_of_le oM]; simp⟩
  ·rintro k ⟨hk,hk1,hk2⟩
   have hnew:=ins_after hsrt hst hk1 hk2
   have hc1:=SlA.cut hov (l:=k) (m:=out.length) hk (lR _)
   have hc2:=SlA.cut hov (l:=0) (m:=k) (Nat.zero_le _) hk
   rw [tL (by rw [List.length_drop]; exact lR _)] at hc1
   rw [List.drop_zero,Nat.sub_zero] at hc2
   refine sQ ?_
   refine dW [8] [(0,2),(1,2),(2,2),(3,1),(5,2),(6,2),(7,2),(4,0),(8,0),(9,2)] Tryz.mixed (by kernel_rfl) ?_
   refine pU rfl (mV rfl) (pU rfl (mV rfl) (pU rfl (iA uT38 zT42 rfl rfl hb1 oM sL) (pK rfl (eA iT42 zT42 rfl (hv.mono hle).rd hgi) (pU rfl (mV rfl) (pU rfl (mV rfl) (pU rfl (SU.sliceL uT38 zT42 rfl rfl oM oM) (SP.o rfl (bS sty38 rfl rfl rfl (szs_mk ⟨rfl,trivial⟩) dC) dC (.inr (by rintro _ _ _ ⟨b36,rfl,rfl,rfl⟩; exact ⟨by exact Le.refl _,(by exact .cons _ (.refl _))⟩)) ?_)))))))
   rintro _ _ _ ⟨b36,rfl,rfl,rfl⟩
   refine SP.to (fun w hw=>At.litRow (e:=encSide) (l:=[x]) (n:=0) hw I I dC) ?_
   refine SP.o rfl (aQ (e:=encSide) 0 sty38 rfl rfl rfl hc1 (by rw [List.length_drop]; (first | with_reducible rfl | ((try dsimp only); (try simp only [List.length_append,List.length_cons,List.length_nil,List.length_singleton,List.length_take,List.length_drop]) <;> omega))) (by rw [List.length_drop]; (first | with_reducible rfl | ((try dsimp only); (try simp only [List.length_append,List.length_cons,List.length_nil,List.length_singleton,List.length_take,List.length_drop]) <;> omega)))) dC (.inl dC) ?_
   rintro v40 _ _ ⟨rfl,rfl⟩
   refine pU I (aS I) (pN (tN (fS fun g2 hle2 hs2=>?_)))
   have hrest : SlA encSide g2 v40 ([x] ++ out.drop k):=hs2
   refine rG (lW (bS sty38 I I I (szs_mk trivial) dC) ?_)
   rintro _ _ _ ⟨b41,rfl,rfl,rfl⟩
   refine SL.emptyRow 42 2 (some ⟨b41,0,none⟩) (lM rfl (lM rfl (lU (SU.sliceH uT38 zT42 rfl rfl oM oM) (lW (aQ (e:=encSide) (l:=[]) 0 sty38 rfl rfl rfl (hc2.mono hle2) (by rw [List.length_take]; (first | with_reducible rfl | ((try dsimp only); (try simp only [List.length_append,List.length_cons,List.length_nil,List.length_singleton,List.length_take,List.length_drop]) <;> omega))) (by rw [List.length_take]; (first | with_reducible rfl | ((try dsimp only); (try simp only [List.length_append,List.length_cons,List.length_nil,List.length_singleton,List.length_take,List.length_drop]) <;> omega)))) ?_))))
   rintro v45 _ _ ⟨rfl,rfl⟩
   refine lM I (lW (aQ (e:=encSide) 0 sty38 I I I hrest lN lN) ?_)
   rintro v47 _ _ ⟨rfl,rfl⟩
   refine lA I (nL (bN (tN (rG (lM I (lU (aD I I oM) (lA I (nL (fT fun g3 hle3 hs3=>?_)))))))))
   refine dR (s':=s) (.cons _ (.refl _)) ?_
   have hres : SlA encSide g3 v47 (out.take k ++ x :: out.drop k):=by have h : SlA encSide g3 v47 ([] ++ out.take k ++ ([x] ++ out.drop k)):=hs3; simpa using h
   exact gA (g3,v47,out.take k ++ x :: out.drop k,i + 1) sB I I ⟨hle.trans (hle2.trans hle3),hres,lN,hnew.1,by dsimp only; rw [htk]; exact hnew.2⟩ lN
 ·have hii : l.take i = l:=tL oM
  rw [hii] at hst
  refine xI (tX (tX (bX (tN (SC.sR (lM I (lA I (SL.nT (rE ?_)))))))))
  exact ST.ret1 (.inl I) results101 I ⟨I,hle,by rw [← eq_sortBy hsrt hst]; exact hov⟩
theorem All2.drop {α β : Type} {R : α → β → Prop} : ∀ {l : List α} {m : List β} (k : Nat),All2 R l m → All2 R (l.drop k) (m.drop k)
 | _,_,0,h=>by simpa using h
 | [],[],k + 1,_=>trivial
 | _ :: _,_ :: _,k + 1,h=>by simpa using All2.drop k h.2
 | [],_ :: _,_ + 1,h=>h.elim
 | _ :: _,[],_ + 1,h=>h.elim
theorem All2.take {α β : Type} {R : α → β → Prop} : ∀ {l : List α} {m : List β} (k : Nat),All2 R l m → All2 R (l.take k) (m.take k)
 | _,_,0,_=>by simp; trivial
 | [],[],k + 1,_=>trivial
 | _ :: _,_ :: _,k + 1,h=>⟨h.1,All2.take k h.2⟩
 | [],_ :: _,_ + 1,h=>h.elim
 | _ :: _,[],_ + 1,h=>h.elim
theorem Cells.cut {g : PH} {p : Option Addr} {c a b n : Nat} {l : List Cl} (h : Cells g (.slice p n c) l) (ha : a ≤ b) (hb : b ≤ l.length) : Cells g (sliced p a b c 3) ((l.drop a).take (b - a)):=by
 obtain ⟨rs,h1,h2⟩:=h
 have hl:=h2.length
 have hn:=(SlA.cap h1).1
 subst hn
 exact ⟨_,SlA.cut h1 ha oM,All2.take (b - a) (All2.drop a h2)⟩
theorem Cells.cap {g : PH} {p : Option Addr} {c n : Nat} {l : List Cl} (h : Cells g (.slice p n c) l) : n = l.length ∧ l.length ≤ c:=by
 obtain ⟨rs,h1,h2⟩:=h
 have:=SlA.cap h1
 rw [h2.length]
 exact ⟨this.1,this.2⟩
theorem canonC_alt (l : List Cl) : canonC l = sortBy Cl.id (l.map normC):=by
 unfold canonC
 rw [sortBy_map]
 rfl
theorem canonC_srt (l : List Cl) : Srt Cl.id (canonC l):=by rw [canonC_alt]; exact sortBy_srt _
theorem canonC_stab (l : List Cl) : Stab Cl.id (l.map normC) (canonC l):=by rw [canonC_alt]; exact sortBy_stab _
theorem Tryz.buildF40 (x y : Int) (v : Value) (hv : v.cells = #[v]) (w : World) : (Instr.build 40 #[(0,vi x),(1,vi y),(2,v)]).run Tryz.prog w = .ok (.agg #[vi x,vi y,v]) w:=by
 have hz : (Value.agg #[vi 0,vi 0,Value.slice none 0 0]).cells = #[vi 0,vi 0,.slice none 0 0]:=rfl
 have h1 : (vi x).cells = #[vi x]:=rfl
 have h2 : (vi y).cells = #[vi y]:=rfl
 simp [Instr.build,Instr.fill,hv,hz,h1,h2]
theorem half_tdiv (n : Nat) (h : n < 4611686018427387904) : IntKind.i64.wrap (((n : Nat) : Int).tdiv 2) = ((n / 2 : Nat) : Int):=by
 have h1 : ((n : Nat) : Int).tdiv 2 = ((n / 2 : Nat) : Int):=by
  rw [Int.tdiv_eq_ediv_of_nonneg oM]; simp
 rw [h1,IntWalk.i64_in _ oM]
theorem ordered_spec (E : World) : ∀ (n : Nat) (g : PH) (s : Own) (v : Value) (l : List Cl),l.length ≤ n → Cells g v l → Fits l →
  Ctr Tryz.prog E 106 #[v] g s (fun r g' s'=>s = s' ∧ Le g g' ∧ Cells g' r (canonC l)):=by
 intro n
 induction n with
 | zero =>
  intro g s v l hn hv hf
  have hl0 : l = []:=List.eq_nil_of_length_eq_zero oM
  subst hl0
  obtain ⟨p,c,rfl⟩:=hv.form
  refine Ctr.of (args:=[.slice p 0 c]) func106 I ntmps106 (bE I) ?_
  refine SC.sR (lA I (SL.nT (sQ (SC.sR (lM I (lU (eN uT29 I) (lU (eQ I I) (SL.nT ?_))))))))
  refine iP I (fun h0=>?_) (fun h0=>?_)
  ·refine SC.sR (lA I (SL.nT (rE (tR ?_))))
   exact ST.ret1 (.inl I) results106 I ⟨I,Le.refl g,[],Sl.nil g _,trivial⟩
  ·exact absurd I h0
 | succ n ih =>
  intro g s v l hn hv hf
  obtain ⟨rs,hrs,hall⟩:=hv
  have hv : Cells g v l:=⟨rs,hrs,hall⟩
  have hlen:=hall.length
  have hfl:=hf.1
  obtain ⟨p,c,rfl⟩:=hv.form
  have hcap:=(Cells.cap hv).2
  refine Ctr.of (args:=[.slice p l.length c]) func106 I ntmps106 (bE I) ?_
  refine SC.sR (lA I (SL.nT (sQ (SC.sR (lM I (lU (eN uT29 I) (lU (eQ I I) (SL.nT ?_))))))))
  refine iP I (fun h0=>?_) (fun h0=>?_)
  ·have hl0 : l = []:=List.eq_nil_of_length_eq_zero oM
   subst hl0
   refine SC.sR (lA I (SL.nT (rE (tR ?_))))
   exact ST.ret1 (.inl I) results106 I ⟨I,Le.refl g,[],Sl.nil g _,trivial⟩
  ·refine kP (tN (sQ (SC.sR (lM I (lU (eN uT29 I) (lU (eQ I I) (SL.nT ?_)))))))
   refine iP I (fun h1=>?_) (fun h1=>?_)
   ·obtain ⟨x,hx⟩ : ∃ x,l = [x]:=by
     match l,h1 with
     | [x],_=>exact ⟨x,rfl⟩
     | [],h=>simp at h
     | _ :: _ :: _,h=>simp at h; omega
    subst hx
    obtain ⟨r,rs',rfl,hr,hn'⟩:=All2.cons_left hall
    have hrs0:=All2.nil_left hn'
    subst hrs0
    obtain ⟨rp,rd,rfl,hsd⟩:=cellR_form hr
    have hb1:=hrs.based (by simp)
    have hxl:=hf.2 x (by simp)
    refine sQ ?_
    refine dW [] [(0,2),(1,2),(2,2),(3,1),(4,2),(5,2),(6,2),(7,1),(8,2),(9,2),(10,2),(11,1),(12,0),(13,2),(14,0),(15,2)] Tryz.mixed (by kernel_rfl) ?_
    refine pU I (mV I) (pU I (iA uT29 zT40 I I hb1 dC (show (0 : Int) < ((1 : Nat) : Int) by decide)) ?_)
    refine pU I (fC uT40 I zT3 I hb1) (pK I (pA (e:=encCell) (o:=0) (j:=0) (u:=vi x.id) iT3 I hrs.rd I I) (pU I (mV I) (pU I (iA uT29 zT40 I I hb1 dC (show (0 : Int) < ((1 : Nat) : Int) by decide)) ?_)))
    refine pU I (fC uT40 I zT3 I hb1) (pK I (pA (e:=encCell) (o:=1) (j:=0) (u:=vi x.dim) iT3 I hrs.rd I I) (pU I (mV I) (pU I (iA uT29 zT40 I I hb1 dC (show (0 : Int) < ((1 : Nat) : Int) by decide)) ?_)))
    refine pU rfl (fC uT40 rfl zT38 rfl hb1) (pK rfl (pA (e:=encCell) (o:=2) (j:=0) (u:=.slice rp x.sides.length rd) iT38 rfl hrs.rd rfl rfl) (SP.o rfl (cL call101 rfl (sides_spec E g _ _ x.sides hsd hxl)) dC (.inr (by rintro v24 g1 _ ⟨rfl,hle1,hs1⟩; exact ⟨by assumption,(by exact .refl _)⟩)) ?_))
    rintro v24 g1 _ ⟨rfl,hle1,hs1⟩
    obtain ⟨q,d,rfl⟩:=SlA.form hs1
    refine pU rfl (SU.build rfl (buildF40 _ _ _ rfl)) (SP.o rfl (bS sty29 rfl rfl rfl (szs_mk sB) dC) dC (.inr (by rintro _ _ _ ⟨b26,rfl,rfl,rfl⟩; exact ⟨by assumption,(by exact .cons _ (.refl _))⟩)) ?_)
    rintro _ _ _ ⟨b26,rfl,rfl,rfl⟩
    refine pU I (aS I) (pN (tN (rE (tR (ST.freeze fun g2 hle2 hb=>?_)))))
    exact ST.ret1 (.inl I) results106 I ⟨I,hle1.trans hle2,[⟨x.id,x.dim,⟨q,(sortBy Side.cell x.sides).length,d⟩⟩],SlA.lit hb I I,⟨⟨I,I,hs1.mono hle2⟩,trivial⟩⟩
   ·have hm1 : l.length / 2 < l.length:=oM
    have hm0 : 0 < l.length / 2:=oM
    have hc1:=Cells.cut hv (a:=0) (b:=l.length / 2) oM oM
    have hc2:=Cells.cut hv (a:=l.length / 2) (b:=l.length) oM oM
    rw [List.drop_zero,Nat.sub_zero] at hc1
    rw [tL (by rw [List.length_drop]; exact lR _)] at hc2
    have hf1 : Fits (l.take (l.length / 2)):=⟨by rw [List.length_take]; omega,fun c hc=>hf.2 c (List.mem_of_mem_take hc)⟩
    have hf2 : Fits (l.drop (l.length / 2)):=⟨by rw [List.length_drop]; omega,fun c hc=>hf.2 c (List.mem_of_mem_drop hc)⟩
    have hca:=canonC_length (l.take (l.length / 2))
    have hcb:=canonC_length (l.drop (l.length / 2))
    have hsa:=canonC_srt (l.take (l.length / 2))
    have hsb:=canonC_srt (l.drop (l.length / 2))
    have hst : Stab Cl.id (l.map normC) (canonC (l.take (l.length / 2)) ++ canonC (l.drop (l.length / 2))):=by
     have h2:=(canonC_stab (l.take (l.length / 2))).append (canonC_stab (l.drop (l.length / 2)))
     rwa [← List.map_append,List.take_append_drop] at h2
    rw [List.length_take] at hca
    rw [List.length_drop] at hcb
    refine kP (tN (SC.sR (lM I (lM I (lU (eN uT29 I) (lU (SU.eq (v':=vi ((l.length / 2 : Nat) : Int)) (SU.quo I I dC) (congrArg vi (half_tdiv _ oM))) (lU (SU.sliceH uT29 zT40 I I oM oM) (lW (cL call106 I (ih g _ _ (l.take (l.length / 2)) (by rw [List.length_take]; omega) hc1 hf1)) ?_))))))))
    rintro va0 g1 _ ⟨rfl,hle1,hA⟩
    refine lA I (SL.nT (SC.sR (lM I (lM I (lU (eN uT29 I) (lU (SU.eq (v':=vi ((l.length / 2 : Nat) : Int)) (SU.quo I I dC) (congrArg vi (half_tdiv _ oM))) (lU (SU.sliceL uT29 zT40 I I oM oM) (lW (cL call106 I (ih g1 _ _ (l.drop (l.length / 2)) (by rw [List.length_drop]; omega) (hc2.mono hle1) hf2)) ?_))))))))
    rintro vb0 g2 _ ⟨rfl,hle2,hB⟩
    refine lA I (SL.nT (SC.sR (lA I (SL.nT ?_))))
    generalize hA0 : canonC (l.take (l.length / 2)) = A0 at *
    generalize hB0 : canonC (l.drop (l.length / 2)) = B0 at *
    refine SC.nilRow 40 3 ?_
    refine SC.cut (ι:=Value × Value × Value × List Cl × List Cl × List Cl × List Rc) (fun i=>[(3,i.1),(4,i.2.1),(5,i.2.2.1)]) (fun _=>g2) (fun i=>rowA encCell 40 i.2.2.1 i.2.2.2.2.2.2 :: s)
     (fun i=>Cells g2 i.1 i.2.2.2.1 ∧ Cells g2 i.2.1 i.2.2.2.2.1 ∧ All2 (CellR g2) i.2.2.2.2.2.1 i.2.2.2.2.2.2 ∧ i.2.2.2.2.2.1 ++ i.2.2.2.1 ++ i.2.2.2.2.1 = canonC l) ?_ ?_
    ·refine bK ?_
     refine oP (ι:=Value × Value × Value × List Cl × List Cl × List Cl × List Cl × List Cl × List Rc) (fun i=>[(3,i.1),(4,i.2.1),(5,i.2.2.1)]) (fun _=>g2) (fun i=>rowA encCell 40 i.2.2.1 i.2.2.2.2.2.2.2.2 :: s)
      (fun i=>(Cells g2 i.1 i.2.2.2.2.1 ∧ Cells g2 i.2.1 i.2.2.2.2.2.2.1) ∧ All2 (CellR g2) i.2.2.2.2.2.2.2.1 i.2.2.2.2.2.2.2.2 ∧ A0 = i.2.2.2.1 ++ i.2.2.2.2.1 ∧ B0 = i.2.2.2.2.2.1 ++ i.2.2.2.2.2.2.1 ∧ Srt Cl.id i.2.2.2.2.2.2.2.1 ∧ Stab Cl.id (i.2.2.2.1 ++ i.2.2.2.2.2.1) i.2.2.2.2.2.2.2.1 ∧
       (∀ y ∈ i.2.2.2.2.2.2.2.1,∀ z ∈ i.2.2.2.2.1 ++ i.2.2.2.2.2.2.1,y.id ≤ z.id) ∧ (∀ y ∈ i.2.2.2.2.2.1,∀ z ∈ i.2.2.2.2.1,y.id < z.id)) (fun i=>i.2.2.2.2.1.length + i.2.2.2.2.2.2.1.length)
      (va0,vb0,.slice none 0 0,[],A0,[],B0,[],[]) sB rfl rfl ⟨⟨hA.mono hle2,hB⟩,trivial,rfl,rfl,Srt.nil,Stab.refl _,by simp,by simp⟩ ?_
     rintro ⟨va,vb1,vo,A1,A2,B1,B2,out,ro⟩ ⟨⟨hva,hvb⟩,hro,hA',hB',hso,hto,hout,hlt⟩
     dsimp only at hva hvb hro hA' hB' hso hto hout hlt ⊢
     have hol : out.length = A1.length + B1.length:=by have:=hto.1; simpa using this
     have hrol:=hro.length
     have hAl : A0.length = A1.length + A2.length:=by rw [hA']; simp
     have hBl : B0.length = B1.length + B2.length:=by rw [hB']; simp
     rw [hA'] at hsa
     rw [hB'] at hsb
     have hsa2:=(Srt.append_iff.1 hsa).2.1
     have hsb2:=(Srt.append_iff.1 hsb).2.1
     obtain ⟨pa,ca,rfl⟩:=hva.form
     obtain ⟨pb,cb,rfl⟩:=hvb.form
     have hcapa:=(Cells.cap hva).2
     have hcapb:=(Cells.cap hvb).2
     have hfin : A2 = [] ∨ B2 = [] → out ++ A2 ++ B2 = canonC l:=fun h=>by
      rw [canonC_alt]
      refine eq_sortBy ?_ ?_
      ·rw [List.append_assoc]
       refine Srt.append_iff.2 ⟨hso,?_,hout⟩
       rcases h with rfl | rfl
       ·simpa using hsb2
       ·simpa using hsa2
      ·refine hst.trans ?_
       rw [hA',hB']
       rcases h with rfl | rfl
       ·have h2:=hto.append (Stab.refl (key:=Cl.id) B2)
        simpa using h2
       ·have h3 : Stab Cl.id (A2 ++ B1) (B1 ++ A2):=Stab.swap (fun x hx y hy=>by have:=hlt y hy x hx; omega)
        have h4:=(Stab.refl (key:=Cl.id) A1).append h3
        have h5:=hto.append (Stab.refl (key:=Cl.id) A2)
        simp only [List.append_nil,List.append_assoc] at h4 h5 ⊢
        exact h4.trans h5
     cases A2 with
     | nil =>
      refine sQ (SC.sR (lM I (lU (eN uT29 I) (lU (SU.eq (v':=vb false) (gR I I) I) (lM I (lZ I I I (lZ I I I (lZ I I I (lU (pF I I) (SL.nT (cF I (xI (tX (tX (bX ?_)))))))))))))))
      exact ST.mid (_,_,vo,[],B2,out,ro) sB I I ⟨hva,hvb,hro,hfin (.inl I)⟩
     | cons x A3 =>
      have hpa : (0 : Int) < ((x :: A3).length : Int):=by simp
      cases B2 with
      | nil =>
       refine sQ (SC.sR (lM I (lU (eN uT29 I) (lU (SU.eq (v':=vb true) (gR I I) (congrArg vb (decide_eq_true hpa))) (lM I (lY I I I (mV I) (lY I I I (eN uT29 I) (lY I I I (SU.eq (v':=vb false) (gR I I) I) (lU (pT I I) (SL.nT (cF I (xI (tX (tX (bX ?_)))))))))))))))
       exact ST.mid (_,_,vo,x :: A3,[],out,ro) sB I I ⟨hva,hvb,hro,hfin (.inr I)⟩
      | cons y B3 =>
       have hpb : (0 : Int) < ((y :: B3).length : Int):=by simp
       obtain ⟨ra,hra,halla⟩:=hva
       obtain ⟨rb,hrb,hallb⟩:=hvb
       have hva : Cells g2 _ (x :: A3):=⟨ra,hra,halla⟩
       have hvb : Cells g2 _ (y :: B3):=⟨rb,hrb,hallb⟩
       have hna:=Cells.cut hva (a:=1) (b:=(x :: A3).length) (by simp) (lR _)
       have hnb:=Cells.cut hvb (a:=1) (b:=(y :: B3).length) (by simp) (lR _)
       have hda : ((x :: A3).drop 1).take ((x :: A3).length - 1) = A3:=by simp
       have hdb : ((y :: B3).drop 1).take ((y :: B3).length - 1) = B3:=by simp
       rw [hda] at hna
       rw [hdb] at hnb
       obtain ⟨x',ra',rfl,hx,_⟩:=All2.cons_left halla
       obtain ⟨y',rb',rfl,hy,_⟩:=All2.cons_left hallb
       have hba:=hra.based (by simp)
       have hbb:=hrb.based (by simp)
       have hlen3 : A3.length + 1 + (B3.length + 1) + out.length ≤ l.length:=by simp only [List.length_cons] at hAl hBl; omega
       refine sQ (SC.sR (lM I (lU (eN uT29 I) (lU (SU.eq (v':=vb true) (gR I I) (congrArg vb (decide_eq_true hpa))) (lM I (lY I I I (mV I) (lY I I I (eN uT29 I) (lY I I I (SU.eq (v':=vb true) (gR I I) (congrArg vb (decide_eq_true hpb))) (lU (pT I I) (SL.nT (cT I (kP (tN (bK (sQ ?_)))))))))))))))
       refine dW [] [(0,2),(1,2),(2,2),(3,1),(4,2),(5,2),(6,2),(7,1),(8,2)] Tryz.mixed (by kernel_rfl) ?_
       refine pU I (mV I) (pU I (iA uT29 zT40 I I hbb dC hpb) (pU I (fC uT40 I zT3 I hbb) (pK I (pA (e:=encCell) (o:=0) (j:=0) (u:=vi y'.id) iT3 I hrb.rd I I) (pU I (mV I) (pU I (iA uT29 zT40 I I hba dC hpa) (pU I (fC uT40 I zT3 I hba) (pK I (pA (e:=encCell) (o:=0) (j:=0) (u:=vi x'.id) iT3 I hra.rd I I) (pU I (lS I I) (pN (tN ?_))))))))))
       refine iP I (fun hc=>?_) (fun hc=>?_)
       ·refine SC.sR (lM I (lM I (lU (iA uT29 zT40 I I hbb dC hpb) (lK (eA (e:=encCell) (a:=y') (j:=0) iT40 zT40 I hrb.rd I) (lW (bS sty29 I I I (szs_mk sB) dC) ?_)))))
        rintro _ _ _ ⟨b60,rfl,rfl,rfl⟩
        refine lW (aP (e:=encCell) 0 y' sty29 I I I I I oM oM) ?_
        rintro v61 _ _ ⟨rfl,rfl⟩
        refine lA I (SL.nT (rG (lM I (lU (SU.sliceL uT29 zT40 I I dC (by simp only [List.length_cons]; omega)) ?_))))
        refine lA I (nL (bN ?_))
        rw [hx.1,hy.1] at hc
        refine gA (_,_,v61,A1,x :: A3,B1 ++ [y],B3,out ++ [y],ro ++ [y']) sB I I ⟨⟨hva,hnb⟩,hro.append ⟨hy,trivial⟩,hA',by rw [hB']; simp,?_,?_,?_,?_⟩ lN
        ·refine Srt.append_iff.2 ⟨hso,Srt.one y,fun a ha b hb=>?_⟩
         simp at hb; subst hb; exact hout a ha b (by simp)
        ·have h2:=hto.append (Stab.refl (key:=Cl.id) [y])
         simpa using h2
        ·intro a ha b hb
         dsimp only at ha hb
         rcases List.mem_append.1 ha with ha | ha
         ·refine hout a ha b ?_
          simp at hb ⊢
          rcases hb with h | h | h
          ·exact .inl h
          ·exact .inr (.inl h)
          ·exact .inr (.inr (.inr h))
         ·simp at ha; subst ha
          rcases List.mem_append.1 hb with hb | hb
          ·rcases List.mem_cons.1 hb with rfl | hb
           ·omega
           ·have:=(Srt.cons_iff.1 hsa2).1 b hb; omega
          ·exact (Srt.cons_iff.1 hsb2).1 b hb
        ·intro a ha b hb
         dsimp only at ha hb
         rcases List.mem_append.1 ha with ha | ha
         ·exact hlt a ha b hb
         ·simp at ha; subst ha
          rcases List.mem_cons.1 hb with rfl | hb
          ·omega
          ·have:=(Srt.cons_iff.1 hsa2).1 b hb; omega
       ·refine SC.sR (lM I (lM I (lU (iA uT29 zT40 I I hba dC hpa) (lK (eA (e:=encCell) (a:=x') (j:=0) iT40 zT40 I hra.rd I) (lW (bS sty29 I I I (szs_mk sB) dC) ?_)))))
        rintro _ _ _ ⟨b68,rfl,rfl,rfl⟩
        refine lW (aP (e:=encCell) 0 x' sty29 I I I I I oM oM) ?_
        rintro v69 _ _ ⟨rfl,rfl⟩
        refine lA I (SL.nT (rG (lM I (lU (SU.sliceL uT29 zT40 I I dC (by simp only [List.length_cons]; omega)) ?_))))
        refine lA I (nL (bN ?_))
        rw [hx.1,hy.1] at hc
        refine gA (_,_,v69,A1 ++ [x],A3,B1,y :: B3,out ++ [x],ro ++ [x']) sB I I ⟨⟨hna,hvb⟩,hro.append ⟨hx,trivial⟩,by rw [hA']; simp,hB',?_,?_,?_,?_⟩ lN
        ·refine Srt.append_iff.2 ⟨hso,Srt.one x,fun a ha b hb=>?_⟩
         simp at hb; subst hb; exact hout a ha b (by simp)
        ·have h2 : Stab Cl.id ([x] ++ B1) (B1 ++ [x]):=Stab.swap (fun a ha b hb=>by simp at ha; subst ha; have:=hlt b hb a (by simp); omega)
         have h3:=(Stab.refl (key:=Cl.id) A1).append h2
         have h4:=hto.append (Stab.refl (key:=Cl.id) [x])
         dsimp only
         simp only [List.append_assoc] at h3 h4 ⊢
         exact h3.trans h4
        ·intro a ha b hb
         dsimp only at ha hb
         rcases List.mem_append.1 ha with ha | ha
         ·refine hout a ha b ?_
          simp at hb ⊢
          rcases hb with h | h | h
          ·exact .inr (.inl h)
          ·exact .inr (.inr (.inl h))
          ·exact .inr (.inr (.inr h))
         ·simp at ha; subst ha
          rcases List.mem_append.1 hb with hb | hb
          ·exact (Srt.cons_iff.1 hsa2).1 b hb
          ·rcases List.mem_cons.1 hb with rfl | hb
           ·omega
           ·have:=(Srt.cons_iff.1 hsb2).1 b hb; omega
        ·intro a ha b hb
         exact hlt a ha b (by simp [hb])
    ·rintro ⟨va,vb1,vo,A2,B2,out,ro⟩ ⟨hva,hvb,hro,hres⟩
     dsimp only at hva hvb hro hres ⊢
     obtain ⟨ra,hra,halla⟩:=hva
     obtain ⟨rb,hrb,hallb⟩:=hvb
     have hl1:=congrArg List.length hres
     rw [canonC_length] at hl1
     simp only [List.length_append] at hl1
     have e1:=hro.length
     have e2:=halla.length
     have e3:=hallb.length
     refine SC.sR (lM I (lM I (lW (aQ (e:=encCell) 0 sty29 I I I hra oM oM) ?_)))
     rintro v74 _ _ ⟨rfl,rfl⟩
     refine lM I (lW (aQ (e:=encCell) 0 sty29 I I I hrb lN lN) ?_)
     rintro v76 _ _ ⟨rfl,rfl⟩
     refine lA I (SL.nT (rE (fT fun g3 hle3 hs3=>?_)))
     exact ST.ret1 (.inl I) results106 I ⟨I,hle1.trans (hle2.trans hle3),ro ++ ra ++ rb,hs3,by rw [← hres]; exact (((hro.append halla).append hallb).mono fun _ _=>CellR.mono hle3)⟩
theorem refCanon_spec (E : World) (g : PH) (s : Own) (v : Value) (l : List Cl) (hv : Cells g v l) (hf : Fits l) :
  Ctr Tryz.prog E 44 #[.agg #[v]] g s (fun r g' s'=>s = s' ∧ Le g g' ∧ ∃ u,r = .agg #[u] ∧ Cells g' u (canonC l)):=by
 obtain ⟨p,c,rfl⟩:=hv.form
 refine Ctr.of (args:=[.agg #[.slice p l.length c]]) func44 I ntmps44 (bE I) ?_
 refine SC.sR (SL.bx (bO I) fun b1=>?_)
 refine SL.bx (aL zeroValue31) fun b2=>?_
 refine SL.nT (SC.sR (lU (fA uT31 I zT29 I) (lK (qL iT29 I (cO 1 I I)) (lW (cL call106 I (ordered_spec E l.length g _ _ l (lR _) hv hf)) ?_))))
 rintro v5 g1 _ ⟨rfl,hle,h5⟩
 obtain ⟨q,d,rfl⟩:=h5.form
 refine lU (SU.build I (build31 _ I)) (SL.O2 (sK 0 zT31 I I I I I sB) ?_)
 refine SL.nT (rE ?_)
 exact ST.retCD 0 s (.inl I) results44 I iT31 zT31 I I (.cons _ (.cons _ (.refl _))) ⟨I,hle,_,I,h5⟩
theorem foldl_ids (l : List Cl) : ∀ (acc : List Cl) (c : Cl),(c ∈ acc ∨ c ∈ l) → ∃ x ∈ l.foldl addC acc,x.id = c.id:=by
 induction l with
 | nil=>intro acc c h; rcases h with h | h; exact ⟨c,h,rfl⟩; simp at h
 | cons y r ih =>
  intro acc c h
  simp only [List.foldl_cons]
  rcases h with h | h
  ·exact ih (addC acc y) c (.inl (by unfold addC; split; exact h; simp [h]))
  ·rcases List.mem_cons.1 h with rfl | h
   ·by_cases ha : acc.any (fun x=>x.id == c.id) = true
    ·rw [addC_old ha]
     rw [List.any_eq_true] at ha
     obtain ⟨z,hz,he⟩:=ha
     obtain ⟨x,hx,hxe⟩:=ih acc z (.inl hz)
     exact ⟨x,hx,by rw [hxe]; simpa using he⟩
    ·have ha' : acc.any (fun x=>x.id == c.id) = false:=by simpa using ha
     rw [addC_new ha']
     exact ih _ c (.inl (by simp))
   ·exact ih _ c (.inr h)
theorem srt_any {L : List Cl} (hs : Srt Cl.id L) {k : Nat} (h0 : 0 < k) (hk : k < L.length) : ((L.take k).foldl addC []).any (fun x=>x.id == L[k].id) = decide (L[k].id = (L[k - 1]'oM).id):=by
 rw [Bool.eq_iff_iff,List.any_eq_true,decide_eq_true_iff]
 constructor
 ·rintro ⟨x,hx,he⟩
  have hm:=(mem_foldl _ [] x hx).resolve_left (by simp)
  obtain ⟨j,hj,rfl⟩:=List.getElem_of_mem hm
  rw [List.length_take] at hj
  rw [List.getElem_take] at he
  have he' : (L[j]'oM).id = L[k].id:=by simpa using he
  rcases Nat.lt_or_ge j (k - 1) with h | h
  ·have h1:=List.pairwise_iff_getElem.1 hs j (k - 1) oM oM h
   have h2:=List.pairwise_iff_getElem.1 hs (k - 1) k oM hk oM
   omega
  ·have : j = k - 1:=oM
   subst this
   exact he'.symm
 ·intro he
  have hm : (L[k - 1]'oM) ∈ L.take k:=by
   have : k - 1 < (L.take k).length:=by rw [List.length_take]; omega
   have h2:=gM this
   rwa [List.getElem_take] at h2
  obtain ⟨x,hx,hxe⟩:=foldl_ids (L.take k) [] _ (.inr hm)
  exact ⟨x,hx,by rw [hxe,← he]; simp⟩
theorem refCells_spec (E : World) (g : PH) (s : Own) (v : Value) (l : List Cl) (hv : Cells g v l) (hf : Fits l) :
  Ctr Tryz.prog E 102 #[.agg #[v]] g s (fun r g' s'=>s = s' ∧ Le g g' ∧ Cells g' r (tabC l)):=by
 obtain ⟨p,c,rfl⟩:=hv.form
 have hsrt:=canonC_srt l
 have hcl:=canonC_length l
 have hfl:=hf.1
 refine Ctr.of (args:=[.agg #[.slice p l.length c]]) func102 I ntmps102 (bE I) ?_
 refine SC.sR (SL.bx (bO I) fun b1=>?_)
 refine lA I (SL.nT (SC.sR (lU (fA uT31 I zT29 I) (lK (qL iT29 I (cO 0 I I)) (lW (cL call106 I (ordered_spec E l.length g _ _ l (lR _) hv hf)) ?_)))))
 rintro v8 g1 _ ⟨rfl,hle,h8⟩
 obtain ⟨rs,hrs,hall⟩:=h8
 have hrl:=hall.length
 obtain ⟨q,d,rfl⟩:=hrs.form
 refine lA I (SL.nT (SC.sR (lA I (SL.nT (sQ (SC.sR (lA I (SL.nT (bK (SC.nilRow 40 3 ?_))))))))))
 refine oP (ι:=Value × Nat × List Rc) (fun i=>[(3,.slice q rs.length d),(4,i.1),(5,vi i.2.1)]) (fun _=>g1) (fun i=>rowA encCell 40 i.1 i.2.2 :: pt b1 (.cells #[.slice p l.length c] 31 (0,0)) :: s)
  (fun i=>i.2.1 ≤ rs.length ∧ All2 (CellR g1) (((canonC l).take i.2.1).foldl addC []) i.2.2) (fun i=>rs.length - i.2.1) (.slice none 0 0,0,[]) sB rfl rfl ⟨Nat.zero_le _,by simp [All2]⟩ ?_
 rintro ⟨ov,k,acc⟩ ⟨hk,hacc⟩
 dsimp only at hk hacc ⊢
 have hal:=hacc.length
 have hal2:=foldl_add_length ((canonC l).take k) []
 simp only [List.length_take,List.length_nil] at hal2
 refine sQ (SC.sR (lM I (lM I (lU (eN uT29 I) (lU (lS I I) (SL.nT ?_))))))
 refine iP I (fun hlt=>?_) (fun hlt=>?_)
 ·have hkr : k < rs.length:=oM
  have hkl : k < (canonC l).length:=oM
  have hb1:=hrs.based oM
  have hcr:=hall.get (gE hkl) (gE hkr)
  have htake : ((canonC l).take (k + 1)).foldl addC [] = addC (((canonC l).take k).foldl addC []) (canonC l)[k]:=by
   rw [tS hkl,List.foldl_append]; rfl
  have hgx : rs[((k : Nat) : Int).toNat]? = some rs[k]:=gE hkr
  have hnew : addC (((canonC l).take k).foldl addC []) (canonC l)[k] = ((canonC l).take k).foldl addC [] ++ [(canonC l)[k]] → All2 (CellR g1) (((canonC l).take (k + 1)).foldl addC []) (acc ++ [rs[k]]):=fun h=>by
   rw [htake,h]; exact hacc.append ⟨hcr,trivial⟩
  by_cases hk0 : k = 0
  ·subst hk0
   refine kP (tN (sQ (bK (sQ ?_))))
   refine dW [] [(0,2),(1,2),(2,2),(3,2),(4,2),(5,2),(6,2),(7,1),(8,2),(9,2),(10,2),(11,2),(12,2),(13,1),(14,2),(15,2)] Tryz.mixed (by kernel_rfl) ?_
   refine pU I (mV I) (pU I (SU.eq (v':=vb true) (eQ I I) I) (pU I (mV I) (fP I (gF I I I dC) dC (fP I (gF I I I dC) dC (fP I (gF I I I dC) dC (fP I (gF I I I dC) dC (SP.off1 I (gF I I I dC) dC (fP I (gF I I I dC) dC (fP I (gF I I I dC) dC (fP I (gF I I I dC) dC (fP I (gF I I I dC) dC (fP I (gF I I I dC) dC (SP.off1 I (gF I I I dC) dC (fP I (gF I I I dC) dC (pU I (pT I I) (pN (tN (cT I (rG (lM I (lM I (lM I (lU (iA uT29 zT40 I I hb1 oM sL) (lK (eA iT40 zT40 I hrs.rd hgx) (lW (bS sty29 I I I (szs_mk sB) dC) ?_)))))))))))))))))))))))))
   rintro _ _ _ ⟨b36,rfl,rfl,rfl⟩
   refine lW (aP (e:=encCell) 0 rs[0] sty29 I I I I I oM oM) ?_
   rintro v37 _ _ ⟨rfl,rfl⟩
   refine lA I (nL (bN (tN (rG (lM I (lU (aD I I oM) (lA I (nL ?_))))))))
   exact gA (v37,0 + 1,acc ++ [rs[0]]) sB I I ⟨lN,hnew (addC_new (by simp))⟩ lN
  ·have hk1 : k - 1 < rs.length:=oM
   have hk1l : k - 1 < (canonC l).length:=oM
   have hany:=srt_any hsrt (by omega : 0 < k) hkl
   have hcr1:=hall.get (gE hk1l) (gE hk1)
   have hgy : rs[((k : Int) - 1).toNat]? = some rs[k - 1]:=by rw [show ((k : Int) - 1).toNat = k - 1 by omega]; exact gE hk1
   refine kP (tN (sQ (bK (sQ ?_))))
   refine dW [] [(0,2),(1,2),(2,2),(3,2),(4,2),(5,2),(6,2),(7,1),(8,2),(9,2),(10,2),(11,2),(12,2),(13,1),(14,2),(15,2)] Tryz.mixed (by kernel_rfl) ?_
   refine pU I (mV I) (pU I (SU.eq (v':=vb false) (eQ I I) (congrArg vb (decide_eq_false oM))) (pU I (mV I) (SP.gu I (gT I I I dC) (mV I) dC (SP.gu I (gT I I I dC) (mV I) dC (SP.gu I (gT I I I dC) (iA uT29 zT40 I I hb1 oM sL) dC (SP.gu I (gT I I I dC) (fC uT40 I zT3 I hb1) dC (SP.gq I (gT I I I dC) (pA (e:=encCell) (o:=0) (u:=vi rs[k].id) iT3 I hrs.rd hgx I) dC (SP.gu I (gT I I I dC) (mV I) dC (SP.gu I (gT I I I dC) (mV I) dC (SP.gu I (gT I I I dC) (sU I I oM) dC (SP.gu I (gT I I I dC) (iA uT29 zT40 I I hb1 oM sL) dC (SP.gu I (gT I I I dC) (fC uT40 I zT3 I hb1) dC (SP.gq I (gT I I I dC) (pA (e:=encCell) (o:=0) (u:=vi rs[k - 1].id) iT3 I hrs.rd hgy I) dC (SP.gu I (gT I I I dC) (nQ I I) dC (pU I (pF I I) (pN (tN ?_)))))))))))))))))
   refine iP I (fun hne=>?_) (fun hne=>?_)
   ·refine rG (lM I (lM I (lM I (lU (iA uT29 zT40 I I hb1 oM sL) (lK (eA iT40 zT40 I hrs.rd hgx) (lW (bS sty29 I I I (szs_mk sB) dC) ?_))))))
    rintro _ _ _ ⟨b36,rfl,rfl,rfl⟩
    refine lW (aP (e:=encCell) 0 rs[k] sty29 I I I I I oM oM) ?_
    rintro v37 _ _ ⟨rfl,rfl⟩
    refine lA I (nL (bN (tN (rG (lM I (lU (aD I I oM) (lA I (nL ?_))))))))
    rw [hcr.1,hcr1.1] at hne
    exact gA (v37,k + 1,acc ++ [rs[k]]) sB I I ⟨lN,hnew (addC_new (by rw [hany]; exact decide_eq_false hne))⟩ lN
   ·refine kP (bN (tN (rG (lM I (lU (aD I I oM) (lA I (nL ?_)))))))
    rw [hcr.1,hcr1.1] at hne
    exact gA (ov,k + 1,acc) sB I I ⟨lN,by dsimp only; rw [htake,addC_old (by rw [hany]; exact decide_eq_true (Decidable.of_not_not hne))]; exact hacc⟩ lN
 ·have hkk : (canonC l).take k = canonC l:=tL oM
  rw [hkk] at hacc
  refine xI (tX (tX (bX (tN (SC.sR (lM I (lA I (SL.nT (rE (fT fun g2 hle2 hs2=>?_))))))))))
  refine dR (s':=s) (.cons _ (.refl _)) ?_
  exact ST.ret1 (.inl I) results102 I ⟨I,hle.trans hle2,acc,hs2,hacc.mono fun _ _=>CellR.mono hle2⟩
def atC (l : List Cl) (id : Int) : Int:=if (l.map Cl.id).contains id then lbI (l.map Cl.id) id else -1
theorem at_spec (E : World) (g : PH) (s : Own) (v : Value) (l : List Cl) (id : Int) (hv : Cells g v l) (hl : l.length < 1099511627776) (hs : (l.map Cl.id).Pairwise (· ≤ ·)) :
  Ctr Tryz.prog E 103 #[v,vi id] g s (fun r g' s'=>r = vi (atC l id) ∧ g = g' ∧ s = s'):=by
 obtain ⟨rs,hrs,hall⟩:=hv
 have hrl:=hall.length
 obtain ⟨p,c,rfl⟩:=hrs.form
 have hids:=all2_ids hall
 have hml : (l.map Cl.id).length = l.length:=by simp
 have hri : ∀ k (h : k < (l.map Cl.id).length) (h2 : k < rs.length),(l.map Cl.id)[k] = rs[k].id:=fun k h h2=>by simp only [hids]; simp
 unfold atC
 refine Ctr.of (args:=[.slice p rs.length c,vi id]) func103 I ntmps103 (bE I) ?_
 refine SC.sR (lA I (SL.nT (SC.sR (lA I (SL.nT (SC.sR (lM I (lU (eN uT29 I) (lA I (SL.nT ?_))))))))))
 generalize l.map Cl.id = L at *
 refine SC.cut (ι:=Nat) (fun i=>[(0,.slice p rs.length c),(1,vi id),(5,vi i)]) (fun _=>g) (fun _=>s) (fun i=>i ≤ L.length ∧ (∀ k (h : k < L.length),k < i → L[k] < id) ∧ ∀ k (h : k < L.length),i ≤ k → id ≤ L[k]) ?_ ?_
 ·refine bK ?_
  refine oP (ι:=Nat × Nat) (fun q=>[(0,.slice p rs.length c),(1,vi id),(5,vi q.1),(6,vi q.2)]) (fun _=>g) (fun _=>s)
   (fun q=>q.1 ≤ q.2 ∧ q.2 ≤ L.length ∧ (∀ k (h : k < L.length),k < q.1 → L[k] < id) ∧ ∀ k (h : k < L.length),q.2 ≤ k → id ≤ L[k]) (fun q=>q.2 - q.1) (0,L.length)
   ⟨rfl,rfl,rfl,vi_eq oM,trivial⟩ rfl rfl ⟨Nat.zero_le _,lR _,fun k _ h=>absurd h oM,fun k h1 h2=>absurd h1 (by dsimp only at h2; omega)⟩ ?_
  rintro ⟨i,j⟩ ⟨hij,hj,hlo,hhi⟩
  dsimp only at hij hj hlo hhi ⊢
  refine sQ (SC.sR (lM I (lM I (lU (lS I I) (SL.nT ?_)))))
  refine iP I (fun hlt=>?_) (fun hlt=>?_)
  ·have hb1:=hrs.based oM
   have hml2 : (i + j) / 2 < L.length:=oM
   have hmr : (i + j) / 2 < rs.length:=oM
   have hmx : rs[((((i + j) / 2 : Nat) : Int)).toNat]? = some rs[(i + j) / 2]:=gE hmr
   have hmi:=hri _ hml2 hmr
   refine kP (tN (bK (SC.sR (lM I (lM I (lU (aD I I oM) (lU (SU.eq (v':=vi (((i + j) / 2 : Nat) : Int)) (SU.quo I I dC) (congrArg vi (by rw [← Int.natCast_add]; exact half_tdiv _ oM))) ?_)))))))
   refine lA I (SL.nT (SC.sR (lM I (lM I (lU (iA uT29 zT40 I I hb1 oM sL) (lU (fC uT40 I zT3 I hb1) (lK (pA (e:=encCell) (o:=0) (u:=vi rs[(i + j) / 2].id) iT3 I hrs.rd hmx I) (lM I (lU (lS I I) (SL.nT ?_))))))))))
   refine iP I (fun hc=>?_) (fun hc=>?_)
   ·refine rG (lM I (lU (aD I I oM) (lA I (nL (bN ?_)))))
    refine gA ((i + j) / 2 + 1,j) sB I I ⟨lN,hj,fun k hk h=>?_,hhi⟩ lN
    dsimp only at h
    rw [← hmi] at hc
    rcases Nat.eq_or_lt_of_le (show k ≤ (i + j) / 2 by omega) with rfl | h'
    ·exact hc
    ·have:=List.pairwise_iff_getElem.1 hs k ((i + j) / 2) hk hml2 h'
     omega
   ·refine rG (lM I (lA I (nL (bN ?_))))
    refine gA (i,(i + j) / 2) sB I I ⟨lN,lN,hlo,fun k hk h=>?_⟩ lN
    dsimp only at h
    rw [← hmi] at hc
    rcases Nat.eq_or_lt_of_le (show (i + j) / 2 ≤ k by omega) with h' | h'
    ·subst h'; omega
    ·have:=List.pairwise_iff_getElem.1 hs ((i + j) / 2) k hml2 hk h'
     omega
  ·have hie : i = j:=oM
   subst hie
   refine xI (tX (tX (bX ?_)))
   exact ST.mid i sB I I ⟨hj,hlo,hhi⟩
 ·rintro i ⟨hj,hlo,hhi⟩
  have hlb:=lb_eq hj hlo hhi
  by_cases hin : (i : Int) < (rs.length : Int)
  ·have hir : i < rs.length:=oM
   have hil : i < L.length:=oM
   have hb1:=hrs.based oM
   have hmx : rs[((i : Nat) : Int).toNat]? = some rs[i]:=gE hir
   have hmi:=hri _ hil hir
   have hfnd:=found_eq hs hlo hhi hil
   refine sQ (SC.sR (lM I (lM I (lU (eN uT29 I) (lU (SU.eq (v':=vb true) (lS I I) (congrArg vb (decide_eq_true hin))) (lM I (lY I I I (mV I) (lY I I I (mV I) (lY I I I (iA uT29 zT40 I I hb1 oM sL) (lY I I I (fC uT40 I zT3 I hb1) (SL.gq (gT I I I dC) (pA (e:=encCell) (o:=0) (u:=vi rs[i].id) iT3 I hrs.rd hmx I) dC (lY I I I (mV I) (lY I I I (eQ I I) (lU (pT I I) (SL.nT ?_)))))))))))))))
   refine iP I (fun hc=>?_) (fun hc=>?_)
   ·refine SC.sR (lM I (lA I (SL.nT (rE (tR ?_)))))
    rw [← hmi] at hc
    exact ST.ret1 (.inl I) results103 I ⟨by rw [← hfnd,decide_eq_true hc,if_pos I,hlb],I,I⟩
   ·refine kP (tN (SC.sR (lA I (SL.nT (rE ?_)))))
    rw [← hmi] at hc
    exact ST.ret1 (.inl rfl) results103 rfl ⟨by rw [← hfnd,decide_eq_false hc]; rfl,rfl,rfl⟩
  ·have hnf:=notFound hlo oM
   refine sQ (SC.sR (lM I (lM I (lU (eN uT29 I) (lU (SU.eq (v':=vb false) (lS I I) (congrArg vb (decide_eq_false hin))) (lM I (lZ I I I (lZ I I I (lZ I I I (lZ I I I (lZ I I I (lZ I I I (lZ I I I (lU (pF I I) (SL.nT (cF I (kP (tN (SC.sR (lA I (SL.nT (rE ?_))))))))))))))))))))))
   exact ST.ret1 (.inl rfl) results103 rfl ⟨by rw [hnf]; rfl,rfl,rfl⟩
theorem lbI_split {l : List Int} (hs : l.Pairwise (· ≤ ·)) (x : Int) : (∀ k (h : k < l.length),k < lbI l x → l[k] < x) ∧ (∀ k (h : k < l.length),lbI l x ≤ k → x ≤ l[k]):=by
 induction l with
 | nil=>exact ⟨fun k h=>absurd h (by simp),fun k h=>absurd h (by simp)⟩
 | cons a r ih =>
  obtain ⟨h1,h2⟩:=List.pairwise_cons.1 hs
  obtain ⟨i1,i2⟩:=ih h2
  by_cases ha : a < x
  ·have hl : lbI (a :: r) x = lbI r x + 1:=by simp [lbI,ha]
   rw [hl]
   refine ⟨fun k h hk=>?_,fun k h hk=>?_⟩
   ·cases k with
    | zero=>exact ha
    | succ k=>exact i1 k (by simpa using h) oM
   ·cases k with
    | zero=>omega
    | succ k=>exact i2 k (by simpa using h) oM
  ·have hz : lbI (a :: r) x = 0:=by
    unfold lbI
    rw [List.length_eq_zero_iff,List.filter_eq_nil_iff]
    intro y hy
    rcases List.mem_cons.1 hy with rfl | hy
    ·simpa using Int.not_lt.1 ha
    ·have:=h1 y hy; simp; omega
   rw [hz]
   refine ⟨fun k h hk=>absurd hk oM,fun k h _=>?_⟩
   cases k with
   | zero=>exact Int.not_lt.1 ha
   | succ k =>
    have hk' : k < r.length:=by simpa using h
    have:=h1 r[k] (gM hk')
    simp
    omega
theorem at_find {tl : List Cl} (hs : (tl.map Cl.id).Pairwise (· ≤ ·)) (id : Int) : (findT tl id = none ∧ atC tl id = -1) ∨ ∃ c k,findT tl id = some c ∧ atC tl id = ((k : Nat) : Int) ∧ tl[k]? = some c:=by
 obtain ⟨h1,h2⟩:=lbI_split hs id
 by_cases hc : (tl.map Cl.id).contains id = true
 ·right
  have hm : id ∈ tl.map Cl.id:=by simpa using hc
  obtain ⟨c0,hc0,e0⟩:=List.mem_map.1 hm
  cases hf : findT tl id with
  | none =>
   have:=List.find?_eq_none.1 hf c0 hc0
   simp [e0] at this
  | some c =>
   have hi : lbI (tl.map Cl.id) id < tl.length:=by
    rcases Nat.lt_or_ge (lbI (tl.map Cl.id) id) tl.length with h | h
    ·exact h
    ·obtain ⟨j,hj,rfl⟩:=List.getElem_of_mem hc0
     have:=h1 j (by simpa using hj) oM
     simp at this
     omega
   refine ⟨c,lbI (tl.map Cl.id) id,I,by unfold atC; rw [if_pos hc],?_⟩
   rw [gE hi]
   have hge:=h2 _ (by simpa using hi) (lR _)
   have hid : tl[lbI (tl.map Cl.id) id].id = id:=by
    obtain ⟨j,hj,rfl⟩:=List.getElem_of_mem hc0
    have hji : lbI (tl.map Cl.id) id ≤ j:=by
     rcases Nat.lt_or_ge j (lbI (tl.map Cl.id) id) with h | h
     ·have:=h1 j (by simpa using hj) h; simp at this; omega
     ·exact h
    rcases Nat.eq_or_lt_of_le hji with h | h
    ·simp only [h]; exact e0
    ·have h3:=List.pairwise_iff_getElem.1 hs _ j (by simpa using hi) (by simpa using hj) h
     simp at h3 hge
     omega
   unfold findT at hf
   rw [List.find?_eq_some_iff_getElem] at hf
   obtain ⟨hp,j,hj,ej,hlt⟩:=hf
   have hp' : c.id = id:=by simpa using hp
   congr 1
   rw [← ej]
   have hji : j = lbI (tl.map Cl.id) id:=by
    rcases Nat.lt_trichotomy j (lbI (tl.map Cl.id) id) with h | h | h
    ·have:=h1 j (by simpa using hj) h; simp [ej,hp'] at this
    ·exact h
    ·have:=hlt _ h; simp [hid] at this
   simp only [hji]
 ·left
  have hn : id ∉ tl.map Cl.id:=by simpa using hc
  refine ⟨?_,by unfold atC; rw [if_neg hc]⟩
  unfold findT
  rw [List.find?_eq_none]
  intro x hx
  simp
  exact fun e=>hn (List.mem_map.2 ⟨x,hx,e⟩)
theorem two_signs {l : List Side} (h2 : l.length = 2) (hns : l.any signBad = false) : ∃ a b,l = [a,b] ∧ (decide (sumS l ≠ 0)) = decide (a.sign = b.sign):=by
 match l,h2 with
 | [a,b],_ =>
  simp only [List.any_cons,List.any_nil,Bool.or_false,Bool.or_eq_false_iff] at hns
  have e1 : a.sign = 1 ∨ a.sign = -1:=by
   have h1:=hns.1
   simp only [signBad,Bool.and_eq_false_iff,decide_eq_false_iff_not,ne_eq,Decidable.not_not] at h1
   exact h1
  have e2 : b.sign = 1 ∨ b.sign = -1:=by
   have h1:=hns.2
   simp only [signBad,Bool.and_eq_false_iff,decide_eq_false_iff_not,ne_eq,Decidable.not_not] at h1
   exact h1
  refine ⟨a,b,I,?_⟩
  rw [Bool.eq_iff_iff]
  simp [sumS]
  omega
theorem first_spec (E : World) (g : PH) (s : Own) (v : Value) (tl : List Cl) (c : Cl) (r : Rc) (hv : Cells g v tl) (htl : tl.length < 1099511627776) (hs : (tl.map Cl.id).Pairwise (· ≤ ·)) (hc : CellR g c r) (hl : c.sides.length < 1099511627776) :
  Ctr Tryz.prog E 107 #[v,rcv r] g s (fun r g' s'=>r = vi (formC tl c) ∧ g = g' ∧ s = s'):=by
 obtain ⟨rs,hrs,hall⟩:=hv
 have hv : Cells g v tl:=⟨rs,hrs,hall⟩
 have hrl:=hall.length
 obtain ⟨vp,vc,rfl⟩:=hrs.form
 obtain ⟨rp,rcap,rfl,hcs⟩:=cellR_form hc
 have hx0:=fun h=>hcs.based h
 refine Ctr.of (args:=[.slice vp rs.length vc,.agg #[vi c.id,vi c.dim,.slice rp c.sides.length rcap]]) func107 I ntmps107 (bE I) ?_
 refine SC.sR (SL.bx (bO I) fun b3=>?_)
 refine lA I (SL.nT (sQ ?_))
 refine SC.to (g':=g) (s':=pt b3 (.cells #[vi c.id,vi c.dim,.slice rp c.sides.length rcap] 40 (0,0)) :: s) (fun w hw=>hw) ?_
 refine SC.cutB 16 (dimBad c) ?_ ?_
 ·refine rG (lU (fA uT40 I zT3 I) (lK (qL (v:=vi c.dim) iT3 I (cO 0 I I)) (lU (lS I I) (lM I ?_))))
  refine sP ?_ ?_
  ·intro h12
   refine lZ I I I (lZ I I I (lZ I I I (lU (pT I I) (nL ?_))))
   exact ST.mid1 (by simp_all [get?,dimBad] <;> omega) mI
  ·intro h12
   refine lY I I I (fA uT40 I zT3 I) (SL.gq (gT I I I dC) (qL (v:=vi c.dim) iT3 I (cO 0 I I)) dC (lY I I I (gR I I) (lU (pF I I) (nL ?_))))
   exact ST.mid1 (by simp_all [get?,dimBad] <;> omega) mI
 refine iQ I (fun hdb=>?_) (fun hdb=>?_)
 ·refine SC.sR (lA I (SL.nT (rE (tR (dR (s':=s) (.cons _ (.refl _)) ?_)))))
  exact ST.ret1 (.inl I) results107 I ⟨by unfold formC; rw [if_pos hdb],I,I⟩
 ·have hd8 : 0 ≤ c.dim ∧ c.dim ≤ 8:=by simp [dimBad] at hdb; omega
  refine kP (tN (SC.sR (lU (fA uT40 I zT38 I) (lK (qL (v:=.slice rp c.sides.length rcap) iT38 I (cO 0 I I)) (lU (eN uT38 I) (lA I (SL.nT (sQ ?_))))))))
  refine SC.cutB 48 (cntBad c) ?_ ?_
  ·refine rG (lU (fA uT40 I zT3 I) (lK (qL (v:=vi c.dim) iT3 I (cO 0 I I)) (lU (eQ I I) (lM I ?_))))
   refine sP ?_ ?_
   ·intro h23
    refine lY I I I (mV I) (lY I I I (gR I I) (lU (pT I I) (lM I ?_)))
    refine sP ?_ ?_
    ·intro h27
     refine lZ I I I (lZ I I I (lZ I I I (lZ I I I (SL.off (Gd.off I I I dC) dC (SL.off (Gd.off I I I dC) dC (lZ I I I (lU (pT I I) (lM I (lZ I I I (lZ I I I (lZ I I I (lZ I I I (SL.off (Gd.off I I I dC) dC (SL.off (Gd.off I I I dC) dC (SL.off (Gd.off I I I dC) dC (SL.off (Gd.off I I I dC) dC (SL.off (Gd.off I I I dC) dC (SL.off (Gd.off I I I dC) dC (lZ I I I (lU (pT I I) (nL ?_)))))))))))))))))))))
     exact ST.mid1 (by simp_all [get?,cntBad] <;> omega) mI
    ·intro h27
     refine lY I I I (fA uT40 I zT3 I) (SL.gq (gT I I I dC) (qL (v:=vi c.dim) iT3 I (cO 0 I I)) dC (lY I I I (eQ I I) (lY I I I (mV I) ?_)))
     refine sP ?_ ?_
     ·intro h31
      refine lY I I I (mV I) (lY I I I (nQ I I) (lY I I I (pT I I) (lU (pF I I) (lM I ?_))))
      refine sP ?_ ?_
      ·intro h36
       refine lZ I I I (lZ I I I (lZ I I I (lZ I I I (SL.off (Gd.off I I I dC) dC (SL.off (Gd.off I I I dC) dC (SL.off (Gd.off I I I dC) dC (SL.off (Gd.off I I I dC) dC (SL.off (Gd.off I I I dC) dC (SL.off (Gd.off I I I dC) dC (lZ I I I (lU (pT I I) (nL ?_))))))))))))
       exact ST.mid1 (by simp_all [get?,cntBad] <;> omega) mI
      ·intro h36
       refine lY I I I (fA uT40 I zT3 I) (SL.gq (gT I I I dC) (qL (v:=vi c.dim) iT3 I (cO 0 I I)) dC (lY I I I (gR I I) (lY I I I (mV I) ?_)))
       refine sP ?_ ?_
       ·intro h40
        refine lY I I I (mV I) (lY I I I (lS I I) (lY I I I (mV I) ?_))
        refine sP ?_ ?_
        ·intro h43
         refine lZ I I I (lZ I I I (lY I I I (pT I I) (lY I I I (pT I I) (lU (pF I I) (nL ?_)))))
         exact ST.mid1 (by simp_all [get?,cntBad] <;> omega) mI
        ·intro h43
         refine lY I I I (mV I) (lY I I I (gR I I) (lY I I I (pF I I) (lY I I I (pT I I) (lU (pF I I) (nL ?_)))))
         exact ST.mid1 (by simp_all [get?,cntBad] <;> omega) mI
       ·intro h40
        refine lZ I I I (lZ I I I (lZ I I I (SL.off (Gd.off I I I dC) dC (SL.off (Gd.off I I I dC) dC (lZ I I I (lY I I I (pF I I) (lU (pF I I) (nL ?_))))))))
        exact ST.mid1 (by simp_all [get?,cntBad] <;> omega) mI
     ·intro h31
      refine lZ I I I (lZ I I I (lY I I I (pF I I) (lU (pF I I) (lM I (lY I I I (fA uT40 I zT3 I) (SL.gq (gT I I I dC) (qL (v:=vi c.dim) iT3 I (cO 0 I I)) dC (lY I I I (gR I I) (lY I I I (mV I) ?_))))))))
      refine sP ?_ ?_
      ·intro h40
       refine lY I I I (mV I) (lY I I I (lS I I) (lY I I I (mV I) ?_))
       refine sP ?_ ?_
       ·intro h43
        refine lZ I I I (lZ I I I (lY I I I (pT I I) (lY I I I (pT I I) (lU (pF I I) (nL ?_)))))
        exact ST.mid1 (by simp_all [get?,cntBad] <;> omega) mI
       ·intro h43
        refine lY I I I (mV I) (lY I I I (gR I I) (lY I I I (pF I I) (lY I I I (pT I I) (lU (pF I I) (nL ?_)))))
        exact ST.mid1 (by simp_all [get?,cntBad] <;> omega) mI
      ·intro h40
       refine lZ I I I (lZ I I I (lZ I I I (SL.off (Gd.off I I I dC) dC (SL.off (Gd.off I I I dC) dC (lZ I I I (lY I I I (pF I I) (lU (pF I I) (nL ?_))))))))
       exact ST.mid1 (by simp_all [get?,cntBad] <;> omega) mI
   ·intro h23
    refine lZ I I I (lZ I I I (lU (pF I I) (lM I (lY I I I (fA uT40 I zT3 I) (SL.gq (gT I I I dC) (qL (v:=vi c.dim) iT3 I (cO 0 I I)) dC (lY I I I (eQ I I) (lY I I I (mV I) ?_)))))))
    refine sP ?_ ?_
    ·intro h31
     refine lY I I I (mV I) (lY I I I (nQ I I) (lY I I I (pT I I) (lU (pF I I) (lM I ?_))))
     refine sP ?_ ?_
     ·intro h36
      refine lZ I I I (lZ I I I (lZ I I I (lZ I I I (SL.off (Gd.off I I I dC) dC (SL.off (Gd.off I I I dC) dC (SL.off (Gd.off I I I dC) dC (SL.off (Gd.off I I I dC) dC (SL.off (Gd.off I I I dC) dC (SL.off (Gd.off I I I dC) dC (lZ I I I (lU (pT I I) (nL ?_))))))))))))
      exact ST.mid1 (by simp_all [get?,cntBad] <;> omega) mI
     ·intro h36
      refine lY I I I (fA uT40 I zT3 I) (SL.gq (gT I I I dC) (qL (v:=vi c.dim) iT3 I (cO 0 I I)) dC (lY I I I (gR I I) (lY I I I (mV I) ?_)))
      refine sP ?_ ?_
      ·intro h40
       refine lY I I I (mV I) (lY I I I (lS I I) (lY I I I (mV I) ?_))
       refine sP ?_ ?_
       ·intro h43
        refine lZ I I I (lZ I I I (lY I I I (pT I I) (lY I I I (pT I I) (lU (pF I I) (nL ?_)))))
        exact ST.mid1 (by simp_all [get?,cntBad] <;> omega) mI
       ·intro h43
        refine lY I I I (mV I) (lY I I I (gR I I) (lY I I I (pF I I) (lY I I I (pT I I) (lU (pF I I) (nL ?_)))))
        exact ST.mid1 (by simp_all [get?,cntBad] <;> omega) mI
      ·intro h40
       refine lZ I I I (lZ I I I (lZ I I I (SL.off (Gd.off I I I dC) dC (SL.off (Gd.off I I I dC) dC (lZ I I I (lY I I I (pF I I) (lU (pF I I) (nL ?_))))))))
       exact ST.mid1 (by simp_all [get?,cntBad] <;> omega) mI
    ·intro h31
     refine lZ I I I (lZ I I I (lY I I I (pF I I) (lU (pF I I) (lM I (lY I I I (fA uT40 I zT3 I) (SL.gq (gT I I I dC) (qL (v:=vi c.dim) iT3 I (cO 0 I I)) dC (lY I I I (gR I I) (lY I I I (mV I) ?_))))))))
     refine sP ?_ ?_
     ·intro h40
      refine lY I I I (mV I) (lY I I I (lS I I) (lY I I I (mV I) ?_))
      refine sP ?_ ?_
      ·intro h43
       refine lZ I I I (lZ I I I (lY I I I (pT I I) (lY I I I (pT I I) (lU (pF I I) (nL ?_)))))
       exact ST.mid1 (by simp_all [get?,cntBad] <;> omega) mI
      ·intro h43
       refine lY I I I (mV I) (lY I I I (gR I I) (lY I I I (pF I I) (lY I I I (pT I I) (lU (pF I I) (nL ?_)))))
       exact ST.mid1 (by simp_all [get?,cntBad] <;> omega) mI
     ·intro h40
      refine lZ I I I (lZ I I I (lZ I I I (SL.off (Gd.off I I I dC) dC (SL.off (Gd.off I I I dC) dC (lZ I I I (lY I I I (pF I I) (lU (pF I I) (nL ?_))))))))
      exact ST.mid1 (by simp_all [get?,cntBad] <;> omega) mI
  refine iQ I (fun hcb=>?_) (fun hcb=>?_)
  ·refine SC.sR (lA I (SL.nT (rE (tR (dR (s':=s) (.cons _ (.refl _)) ?_)))))
   exact ST.ret1 (.inl I) results107 I ⟨by unfold formC; rw [if_neg (by simp [hdb]),if_pos hcb],I,I⟩
  ·refine kP (tN (sQ (SC.sR (lA I (SL.nT (bK ?_))))))
   refine oP (ι:=Nat) (fun k=>[(0,.slice vp rs.length vc),(3,pp b3 0),(5,vi c.sides.length),(6,vi k)]) (fun _=>g)
    (fun _=>pt b3 (.cells #[vi c.id,vi c.dim,.slice rp c.sides.length rcap] 40 (0,0)) :: s) (fun k=>k ≤ c.sides.length ∧ (List.range k).any (badAt tl c) = false) (fun k=>c.sides.length - k) 0
    sB rfl rfl ⟨Nat.zero_le _,by simp⟩ ?_
   rintro k ⟨hk,hno⟩
   refine sQ (SC.sR (lM I (lM I (lU (lS I I) (SL.nT ?_)))))
   refine iP I (fun hlt=>?_) (fun hlt=>?_)
   ·have hkl : k < c.sides.length:=oM
    have hb1:=hx0 oM
    have hjx : c.sides[((k : Nat) : Int).toNat]? = some c.sides[k]:=gE hkl
    have hjx' : c.sides[k]? = some c.sides[k]:=gE hkl
    have hprev : (k : Int) > 0 → ∃ q,c.sides[((k : Int) - 1).toNat]? = some q ∧ c.sides[k - 1]? = some q:=fun h=>by
     have h2 : k - 1 < c.sides.length:=oM
     exact ⟨c.sides[k - 1],by rw [show ((k : Int) - 1).toNat = k - 1 by omega]; exact gE h2,gE h2⟩
    generalize c.sides[k] = y at *
    have hbat : badAt tl c k = badSide tl c k y:=by unfold badAt; rw [hjx']
    have hT : badSide tl c k y = true → (List.range c.sides.length).any (badAt tl c) = true:=fun h=>List.any_eq_true.2 ⟨k,List.mem_range.2 hkl,by rw [hbat]; exact h⟩
    have hF : badSide tl c k y = false → (List.range (k + 1)).any (badAt tl c) = false:=fun h=>by rw [List.range_succ,List.any_append,hno]; simp [hbat,h]
    rcases at_find hs y.cell with ⟨hfn,hat⟩ | ⟨yc,kk,hfs,hat,hyc⟩
    ·have hbad : badSide tl c k y = true:=badSide_a (by rw [hfn]; simp)
     refine kP (tN (sQ (bK (SC.sR (lM I (lU (fA uT40 I zT38 I) (lK (qL (v:=.slice rp c.sides.length rcap) iT38 I (cO 0 I I)) (lM I (lU (iA uT38 zT42 I I hb1 oM sL) (lU (fC uT42 I zT3 I hb1) (lK (pA (e:=encSide) (o:=0) (u:=vi y.cell) iT3 I hcs.rd hjx I) (lW (cL call103 I (at_spec E g _ _ tl y.cell hv htl hs)) ?_))))))))))))
     rintro _ _ _ ⟨rfl,rfl,rfl⟩
     rw [hat]
     refine lA I (SL.nT (sQ ?_))
     refine dW [] [(0,2),(1,2),(2,2),(3,2),(4,2),(5,2),(6,2),(7,1),(8,2),(9,1),(10,2),(11,2),(12,2),(13,2),(14,2),(15,2),(16,2),(17,2),(18,1),(19,2),(20,2),(21,2),(22,1),(23,2),(24,1),(25,2),(26,2),(27,2),(28,2),(29,1),(30,2),(31,2),(32,2)] Tryz.mixed (by kernel_rfl) ?_
     refine pU I (mV I) (pU I (SU.eq (v':=vb true) (lS I I) I) (pU I (mV I) (fP I (gF I I I dC) dC (fP I (gF I I I dC) dC (fP I (gF I I I dC) dC (fP I (gF I I I dC) dC (SP.off1 I (gF I I I dC) dC (fP I (gF I I I dC) dC (SP.off1 I (gF I I I dC) dC (fP I (gF I I I dC) dC (fP I (gF I I I dC) dC (pU I (pT I I) (pU I (mV I) (fP I (gF I I I dC) dC (fP I (gF I I I dC) dC (fP I (gF I I I dC) dC (fP I (Gd.off I I I dC) dC (SP.off1 I (Gd.off I I I dC) dC (fP I (Gd.off I I I dC) dC (fP I (Gd.off I I I dC) dC (fP I (Gd.off I I I dC) dC (SP.off1 I (Gd.off I I I dC) dC (fP I (Gd.off I I I dC) dC (SP.off1 I (Gd.off I I I dC) dC (fP I (Gd.off I I I dC) dC (fP I (Gd.off I I I dC) dC (fP I (Gd.off I I I dC) dC (fP I (Gd.off I I I dC) dC (SP.off1 I (Gd.off I I I dC) dC ?_)))))))))))))))))))))))))))))
     refine fP I (Gd.off I I I dC) dC (fP I (gF I I I dC) dC (pU I (pT I I) (pN (tN (cT I (SC.sR (lA I (SL.nT (rE (bR (tR (tR (bR (tR (dR (s':=s) (.cons _ (.refl _)) ?_)))))))))))))))
     exact ST.ret1 (.inl I) results107 I ⟨by unfold formC; rw [if_neg (by simp [hdb]),if_neg (by simp [hcb]),if_pos (hT hbad)],I,I⟩
    ·have hkk : kk < tl.length:=(List.getElem?_eq_some_iff.1 hyc).1
     have hkr : kk < rs.length:=oM
     have hbv:=hrs.based oM
     have hyr:=hall.get hyc (gE hkr)
     have hgr : rs[((kk : Nat) : Int).toNat]? = some rs[kk]:=gE hkr
     have hsome : (findT tl y.cell).isSome = true:=by rw [hfs]; rfl
     have hget : ((findT tl y.cell).getD zeroC) = yc:=by rw [hfs]; rfl
     by_cases hdm : yc.dim ≠ c.dim - 1
     ·have hbad : badSide tl c k y = true:=badSide_b hsome (by rw [hget]; exact hdm)
      refine kP (tN (sQ (bK (SC.sR (lM I (lU (fA uT40 I zT38 I) (lK (qL (v:=.slice rp c.sides.length rcap) iT38 I (cO 0 I I)) (lM I (lU (iA uT38 zT42 I I hb1 oM sL) (lU (fC uT42 I zT3 I hb1) (lK (pA (e:=encSide) (o:=0) (u:=vi y.cell) iT3 I hcs.rd hjx I) (lW (cL call103 I (at_spec E g _ _ tl y.cell hv htl hs)) ?_))))))))))))
      rintro _ _ _ ⟨rfl,rfl,rfl⟩
      rw [hat]
      refine lA I (SL.nT (sQ ?_))
      refine dW [] [(0,2),(1,2),(2,2),(3,2),(4,2),(5,2),(6,2),(7,1),(8,2),(9,1),(10,2),(11,2),(12,2),(13,2),(14,2),(15,2),(16,2),(17,2),(18,1),(19,2),(20,2),(21,2),(22,1),(23,2),(24,1),(25,2),(26,2),(27,2),(28,2),(29,1),(30,2),(31,2),(32,2)] Tryz.mixed (by kernel_rfl) ?_
      refine pU I (mV I) (pU I (SU.eq (v':=vb false) (lS I I) (congrArg vb (decide_eq_false oM))) (pU I (mV I) (SP.gu I (gT I I I dC) (mV I) dC (SP.gu I (gT I I I dC) (mV I) dC (SP.gu I (gT I I I dC) (iA uT29 zT40 I I hbv oM sL) dC (SP.gu I (gT I I I dC) (fC uT40 I zT3 I hbv) dC (SP.gq I (gT I I I dC) (pA (e:=encCell) (o:=1) (u:=vi rs[kk].dim) iT3 I hrs.rd hgr I) dC (SP.gu I (gT I I I dC) (fA uT40 I zT3 I) dC (SP.gq I (gT I I I dC) (qL (v:=vi c.dim) iT3 I (cO 0 I I)) dC (SP.gu I (gT I I I dC) (sU I I oM) dC (SP.gu I (gT I I I dC) (SU.eq (v':=vb true) (nQ I I) (congrArg vb (decide_eq_true (by rw [hyr.2.1]; exact hdm)))) dC ?_)))))))))))
      refine pU I (pF I I) (pU I (mV I) (fP I (gF I I I dC) dC (fP I (gF I I I dC) dC (fP I (gF I I I dC) dC (fP I (Gd.off I I I dC) dC (SP.off1 I (Gd.off I I I dC) dC (fP I (Gd.off I I I dC) dC (fP I (Gd.off I I I dC) dC (fP I (Gd.off I I I dC) dC (SP.off1 I (Gd.off I I I dC) dC (fP I (Gd.off I I I dC) dC (SP.off1 I (Gd.off I I I dC) dC (fP I (Gd.off I I I dC) dC (fP I (Gd.off I I I dC) dC (fP I (Gd.off I I I dC) dC (fP I (Gd.off I I I dC) dC (SP.off1 I (Gd.off I I I dC) dC (fP I (Gd.off I I I dC) dC (fP I (gF I I I dC) dC (pU I (pT I I) (pN (tN (cT I (SC.sR (lA I (SL.nT (rE ?_)))))))))))))))))))))))))))
      refine bR (tR (tR (bR (tR (dR (s':=s) (.cons _ (.refl _)) ?_)))))
      exact ST.ret1 (.inl I) results107 I ⟨by unfold formC; rw [if_neg (by simp [hdb]),if_neg (by simp [hcb]),if_pos (hT hbad)],I,I⟩
     ·by_cases hk0 : (k : Int) > 0
      ·obtain ⟨q,hq1,hq2⟩:=hprev hk0
       have hbd:=badSide_d (i:=k) hsome (by rw [hget]; exact hdm) hk0 hq2
       refine kP (tN (sQ (bK (SC.sR (lM I (lU (fA uT40 I zT38 I) (lK (qL (v:=.slice rp c.sides.length rcap) iT38 I (cO 0 I I)) (lM I (lU (iA uT38 zT42 I I hb1 oM sL) (lU (fC uT42 I zT3 I hb1) (lK (pA (e:=encSide) (o:=0) (u:=vi y.cell) iT3 I hcs.rd hjx I) (lW (cL call103 I (at_spec E g _ _ tl y.cell hv htl hs)) ?_))))))))))))
       rintro _ _ _ ⟨rfl,rfl,rfl⟩
       rw [hat]
       refine lA I (SL.nT (sQ ?_))
       refine dW [] [(0,2),(1,2),(2,2),(3,2),(4,2),(5,2),(6,2),(7,1),(8,2),(9,1),(10,2),(11,2),(12,2),(13,2),(14,2),(15,2),(16,2),(17,2),(18,1),(19,2),(20,2),(21,2),(22,1),(23,2),(24,1),(25,2),(26,2),(27,2),(28,2),(29,1),(30,2),(31,2),(32,2)] Tryz.mixed (by kernel_rfl) ?_
       refine pU I (mV I) (pU I (SU.eq (v':=vb false) (lS I I) (congrArg vb (decide_eq_false oM))) (pU I (mV I) (SP.gu I (gT I I I dC) (mV I) dC (SP.gu I (gT I I I dC) (mV I) dC (SP.gu I (gT I I I dC) (iA uT29 zT40 I I hbv oM sL) dC (SP.gu I (gT I I I dC) (fC uT40 I zT3 I hbv) dC (SP.gq I (gT I I I dC) (pA (e:=encCell) (o:=1) (u:=vi rs[kk].dim) iT3 I hrs.rd hgr I) dC (SP.gu I (gT I I I dC) (fA uT40 I zT3 I) dC (SP.gq I (gT I I I dC) (qL (v:=vi c.dim) iT3 I (cO 0 I I)) dC (SP.gu I (gT I I I dC) (sU I I oM) dC (SP.gu I (gT I I I dC) (SU.eq (v':=vb false) (nQ I I) (congrArg vb (decide_eq_false (by rw [hyr.2.1]; exact hdm)))) dC ?_)))))))))))
       refine pU I (pF I I) (pU I (mV I) (SP.gu I (gT I I I dC) (mV I) dC (SP.gu I (gT I I I dC) (SU.eq (v':=vb true) (gR I I) (congrArg vb (decide_eq_true hk0))) dC (SP.gu I (gT I I I dC) (mV I) dC (SP.gu I (gT I I I dC) (fA uT40 I zT38 I) dC (SP.gq I (gT I I I dC) (qL (v:=.slice rp c.sides.length rcap) iT38 I (cO 0 I I)) dC (SP.gu I (gT I I I dC) (mV I) dC (SP.gu I (gT I I I dC) (iA uT38 zT42 I I hb1 oM sL) dC (SP.gu I (gT I I I dC) (fC uT42 I zT3 I hb1) dC (SP.gq I (gT I I I dC) (pA (e:=encSide) (o:=0) (u:=vi y.cell) iT3 I hcs.rd hjx I) dC (SP.gu I (gT I I I dC) (fA uT40 I zT38 I) dC (SP.gq I (gT I I I dC) (qL (v:=.slice rp c.sides.length rcap) iT38 I (cO 0 I I)) dC (SP.gu I (gT I I I dC) (mV I) dC (SP.gu I (gT I I I dC) (sU I I oM) dC (SP.gu I (gT I I I dC) (iA uT38 zT42 I I hb1 oM sL) dC (SP.gu I (gT I I I dC) (fC uT42 I zT3 I hb1) dC (SP.gq I (gT I I I dC) (pA (e:=encSide) (o:=0) (u:=vi q.cell) iT3 I hcs.rd hq1 I) dC (SP.gu I (gT I I I dC) (eQ I I) dC (SP.gu I (gT I I I dC) (pT I I) dC (pU I (pF I I) (pN (tN ?_))))))))))))))))))))))
       refine iP I (fun heq=>?_) (fun heq=>?_)
       ·refine SC.sR (lA I (SL.nT (rE (bR (tR (tR (bR (tR (dR (s':=s) (.cons _ (.refl _)) ?_)))))))))
        exact ST.ret1 (.inl I) results107 I ⟨by unfold formC; rw [if_neg (by simp [hdb]),if_neg (by simp [hcb]),if_pos (hT (by rw [hbd]; exact decide_eq_true heq.symm))],I,I⟩
       ·refine kP (bN (tN (rG (lM I (lU (aD I I oM) (lA I (nL ?_)))))))
        exact gA (k + 1) sB I I ⟨oM,hF (by rw [hbd]; exact decide_eq_false fun e=>heq e.symm)⟩ oM
      ·have hbd:=badSide_c (i:=k) (x:=y) hsome (by rw [hget]; exact hdm) hk0
       refine kP (tN (sQ (bK (SC.sR (lM I (lU (fA uT40 I zT38 I) (lK (qL (v:=.slice rp c.sides.length rcap) iT38 I (cO 0 I I)) (lM I (lU (iA uT38 zT42 I I hb1 oM sL) (lU (fC uT42 I zT3 I hb1) (lK (pA (e:=encSide) (o:=0) (u:=vi y.cell) iT3 I hcs.rd hjx I) (lW (cL call103 I (at_spec E g _ _ tl y.cell hv htl hs)) ?_))))))))))))
       rintro _ _ _ ⟨rfl,rfl,rfl⟩
       rw [hat]
       refine lA I (SL.nT (sQ ?_))
       refine dW [] [(0,2),(1,2),(2,2),(3,2),(4,2),(5,2),(6,2),(7,1),(8,2),(9,1),(10,2),(11,2),(12,2),(13,2),(14,2),(15,2),(16,2),(17,2),(18,1),(19,2),(20,2),(21,2),(22,1),(23,2),(24,1),(25,2),(26,2),(27,2),(28,2),(29,1),(30,2),(31,2),(32,2)] Tryz.mixed (by kernel_rfl) ?_
       refine pU I (mV I) (pU I (SU.eq (v':=vb false) (lS I I) (congrArg vb (decide_eq_false oM))) (pU I (mV I) (SP.gu I (gT I I I dC) (mV I) dC (SP.gu I (gT I I I dC) (mV I) dC (SP.gu I (gT I I I dC) (iA uT29 zT40 I I hbv oM sL) dC (SP.gu I (gT I I I dC) (fC uT40 I zT3 I hbv) dC (SP.gq I (gT I I I dC) (pA (e:=encCell) (o:=1) (u:=vi rs[kk].dim) iT3 I hrs.rd hgr I) dC (SP.gu I (gT I I I dC) (fA uT40 I zT3 I) dC (SP.gq I (gT I I I dC) (qL (v:=vi c.dim) iT3 I (cO 0 I I)) dC (SP.gu I (gT I I I dC) (sU I I oM) dC (SP.gu I (gT I I I dC) (SU.eq (v':=vb false) (nQ I I) (congrArg vb (decide_eq_false (by rw [hyr.2.1]; exact hdm)))) dC ?_)))))))))))
       refine pU I (pF I I) (pU I (mV I) (SP.gu I (gT I I I dC) (mV I) dC (SP.gu I (gT I I I dC) (SU.eq (v':=vb false) (gR I I) (congrArg vb (decide_eq_false hk0))) dC (SP.gu I (gT I I I dC) (mV I) dC (fP I (gF I I I dC) dC (SP.off1 I (gF I I I dC) dC (fP I (gF I I I dC) dC (fP I (gF I I I dC) dC (fP I (gF I I I dC) dC (SP.off1 I (gF I I I dC) dC (fP I (gF I I I dC) dC (SP.off1 I (gF I I I dC) dC (fP I (gF I I I dC) dC (fP I (gF I I I dC) dC (fP I (gF I I I dC) dC (fP I (gF I I I dC) dC (SP.off1 I (gF I I I dC) dC (fP I (gF I I I dC) dC (SP.gu I (gT I I I dC) (pF I I) dC (pU I (pF I I) (pN (tN (cF I (kP (bN (tN (rG (lM I (lU (aD I I oM) ?_)))))))))))))))))))))))))))))
       refine lA I (nL ?_)
       exact gA (k + 1) sB I I ⟨oM,hF hbd⟩ oM
   ·refine xI (tX (tX (bX (tN (sQ (SC.sR (lA I (SL.nT (bK ?_)))))))))
    have hkk : k = c.sides.length:=oM
    subst hkk
    refine oP (ι:=Nat) (fun k=>[(3,pp b3 0),(5,vi c.sides.length),(8,vi k)]) (fun _=>g)
     (fun _=>pt b3 (.cells #[vi c.id,vi c.dim,.slice rp c.sides.length rcap] 40 (0,0)) :: s) (fun k=>k ≤ c.sides.length ∧ (c.sides.take k).any signBad = false) (fun k=>c.sides.length - k) 0
     sB rfl rfl ⟨Nat.zero_le _,by simp⟩ ?_
    rintro k ⟨hk2,hns⟩
    refine sQ (SC.sR (lM I (lM I (lU (lS I I) (SL.nT ?_)))))
    refine iP I (fun hlt2=>?_) (fun hlt2=>?_)
    ·have hkl : k < c.sides.length:=oM
     have hb1:=hx0 oM
     have hjx : c.sides[((k : Nat) : Int).toNat]? = some c.sides[k]:=gE hkl
     have htk : c.sides.take (k + 1) = c.sides.take k ++ [c.sides[k]]:=tS hkl
     have hmemy : c.sides[k] ∈ c.sides:=gM hkl
     generalize c.sides[k] = y at *
     refine kP (tN (sQ (bK ?_)))
     refine SC.cutB 115 (signBad y) ?_ ?_
     ·refine rG (lU (fA uT40 I zT38 I) (lK (qL (v:=.slice rp c.sides.length rcap) iT38 I (cO 0 I I)) (lM I (lU (iA uT38 zT42 I I hb1 oM sL) (lU (fC uT42 I zT3 I hb1) (lK (pA (e:=encSide) (o:=1) (u:=vi y.sign) iT3 I hcs.rd hjx I) (lU (nQ I I) (lM I ?_))))))))
      refine sP ?_ ?_
      ·intro h107
       refine lY I I I (fA uT40 I zT38 I) (SL.gq (gT I I I dC) (qL (v:=.slice rp c.sides.length rcap) iT38 I (cO 0 I I)) dC (lY I I I (mV I) (lY I I I (iA uT38 zT42 I I hb1 oM sL) (lY I I I (fC uT42 I zT3 I hb1) (SL.gq (gT I I I dC) (pA (e:=encSide) (o:=1) (u:=vi y.sign) iT3 I hcs.rd hjx I) dC (lY I I I (nQ I I) (lU (pT I I) (nL ?_))))))))
       exact ST.mid1 (by exact congrArg (fun b=>some (Value.bool b)) (signBad_a h107).symm) mI
      ·intro h107
       refine lZ I I I (lZ I I I (lZ I I I (lZ I I I (lZ I I I (lZ I I I (lZ I I I (lU (pF I I) (nL ?_))))))))
       exact ST.mid1 (by exact congrArg (fun b=>some (Value.bool b)) (signBad_b h107).symm) mI
     refine iQ I (fun hsg=>?_) (fun hsg=>?_)
     ·refine SC.sR (lA I (SL.nT (rE (bR (tR (tR (bR (tR (dR (s':=s) (.cons _ (.refl _)) ?_)))))))))
      have hany : c.sides.any signBad = true:=List.any_eq_true.2 ⟨y,hmemy,hsg⟩
      exact ST.ret1 (.inl I) results107 I ⟨by unfold formC; rw [if_neg (by simp [hdb]),if_neg (by simp [hcb]),if_neg (by simp [hno]),if_pos hany],I,I⟩
     ·refine kP (bN (tN (rG (lM I (lU (aD I I oM) (lA I (nL ?_)))))))
      exact gA (k + 1) sB I I ⟨oM,by rw [htk,List.any_append,hns]; simp [hsg]⟩ oM
    ·have hkk : c.sides.take k = c.sides:=tL oM
     rw [hkk] at hns
     by_cases hd1 : c.dim = 1
     ·have h2 : c.sides.length = 2:=by
       simp [cntBad] at hcb
       have:=hcb.1.2 hd1
       omega
      obtain ⟨a,b,hab,hsum⟩:=two_signs h2 hns
      have hb1:=hx0 oM
      refine xI (tX (tX (bX (tN (sQ (sQ ?_))))))
      refine dW [] [(0,2),(1,1),(2,2),(3,2),(4,2),(5,1),(6,2),(7,2),(8,1),(9,2),(10,1),(11,2),(12,2),(13,1),(14,2),(15,2)] Tryz.mixed (by kernel_rfl) ?_
      refine pU rfl (fA uT40 rfl zT3 rfl) (pK rfl (qL (v:=vi c.dim) iT3 rfl (cO 0 rfl rfl)) (pU rfl (SU.eq (v':=vb true) (eQ rfl rfl) (congrArg vb (decide_eq_true hd1))) (pU rfl (mV rfl) (SP.gu rfl (gT rfl rfl rfl dC) (fA uT40 rfl zT38 rfl) dC (SP.gq rfl (gT rfl rfl rfl dC) (qL (v:=.slice rp c.sides.length rcap) iT38 rfl (cO 0 rfl rfl)) dC (SP.gu rfl (gT rfl rfl rfl dC) (iA uT38 zT42 rfl rfl hb1 dC sL) dC (SP.gu rfl (gT rfl rfl rfl dC) (fC uT42 rfl zT3 rfl hb1) dC (SP.gq rfl (gT rfl rfl rfl dC) (pA (e:=encSide) (j:=0) (o:=1) (u:=vi a.sign) (a:=a) iT3 rfl hcs.rd (by rw [hab]; rfl) rfl) dC ?_))))))))
      refine SP.gu rfl (gT rfl rfl rfl dC) (fA uT40 rfl zT38 rfl) dC (SP.gq rfl (gT rfl rfl rfl dC) (qL (v:=.slice rp c.sides.length rcap) iT38 rfl (cO 0 rfl rfl)) dC (SP.gu rfl (gT rfl rfl rfl dC) (iA uT38 zT42 rfl rfl hb1 dC sL) dC (SP.gu rfl (gT rfl rfl rfl dC) (fC uT42 rfl zT3 rfl hb1) dC (SP.gq rfl (gT rfl rfl rfl dC) (pA (e:=encSide) (j:=1) (o:=1) (u:=vi b.sign) (a:=b) iT3 rfl hcs.rd (by rw [hab]; rfl) rfl) dC ?_))))
      refine SP.gu I (gT I I I dC) (eQ I I) dC (pU I (pT I I) (pN (tN ?_)))
      refine iP I (fun heq=>?_) (fun heq=>?_)
      ·refine SC.sR (lA I (SL.nT (rE (tR (dR (s':=s) (.cons _ (.refl _)) ?_)))))
       exact ST.ret1 (.inl I) results107 I ⟨by unfold formC; rw [if_neg (by simp [hdb]),if_neg (by simp [hcb]),if_neg (by simp [hno]),if_neg (by simp [hns]),if_pos (by rw [hsum]; simp [hd1,heq])],I,I⟩
      ·refine kP (tN (SC.sR (lA I (SL.nT (rE (dR (s':=s) (.cons _ (.refl _)) ?_))))))
       exact ST.ret1 (.inl I) results107 I ⟨by unfold formC; rw [if_neg (by simp [hdb]),if_neg (by simp [hcb]),if_neg (by simp [hno]),if_neg (by simp [hns]),if_neg (by rw [hsum]; simp [heq])],I,I⟩
     ·refine xI (tX (tX (bX (tN (sQ (sQ ?_))))))
      refine dW [] [(0,2),(1,1),(2,2),(3,2),(4,2),(5,1),(6,2),(7,2),(8,1),(9,2),(10,1),(11,2),(12,2),(13,1),(14,2),(15,2)] Tryz.mixed (by kernel_rfl) ?_
      refine pU I (fA uT40 I zT3 I) (pK I (qL (v:=vi c.dim) iT3 I (cO 0 I I)) (pU I (SU.eq (v':=vb false) (eQ I I) (congrArg vb (decide_eq_false hd1))) (pU I (mV I) (fP I (gF I I I dC) dC (SP.off1 I (gF I I I dC) dC (fP I (gF I I I dC) dC (fP I (gF I I I dC) dC (SP.off1 I (gF I I I dC) dC (fP I (gF I I I dC) dC (SP.off1 I (gF I I I dC) dC (fP I (gF I I I dC) dC (fP I (gF I I I dC) dC (SP.off1 I (gF I I I dC) dC (fP I (gF I I I dC) dC (pU I (pF I I) (pN (tN (cF I (kP (tN (SC.sR (lA I (SL.nT (rE (dR (s':=s) (.cons _ (.refl _)) ?_)))))))))))))))))))))))))
      exact ST.ret1 (.inl I) results107 I ⟨by unfold formC; rw [if_neg (by simp [hdb]),if_neg (by simp [hcb]),if_neg (by simp [hno]),if_neg (by simp [hns]),if_neg (by simp [hd1])],I,I⟩
end Go.Proofs.YtkdibcicncjpdaaGreatDoor
