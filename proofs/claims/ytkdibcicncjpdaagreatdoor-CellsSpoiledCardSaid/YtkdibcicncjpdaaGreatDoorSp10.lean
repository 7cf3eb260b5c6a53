/- Spo2 Frm LSam FndS SyR Mee1 Mee3 Rgt1 Rgt2 -/
import Derived.Test.YtkdibcicncjpdaaGreatDoorSp09
import Derived.Test.YtkdibcicncjpdaaGreatDoorSp06
import Derived.Test.YtkdibcicncjpdaaGreatDoorRows
import Derived.WalkKit
import Derived.ProofKit
import Derived.OpenShut
import Derived.ShutString
import Derived.ChangeOld
import Derived.Below
import Derived.Deep.Slices
import Derived.Lib.SmallJoins
import Derived.Laws.IdiomArrays
import Derived.Test.YtkdibcicncjpdaaGreatDoorSp07
import Derived.Test.YtkdibcicncjpdaaGreatDoorSp03
import Derived.Test.YtkdibcicncjpdaaGreatDoorSp05
import Derived.Test.YtkdibcicncjpdaaGreatDoorSp08
set_option linter.unusedSimpArgs false
set_option linter.unusedVariables false
namespace Go.Proofs.YtkdibcicncjpdaaGreatDoor
open _root_.Go.Proofs.Tryz _root_.Go.Proofs.YtkdibcicncjpdaaGreatDoor.Tryz
open Go Go.Sy Go.Pl Go.Proofs
set_option maxRecDepth 100000
set_option maxHeartbeats 2000000
theorem SC.freezeBut' {P : Program} {N : Nat} {E : World} {Q : Exit → Act → World → Prop} {f : Fr} {g : PH} {s : Own} {o : Code} {R S : Ent} {l A B : List Cl} {rs RA RB : List Rc} {x : Cl} {rx : Rc} (hl : l = A ++ x :: B) (hr : rs = RA ++ rx :: RB) (h1 : All2 CellO A RA) (h2 : All2 CellO B RB)
  (h : ∀ g',Le g g' → All2 (CellR g') A RA → All2 (CellR g') B RB → SC P N E o Q f g' (R :: ownC x rx :: S :: s)) : SC P N E o Q f g (S :: R :: (ownS l rs ++ s)):=by
 subst hl
 subst hr
 exact SC.freezeBut h1 h2 h
theorem All2.eraseIdx {α β : Type} {R : α → β → Prop} : ∀ {l : List α} {rs : List β} (k : Nat),All2 R l rs → All2 R (l.eraseIdx k) (rs.eraseIdx k)
 | [],[],_,_=>trivial
 | _ :: _,_ :: _,0,h=>h.2
 | _ :: _,_ :: _,k + 1,h=>⟨h.1,All2.eraseIdx k h.2⟩
 | [],_ :: _,_,h=>h.elim
 | _ :: _,[],_,h=>h.elim
def negTo (l : List Side) (i : Nat) : List Side:=(l.take i).map negS ++ l.drop i
theorem negTo_length (l : List Side) (i : Nat) (h : i ≤ l.length) : (negTo l i).length = l.length:=by simp [negTo]; omega
theorem negTo_get {l : List Side} {i : Nat} (h : i < l.length) : (negTo l i)[i]? = some l[i]:=by
 unfold negTo
 have h1 : l.drop i = l[i] :: l.drop (i + 1):=List.drop_eq_getElem_cons h
 rw [h1]
 exact getMid (by simp; omega)
theorem negTo_set {l : List Side} {i : Nat} (h : i < l.length) : (negTo l i).set i (negS l[i]) = negTo l (i + 1):=by
 unfold negTo
 have h1 : l.drop i = l[i] :: l.drop (i + 1):=List.drop_eq_getElem_cons h
 have h2 : l.take (i + 1) = l.take i ++ [l[i]]:=tS h
 rw [h2,h1,List.map_append,setMid (by simp; omega),List.append_assoc]
 rfl
theorem spoiled_spec (E : World) (g : PH) (s : Own) (v : Value) (l : List Cl) (q0 q1 q2 : Int) (hv : Cells g v l) (hf : Fits l) :
  Ctr Tryz.prog E 8 #[.agg #[v],.agg #[vi q0,vi q1,vi q2]] g s (fun r g' s'=>s = s' ∧ Le g g' ∧ ∃ x,r = .agg #[x] ∧ Cells g' x (spoilC l q0 q1 q2)):=by
 obtain ⟨p,c,rfl⟩:=hv.form
 have hll:=hf.1
 refine Ctr.of (args:=[.agg #[.slice p l.length c],.agg #[vi q0,vi q1,vi q2]]) func8 I ntmps8 (bE I) ?_
 refine SC.sR (SL.bx (bO I) fun b2=>?_)
 refine SL.bx (bO I) fun b3=>?_
 refine SL.bx (aL zeroValue31) fun b4=>?_
 refine SL.nT (SC.sR (lK (qV 2 iT31 zT31 I I I) (lW (cL call28 I (copy_own E g _ _ l hv hf)) ?_)))
 rintro _ _ _ ⟨rfl,u,rs,rfl,hO,rfl⟩
 have el:=hO.length
 refine SL.facts fun ⟨w0,hw0⟩=>?_
 obtain ⟨q,d,rfl⟩:=rowA_form (i:=0) hw0 rfl
 clear hw0 w0
 refine SL.bx (aL zeroValue31) fun b5=>?_
 refine SL.O2 (sK 0 zT31 I I I I I sB) ?_
 refine SL.nT (sQ (sQ ?_))
 refine SC.to (fun w hw=>hw) (g':=g) (s':=pt b5 (.cells #[.slice q rs.length d] 31 (0,0)) :: rowA encCell 40 (.slice q rs.length d) rs :: (ownS l rs ++ (pt b4 (.cells #[.slice none 0 0] 31 (0,0)) :: pt b3 (.cells #[vi q0,vi q1,vi q2] 25 (0,0)) :: pt b2 (.cells #[.slice p l.length c] 31 (0,0)) :: s))) ?_
 refine rG (lU (fA uT31 I zT29 I) (lK (qL (v:=.slice q rs.length d) iT29 I (cO 0 I I)) (lU (eN uT29 I) (lU (eQ I I) (SL.nT ?_)))))
 refine iP I (fun h0=>?_) (fun h0=>?_)
 ·have hl0 : l = []:=List.eq_nil_of_length_eq_zero oM
  subst hl0
  have hr0 : rs = []:=List.eq_nil_of_length_eq_zero oM
  subst hr0
  refine sQ ?_
  refine SC.to (fun w hw=>hw) (g':=g) (s':=pt b5 (.cells #[.slice q 0 d] 31 (0,0)) :: rowA encCell 40 (.slice q 0 d) [] :: (pt b4 (.cells #[.slice none 0 0] 31 (0,0)) :: pt b3 (.cells #[vi q0,vi q1,vi q2] 25 (0,0)) :: pt b2 (.cells #[.slice p ([] : List Cl).length c] 31 (0,0)) :: s)) ?_
  refine rG (lU (iB uT25 zT3 I I dC dC) (lK (qL (v:=vi q1) iT3 I (cO 3 I I)) (lU (SU.build I (buildD40 _)) (lW (bS sty29 I I I (szs_mk ⟨I,trivial⟩) dC) ?_))))
  rintro _ _ _ ⟨b21,rfl,rfl,rfl⟩
  refine SL.freeze fun g1 hle1 hb21=>?_
  refine lU (SU.build I (build31 _ I)) (SL.O2 (sK 2 zT31 I I I I I sB) ?_)
  refine SL.nT (rE (tR ?_))
  exact ST.retCD 2 s (.inl I) results8 I iT31 zT31 I I (.cons _ (.cons _ (.cons _ (.cons _ (.cons _ (.refl _)))))) ⟨I,hle1,_,I,[⟨q1,0,⟨none,0,0⟩⟩],SlA.lit hb21 I I,⟨I,I,Sl.nil _ _⟩,trivial⟩
 ·have hpos : 0 < l.length:=oM
  obtain ⟨hk1,hk2⟩:=modW_nat q1 l.length hpos oM
  have hsp0 : spoilC l q0 q1 q2 = spoilM (modW q0 13) l (modW q1 l.length).toNat (pickC l q1) q2 (sideJ (pickC l q1) q2):=by unfold spoilC; rw [if_neg oM]
  rw [hsp0]
  obtain ⟨A,x,B,RA,rx,RB,hl,hr,hA,hRA,hOA,hOx,hOB⟩:=All2.split hO hk2
  have hpx : pickC l q1 = x:=by
   unfold pickC
   rw [List.getD_eq_getElem?_getD,hl] at *
   rw [getMid hA]
   rfl
  rw [hpx]
  have hmk : modW q1 (rs.length : Int) = (((modW q1 l.length).toNat : Nat) : Int):=by rw [← el]; exact hk1
  generalize (modW q1 l.length).toNat = k at *
  obtain ⟨xi,xd,xp,xn,xc⟩:=rx
  obtain ⟨e1,e2,e3⟩:=hOx
  dsimp only at e1 e2 e3
  subst e1
  subst e2
  subst e3
  have hgr : rs[k]? = some (⟨x.id,x.dim,⟨xp,x.sides.length,xc⟩⟩ : Rc):=by rw [hr]; exact getMid hRA
  have hkr : k < rs.length:=oM
  have hxl : x.sides.length < 1099511627776:=hf.2 x (by rw [hl]; simp)
  refine SC.freezeBut' hl hr hOA hOB fun g1 hle1 hAR hBR=>?_
  refine SC.facts fun ⟨w0,hw0⟩=>?_
  obtain ⟨bu,cap,hbu⟩:=rowA_based (i:=0) hw0 rfl oM
  obtain ⟨rfl,rfl⟩ : q = some ⟨bu,0,none⟩ ∧ d = cap:=by injection hbu with h1 _ h2; exact ⟨h1,h2⟩
  clear hw0 w0 hbu
  have hdc : d = d:=rfl
  refine SC.to (fun w hw=>hw) (g':=g1) (s':=rowA encCell 40 (.slice (some ⟨bu,0,none⟩) rs.length d) rs :: rowA encSide 42 (.slice xp x.sides.length xc) x.sides :: pt b5 (.cells #[(.slice (some ⟨bu,0,none⟩) rs.length d)] 31 (0,0)) :: pt b4 (.cells #[.slice none 0 0] 31 (0,0)) :: pt b3 (.cells #[vi q0,vi q1,vi q2] 25 (0,0)) :: pt b2 (.cells #[.slice p l.length c] 31 (0,0)) :: s) ?_
  obtain ⟨cap,hcap⟩ : ∃ cap,cap = d:=⟨_,rfl⟩
  rw [← hcap]
  have hfin : ∀ g' x' r',Le g1 g' → CellR g' x' r' → All2 (CellR g') (l.set k x') (rs.set k r'):=fun g' x' r' hle hx'=>by
   rw [hl,hr,setMid hA,setMid hRA]
   exact (hAR.mono fun _ _=>CellR.mono hle).append ⟨hx',hBR.mono fun _ _=>CellR.mono hle⟩
  have hfin0 : ∀ g' x',Le g1 g' → CellR g' x' (⟨x.id,x.dim,⟨xp,x.sides.length,xc⟩⟩ : Rc) → All2 (CellR g') (l.set k x') rs:=fun g' x' hle hx'=>by
   rw [hl,hr,setMid hA]
   exact (hAR.mono fun _ _=>CellR.mono hle).append ⟨hx',hBR.mono fun _ _=>CellR.mono hle⟩
  have hfinA : ∀ g',Le g1 g' → CellR g' x (⟨x.id,x.dim,⟨xp,x.sides.length,xc⟩⟩ : Rc) → All2 (CellR g') l rs:=fun g' hle hx'=>by
   rw [hl,hr]
   exact (hAR.mono fun _ _=>CellR.mono hle).append ⟨hx',hBR.mono fun _ _=>CellR.mono hle⟩
  have hpick : ∀ y : Int,∃ (kk : Nat) (yi yd : Int) (yp : Option Addr) (yc : Nat),modW y (rs.length : Int) = ((kk : Nat) : Int) ∧ kk < rs.length ∧ rs[kk]? = some ⟨yi,yd,⟨yp,(pickC l y).sides.length,yc⟩⟩ ∧ yi = (pickC l y).id ∧ (pickC l y).sides.length < 1099511627776 ∧
    (((pickC l y) = x ∧ yp = xp ∧ yc = xc) ∨ SlA encSide g1 (.slice yp (pickC l y).sides.length yc) (pickC l y).sides):=fun y=>by
   obtain ⟨h1,h2⟩:=modW_nat y l.length hpos oM
   have hg : l[(modW y l.length).toNat]? = some (pickC l y):=by
    unfold pickC
    rw [List.getD_eq_getElem?_getD,gE h2]
    rfl
   rw [el] at h1
   refine ⟨(modW y l.length).toNat,?_⟩
   rw [el] at *
   generalize (modW y rs.length).toNat = kk at *
   generalize pickC l y = cy at *
   have hm : cy ∈ l:=List.mem_of_getElem? hg
   obtain ⟨ry,hry⟩ : ∃ ry,rs[kk]? = some ry:=⟨_,gE h2⟩
   have hoy:=hO.get hg hry
   obtain ⟨yi,yd,yp,yn,yc⟩:=ry
   obtain ⟨f1,f2,f3⟩:=hoy
   dsimp only at f1 f2 f3
   subst f3
   refine ⟨yi,yd,yp,yc,h1,h2,hry,f1,hf.2 _ hm,?_⟩
   rw [hl] at hg
   rw [hr] at hry
   by_cases hlt : kk < k
   ·rw [List.getElem?_append_left oM] at hg hry
    exact .inr (hAR.get hg hry).2.2
   ·rw [List.getElem?_append_right oM] at hg hry
    rw [hA] at hg
    rw [hRA] at hry
    cases hd : kk - k with
    | zero =>
     rw [hd] at hg hry
     simp at hg hry
     exact .inl ⟨hg.symm,hry.2.2.1.symm,hry.2.2.2.2.symm⟩
    | succ t =>
     rw [hd] at hg hry
     simp at hg hry
     exact .inr (hBR.get hg hry).2.2
  clear hO hpx hsp0 hdc
  have hj1 : 0 < x.sides.length → modW q2 (x.sides.length : Int) = ((((sideJ x q2) : Nat)) : Int) ∧ (sideJ x q2) < x.sides.length:=fun h=>by
   unfold sideJ
   rw [if_pos h]
   exact modW_nat q2 x.sides.length h oM
  refine kP (tN (SC.sR (lU (iB uT25 zT3 I I dC dC) (lK (qL (v:=vi q1) iT3 I (cO 4 I I)) (lU (fA uT31 I zT29 I) (lK (qL (v:=(.slice (some ⟨bu,0,none⟩) rs.length cap)) iT29 I (cO 2 I I)) (lU (eN uT29 I) (lW (cL kT34 I (mod_spec E g1 _ q1 rs.length oM)) ?_))))))))
  rintro _ _ _ ⟨rfl,rfl,rfl⟩
  rw [hmk]
  refine lA I (SL.nT (SC.sR (lU (fA uT31 I zT29 I) (lK (qL (v:=(.slice (some ⟨bu,0,none⟩) rs.length cap)) iT29 I (cO 2 I I)) (lM I (lU (iA uT29 zT40 I I I oM sL) (lA I (SL.nT (SC.sR (lU (iB uT25 zT3 I I dC dC) (lK (qL (v:=vi q2) iT3 I (cO 4 I I)) (lA I (SL.nT (SC.sR (lA I (SL.nT ?_))))))))))))))))
  refine SC.cut (ι:=Unit) (fun _=>[(2,pp b2 0),(3,pp b3 0),(4,pp b4 0),(5,pp b5 0),(6,vi (k : Nat)),(7,cptr (.slice (some ⟨bu,0,none⟩) rs.length cap) (k * 3)),(8,vi q2),(9,vi ((sideJ x q2) : Nat))]) (fun _=>g1) (fun _=>rowA encCell 40 (.slice (some ⟨bu,0,none⟩) rs.length cap) rs :: rowA encSide 42 (.slice xp x.sides.length xc) x.sides :: pt b5 (.cells #[(.slice (some ⟨bu,0,none⟩) rs.length cap)] 31 (0,0)) :: pt b4 (.cells #[.slice none 0 0] 31 (0,0)) :: pt b3 (.cells #[vi q0,vi q1,vi q2] 25 (0,0)) :: pt b2 (.cells #[.slice p l.length c] 31 (0,0)) :: s) (fun _=>True) ?_ ?_
  ·refine SC.sR (lM I (lU (nC I) (lU (fA uT40 I zT38 I) (lK (pA (e:=encCell) (a:=(⟨x.id,x.dim,⟨xp,x.sides.length,xc⟩⟩ : Rc)) (j:=k) (o:=2) (u:=(.slice xp x.sides.length xc)) iT38 I (Rd.rowA 0 I) hgr I) (lU (eN uT38 I) (lU (gR I I) (SL.nT ?_)))))))
   refine iP I (fun hsp=>?_) (fun hsp=>?_)
   ·refine rG (lM I (lM I (lU (nC I) (lU (fA uT40 I zT38 I) (lK (pA (e:=encCell) (a:=(⟨x.id,x.dim,⟨xp,x.sides.length,xc⟩⟩ : Rc)) (j:=k) (o:=2) (u:=(.slice xp x.sides.length xc)) iT38 I (Rd.rowA 0 I) hgr I) (lU (eN uT38 I) (lW (cL kT34 I (mod_spec E g1 _ q2 x.sides.length oM)) ?_)))))))
    rintro _ _ _ ⟨rfl,rfl,rfl⟩
    rw [(hj1 oM).1]
    refine lA I (nL ?_)
    exact ST.mid () sB I I trivial
   ·have hj0 : (sideJ x q2) = 0:=by unfold sideJ; rw [if_neg oM]
    rw [hj0]
    refine kP ?_
    exact ST.mid () sB I I trivial
  rintro ⟨⟩ -
  try dsimp only
  have hm13:=modW_range q0 13 dC dC
  have hj2 : ∀ h : 0 < x.sides.length,x.sides[(sideJ x q2)]? = some (x.sides.getD (sideJ x q2) dflS):=fun h=>by
   rw [List.getD_eq_getElem?_getD,gE (hj1 h).2]; rfl
  have hnil : ¬ (x.sides.length : Int) > 0 → x.sides = []:=fun h=>List.eq_nil_of_length_eq_zero oM
  refine SC.cut (ι:=PH × Value) (fun _=>[(2,pp b2 0),(4,pp b4 0),(5,pp b5 0)]) (fun i=>i.1) (fun i=>pt b5 (.cells #[i.2] 31 (0,0)) :: pt b4 (.cells #[.slice none 0 0] 31 (0,0)) :: pt b3 (.cells #[vi q0,vi q1,vi q2] 25 (0,0)) :: pt b2 (.cells #[.slice p l.length c] 31 (0,0)) :: s) (fun i=>Le g1 i.1 ∧ Cells i.1 i.2 (spoilM (modW q0 13) l k x q2 (sideJ x q2))) ?_ ?_
  ·rcases (by omega : modW q0 13 = 0 ∨ modW q0 13 = 1 ∨ modW q0 13 = 2 ∨ modW q0 13 = 3 ∨ modW q0 13 = 4 ∨ modW q0 13 = 5 ∨ modW q0 13 = 6 ∨ modW q0 13 = 7 ∨ modW q0 13 = 8 ∨ modW q0 13 = 9 ∨ modW q0 13 = 10 ∨ modW q0 13 = 11 ∨ modW q0 13 = 12) with hm | hm | hm | hm | hm | hm | hm | hm | hm | hm | hm | hm | hm
   ·have hr9:=modW_range q2 9 dC dC
    refine SC.sR (lU (iB uT25 zT3 I I dC dC) (lK (qL (v:=vi q0) iT3 I (cO 4 I I)) (lW (cL kT34 I (mod_spec E g1 _ q0 13 dC)) ?_)))
    rintro _ _ _ ⟨rfl,rfl,rfl⟩
    rw [hm]
    refine SL.nT (bK (SC.sR (lU (eQ I I) (lA I (SL.nT (cT I (rG (lM I (lM I (lW (cL kT34 I (mod_spec E g1 _ q2 9 dC)) ?_))))))))))
    rintro _ _ _ ⟨rfl,rfl,rfl⟩
    refine lU (sU I I oM) (lU (nC I) (lU (fA uT40 I zT3 I) (SL.O2 (SO.partA (e:=encCell) (a:=(⟨x.id,x.dim,⟨xp,x.sides.length,xc⟩⟩ : Rc)) (j:=k) (o:=0) 0 ⟨modW q2 9 - 1,x.dim,⟨xp,x.sides.length,xc⟩⟩ zT3 I I I hgr I I dC I) (nL (bN (fT fun ga hlea hsa=>?_))))))
    refine fT fun gb hleb hsb=>?_
    exact ST.mid (gb,(.slice (some ⟨bu,0,none⟩) rs.length cap)) sB I I ⟨hlea.trans hleb,_,SlA.mono (e:=encCell) hsa hleb,hfin gb _ _ (hlea.trans hleb) ⟨I,I,hsb⟩⟩
   ·have hr12:=modW_range q2 12 dC dC
    refine SC.sR (lU (iB uT25 zT3 I I dC dC) (lK (qL (v:=vi q0) iT3 I (cO 4 I I)) (lW (cL kT34 I (mod_spec E g1 _ q0 13 dC)) ?_)))
    rintro _ _ _ ⟨rfl,rfl,rfl⟩
    rw [hm]
    refine SL.nT (bK (SC.sR (lU (eQ I I) (lA I (SL.nT (cF I (SC.sR (lU (eQ I I) (lA I (SL.nT (cT I (rG (lM I (lM I (lW (cL kT34 I (mod_spec E g1 _ q2 12 dC)) ?_)))))))))))))))
    rintro _ _ _ ⟨rfl,rfl,rfl⟩
    refine lU (sU I I oM) (lU (nC I) (lU (fA uT40 I zT3 I) (SL.O2 (SO.partA (e:=encCell) (a:=(⟨x.id,x.dim,⟨xp,x.sides.length,xc⟩⟩ : Rc)) (j:=k) (o:=1) 0 ⟨x.id,modW q2 12 - 1,⟨xp,x.sides.length,xc⟩⟩ zT3 I I I hgr I I dC I) (nL (bN (fT fun ga hlea hsa=>?_))))))
    refine fT fun gb hleb hsb=>?_
    exact ST.mid (gb,(.slice (some ⟨bu,0,none⟩) rs.length cap)) sB I I ⟨hlea.trans hleb,_,SlA.mono (e:=encCell) hsa hleb,hfin gb _ _ (hlea.trans hleb) ⟨I,I,hsb⟩⟩
   ·refine SC.facts fun ⟨w0,hw0⟩=>?_
    have hcapr : rs.length ≤ cap:=(by obtain ⟨_,_,_,h1,h2⟩:=row_cap (i:=0) hw0 rfl (by omega : 0 < rs.length); omega)
    clear hw0 w0
    refine SC.sR (lU (iB uT25 zT3 I I dC dC) (lK (qL (v:=vi q0) iT3 I (cO 4 I I)) (lW (cL kT34 I (mod_spec E g1 _ q0 13 dC)) ?_)))
    rintro _ _ _ ⟨rfl,rfl,rfl⟩
    rw [hm]
    refine SL.nT (bK (SC.sR (lU (eQ I I) (lA I (SL.nT (cF I (SC.sR (lU (eQ I I) (lA I (SL.nT (cF I (SC.sR (lU (eQ I I) (lA I (SL.nT (cT I ?_))))))))))))))))
    refine dW [9,10,11] [(0,2),(1,1),(2,2),(3,2),(4,2),(5,1),(6,2),(7,2),(8,2),(9,0),(10,0),(11,0)] Tryz.mixed (by kernel_rfl) ?_
    refine pU I (fA uT31 I zT29 I) (pK I (qL (v:=(.slice (some ⟨bu,0,none⟩) rs.length cap)) iT29 I (cO 2 I I)) (pU I (mV I) (pU I (SU.sliceH uT29 zT40 I I oM oM) (pU I (fA uT31 I zT29 I) (pK I (qL (v:=(.slice (some ⟨bu,0,none⟩) rs.length cap)) iT29 I (cO 2 I I)) (pU I (mV I) (pU I (aD I I oM) (pU I (SU.eq (v':=sliced (some ⟨bu,0,none⟩) (k + 1) rs.length cap 3) (SU.sliceL uT29 zT40 I I oM oM) (by rw [show ((k : Int) + 1).toNat = k + 1 by omega])) ?_))))))))
    refine SP.o I (SO.cutA (j:=k) (n:=rs.length) (c:=cap) (p:=some ⟨bu,0,none⟩) (e:=encCell) 0 sty29 I I I I hkr) dC (.inl dC) ?_
    rintro _ _ _ ⟨rfl,rfl,rfl⟩
    refine oU I (fA uT31 I zT29 I) dC (.inl dC) (SP.on I (sK 2 zT29 I I I I I sB) (.inl dC) ?_)
    rintro _ _ _ ⟨rfl,rfl⟩
    refine pN (bN (fT fun ga hlea hsa=>?_))
    refine fT fun gb hleb hsb=>?_
    exact ST.mid (gb,(.slice (some ⟨bu,0,none⟩) (rs.length - 1) cap)) sB I I ⟨hlea.trans hleb,_,SlA.mono (e:=encCell) hsa hleb,All2.eraseIdx k (hfinA gb (hlea.trans hleb) ⟨I,I,hsb⟩)⟩
   ·refine SC.sR (lU (iB uT25 zT3 I I dC dC) (lK (qL (v:=vi q0) iT3 I (cO 4 I I)) (lW (cL kT34 I (mod_spec E g1 _ q0 13 dC)) ?_)))
    rintro _ _ _ ⟨rfl,rfl,rfl⟩
    rw [hm]
    refine SL.nT (bK (SC.sR (lU (eQ I I) (lA I (SL.nT (cF I (SC.sR (lU (eQ I I) (lA I (SL.nT (cF I (SC.sR (lU (eQ I I) (lA I (SL.nT (cF I (SC.sR (lU (eQ I I) (lA I (SL.nT ?_))))))))))))))))))))
    refine cT I (SC.sR (lM I (lU (nC I) (lU (fA uT40 I zT38 I) (lK (pA (e:=encCell) (a:=(⟨x.id,x.dim,⟨xp,x.sides.length,xc⟩⟩ : Rc)) (j:=k) (o:=2) (u:=(.slice xp x.sides.length xc)) iT38 I (Rd.rowA 0 I) hgr I) (lU (eN uT38 I) (lU (gR I I) (SL.nT ?_))))))))
    refine iP I (fun hsl=>?_) (fun hsl=>?_)
    ·refine SC.facts fun ⟨w0,hw0⟩=>?_
     obtain ⟨bx,cx,hbx⟩:=rowA_based (i:=1) hw0 rfl oM
     obtain ⟨rfl,rfl⟩ : xp = some ⟨bx,0,none⟩ ∧ xc = cx:=by injection hbx with h1 _ h2; exact ⟨h1,h2⟩
     clear hw0 w0 hbx
     obtain ⟨hj,hjl⟩:=hj1 oM
     have hgz:=hj2 oM
     have hr4:=modW_range q2 4 dC dC
     refine dW [10] [(0,2),(1,2),(2,2),(3,1),(4,2),(5,2),(6,0),(7,2),(8,2),(9,2),(10,0)] Tryz.mixed (by kernel_rfl) ?_
     refine pU rfl (mV rfl) (pU rfl (nC rfl) (pU rfl (fA uT40 rfl zT38 rfl) (pK rfl (pA (e:=encCell) (a:=(⟨x.id,x.dim,⟨some ⟨bx,0,none⟩,x.sides.length,xc⟩⟩ : Rc)) (j:=k) (o:=2) (u:=(.slice (some ⟨bx,0,none⟩) x.sides.length xc)) iT38 rfl (Rd.rowA 0 rfl) hgr rfl) (pU rfl (mV rfl) (pU rfl (mV rfl) (SP.o rfl (cL kT34 rfl (mod_spec E g1 _ q2 4 dC)) dC (.inr (by rintro _ _ _ ⟨rfl,rfl,rfl⟩; exact ⟨by exact Le.refl _,(by exact .refl _)⟩)) ?_))))))
     rintro _ _ _ ⟨rfl,rfl,rfl⟩
     refine pU I (sU I I oM) (pU I (iA uT38 zT42 I I I oM sL) (pU I (fC uT42 I zT3 I I) (SP.on I (SO.partA (e:=encSide) (a:=(x.sides.getD (sideJ x q2) dflS)) (j:=(sideJ x q2)) (o:=1) 1 ⟨(x.sides.getD (sideJ x q2) dflS).cell,modW q2 4 - 2⟩ zT3 I I I hgz I I dC I) (.inl dC) ?_)))
     rintro _ _ _ ⟨rfl,rfl⟩
     refine pN (bN (fT fun ga hlea hsa=>?_))
     refine fT fun gb hleb hsb=>?_
     exact ST.mid (gb,(.slice (some ⟨bu,0,none⟩) rs.length cap)) sB I I ⟨hlea.trans hleb,_,SlA.mono (e:=encCell) hsa hleb,hfin0 gb _ (hlea.trans hleb) ⟨I,I,hsb⟩⟩
    ·have hsn:=hnil hsl
     refine kP (bN (fT fun ga hlea hsa=>?_))
     refine fT fun gb hleb hsb=>?_
     exact ST.mid (gb,(.slice (some ⟨bu,0,none⟩) rs.length cap)) sB I I ⟨hlea.trans hleb,_,SlA.mono (e:=encCell) hsa hleb,hfin0 gb _ (hlea.trans hleb) ⟨I,I,by rw [hsn] at hsb ⊢; exact hsb⟩⟩
   ·refine SC.sR (lU (iB uT25 zT3 I I dC dC) (lK (qL (v:=vi q0) iT3 I (cO 4 I I)) (lW (cL kT34 I (mod_spec E g1 _ q0 13 dC)) ?_)))
    rintro _ _ _ ⟨rfl,rfl,rfl⟩
    rw [hm]
    refine SL.nT (bK (SC.sR (lU (eQ I I) (lA I (SL.nT (cF I (SC.sR (lU (eQ I I) (lA I (SL.nT (cF I (SC.sR (lU (eQ I I) (lA I (SL.nT (cF I (SC.sR (lU (eQ I I) (lA I (SL.nT ?_))))))))))))))))))))
    refine cF I (SC.sR (lU (eQ I I) (lA I (SL.nT (cT I (SC.sR (lM I (lU (nC I) (lU (fA uT40 I zT38 I) (lK (pA (e:=encCell) (a:=(⟨x.id,x.dim,⟨xp,x.sides.length,xc⟩⟩ : Rc)) (j:=k) (o:=2) (u:=(.slice xp x.sides.length xc)) iT38 I (Rd.rowA 0 I) hgr I) (lU (eN uT38 I) (lU (gR I I) (SL.nT ?_)))))))))))))
    refine iP I (fun hsl=>?_) (fun hsl=>?_)
    ·refine SC.facts fun ⟨w0,hw0⟩=>?_
     obtain ⟨bx,cx,hbx⟩:=rowA_based (i:=1) hw0 rfl oM
     obtain ⟨rfl,rfl⟩ : xp = some ⟨bx,0,none⟩ ∧ xc = cx:=by injection hbx with h1 _ h2; exact ⟨h1,h2⟩
     clear hw0 w0 hbx
     obtain ⟨hj,hjl⟩:=hj1 oM
     have hgz:=hj2 oM
     refine dW [16] [(0,2),(1,2),(2,2),(3,1),(4,2),(5,2),(6,2),(7,2),(8,1),(9,2),(10,2),(11,2),(12,1),(13,2),(14,2),(15,2),(16,0)] Tryz.mixed (by kernel_rfl) ?_
     refine pU I (mV I) (pU I (nC I) (pU I (fA uT40 I zT38 I) (pK I (pA (e:=encCell) (a:=(⟨x.id,x.dim,⟨some ⟨bx,0,none⟩,x.sides.length,xc⟩⟩ : Rc)) (j:=k) (o:=2) (u:=(.slice (some ⟨bx,0,none⟩) x.sides.length xc)) iT38 I (Rd.rowA 0 I) hgr I) (pU I (mV I) (pU I (mV I) (pU I (nC I) (pU I (fA uT40 I zT38 I) (pK I (pA (e:=encCell) (a:=(⟨x.id,x.dim,⟨some ⟨bx,0,none⟩,x.sides.length,xc⟩⟩ : Rc)) (j:=k) (o:=2) (u:=(.slice (some ⟨bx,0,none⟩) x.sides.length xc)) iT38 I (Rd.rowA 0 I) hgr I) (pU I (mV I) (pU I (iA uT38 zT42 I I I oM sL) (pU I (fC uT42 I zT3 I I) (pK I (pA (e:=encSide) (a:=(x.sides.getD (sideJ x q2) dflS)) (j:=(sideJ x q2)) (o:=1) (u:=vi (x.sides.getD (sideJ x q2) dflS).sign) iT3 I (Rd.rowA 1 I) hgz I) (pU I (SU.neg I) (pU I (iA uT38 zT42 I I I oM sL) (pU I (fC uT42 I zT3 I I) (SP.on I (SO.partA (e:=encSide) (a:=(x.sides.getD (sideJ x q2) dflS)) (j:=(sideJ x q2)) (o:=1) 1 (negS (x.sides.getD (sideJ x q2) dflS)) zT3 I I I hgz I I dC I) (.inl dC) ?_))))))))))))))))
     rintro _ _ _ ⟨rfl,rfl⟩
     refine pN (bN (fT fun ga hlea hsa=>?_))
     refine fT fun gb hleb hsb=>?_
     exact ST.mid (gb,(.slice (some ⟨bu,0,none⟩) rs.length cap)) sB I I ⟨hlea.trans hleb,_,SlA.mono (e:=encCell) hsa hleb,hfin0 gb _ (hlea.trans hleb) ⟨I,I,hsb⟩⟩
    ·have hsn:=hnil hsl
     refine kP (bN (fT fun ga hlea hsa=>?_))
     refine fT fun gb hleb hsb=>?_
     exact ST.mid (gb,(.slice (some ⟨bu,0,none⟩) rs.length cap)) sB I I ⟨hlea.trans hleb,_,SlA.mono (e:=encCell) hsa hleb,hfin0 gb _ (hlea.trans hleb) ⟨I,I,by rw [hsn] at hsb ⊢; exact hsb⟩⟩
   ·refine SC.sR (lU (iB uT25 zT3 I I dC dC) (lK (qL (v:=vi q0) iT3 I (cO 4 I I)) (lW (cL kT34 I (mod_spec E g1 _ q0 13 dC)) ?_)))
    rintro _ _ _ ⟨rfl,rfl,rfl⟩
    rw [hm]
    refine SL.nT (bK (SC.sR (lU (eQ I I) (lA I (SL.nT (cF I (SC.sR (lU (eQ I I) (lA I (SL.nT (cF I (SC.sR (lU (eQ I I) (lA I (SL.nT (cF I (SC.sR (lU (eQ I I) (lA I (SL.nT ?_))))))))))))))))))))
    refine cF I (SC.sR (lU (eQ I I) (lA I (SL.nT (cF I (SC.sR (lU (eQ I I) (lA I (SL.nT (cT I (SC.sR (lM I (lU (nC I) (lU (fA uT40 I zT38 I) (lK (pA (e:=encCell) (a:=(⟨x.id,x.dim,⟨xp,x.sides.length,xc⟩⟩ : Rc)) (j:=k) (o:=2) (u:=(.slice xp x.sides.length xc)) iT38 I (Rd.rowA 0 I) hgr I) (lU (eN uT38 I) (lU (gR I I) (SL.nT ?_))))))))))))))))))
    refine iP I (fun hsl=>?_) (fun hsl=>?_)
    ·refine SC.facts fun ⟨w0,hw0⟩=>?_
     obtain ⟨bx,cx,hbx⟩:=rowA_based (i:=1) hw0 rfl oM
     obtain ⟨rfl,rfl⟩ : xp = some ⟨bx,0,none⟩ ∧ xc = cx:=by injection hbx with h1 _ h2; exact ⟨h1,h2⟩
     clear hw0 w0 hbx
     obtain ⟨hj,hjl⟩:=hj1 oM
     have hgz:=hj2 oM
     obtain ⟨kk,yi,yd,yp,yc,hkk,hkl,hgy,hyi,_,_⟩:=hpick (IntKind.i64.wrap (q2.tdiv 3))
     refine dW [18] [(0,2),(1,2),(2,2),(3,1),(4,2),(5,2),(6,1),(7,2),(8,2),(9,2),(10,1),(11,2),(12,0),(13,2),(14,2),(15,1),(16,2),(17,2),(18,0)] Tryz.mixed (by kernel_rfl) ?_
     refine pU rfl (mV rfl) (pU rfl (nC rfl) (pU rfl (fA uT40 rfl zT38 rfl) (pK rfl (pA (e:=encCell) (a:=(⟨x.id,x.dim,⟨some ⟨bx,0,none⟩,x.sides.length,xc⟩⟩ : Rc)) (j:=k) (o:=2) (u:=(.slice (some ⟨bx,0,none⟩) x.sides.length xc)) iT38 rfl (Rd.rowA 0 rfl) hgr rfl) (pU rfl (mV rfl) (pU rfl (fA uT31 rfl zT29 rfl) (pK rfl (qL (v:=(.slice (some ⟨bu,0,none⟩) rs.length cap)) iT29 rfl (cO 2 rfl rfl)) (pU rfl (mV rfl) (pU rfl (SU.quo rfl rfl dC) (pU rfl (fA uT31 rfl zT29 rfl) (pK rfl (qL (v:=(.slice (some ⟨bu,0,none⟩) rs.length cap)) iT29 rfl (cO 2 rfl rfl)) (pU rfl (eN uT29 rfl) (SP.o rfl (cL kT34 rfl (mod_spec E g1 _ _ rs.length oM)) dC (.inr (by rintro _ _ _ ⟨rfl,rfl,rfl⟩; exact ⟨by exact Le.refl _,(by exact .refl _)⟩)) ?_))))))))))))
     rintro _ _ _ ⟨rfl,rfl,rfl⟩
     rw [hkk]
     refine pU I (iA uT29 zT40 I I I oM sL) (pU I (fC uT40 I zT3 I I) (pK I (pA (e:=encCell) (j:=kk) (o:=0) (u:=vi yi) iT3 I (Rd.rowA 0 I) hgy I) (pU I (iA uT38 zT42 I I I oM sL) (pU I (fC uT42 I zT3 I I) (SP.on I (SO.partA (e:=encSide) (a:=(x.sides.getD (sideJ x q2) dflS)) (j:=(sideJ x q2)) (o:=0) 1 ⟨yi,(x.sides.getD (sideJ x q2) dflS).sign⟩ zT3 I I I hgz I I dC I) (.inl dC) ?_)))))
     rintro _ _ _ ⟨rfl,rfl⟩
     refine pN (bN (fT fun ga hlea hsa=>?_))
     refine fT fun gb hleb hsb=>?_
     rw [hyi] at hsb
     exact ST.mid (gb,(.slice (some ⟨bu,0,none⟩) rs.length cap)) sB I I ⟨hlea.trans hleb,_,SlA.mono (e:=encCell) hsa hleb,hfin0 gb _ (hlea.trans hleb) ⟨I,I,hsb⟩⟩
    ·have hsn:=hnil hsl
     refine kP (bN (fT fun ga hlea hsa=>?_))
     refine fT fun gb hleb hsb=>?_
     exact ST.mid (gb,(.slice (some ⟨bu,0,none⟩) rs.length cap)) sB I I ⟨hlea.trans hleb,_,SlA.mono (e:=encCell) hsa hleb,hfin0 gb _ (hlea.trans hleb) ⟨I,I,by rw [hsn] at hsb ⊢; exact hsb⟩⟩
   ·refine SC.sR (lU (iB uT25 zT3 I I dC dC) (lK (qL (v:=vi q0) iT3 I (cO 4 I I)) (lW (cL kT34 I (mod_spec E g1 _ q0 13 dC)) ?_)))
    rintro _ _ _ ⟨rfl,rfl,rfl⟩
    rw [hm]
    refine SL.nT (bK (SC.sR (lU (eQ I I) (lA I (SL.nT (cF I (SC.sR (lU (eQ I I) (lA I (SL.nT (cF I (SC.sR (lU (eQ I I) (lA I (SL.nT (cF I (SC.sR (lU (eQ I I) (lA I (SL.nT ?_))))))))))))))))))))
    refine cF I (SC.sR (lU (eQ I I) (lA I (SL.nT (cF I (SC.sR (lU (eQ I I) (lA I (SL.nT (cF I (SC.sR (lU (eQ I I) (lA I (SL.nT (cT I (SC.sR (lM I (lU (nC I) (lU (fA uT40 I zT38 I) (lK (pA (e:=encCell) (a:=(⟨x.id,x.dim,⟨xp,x.sides.length,xc⟩⟩ : Rc)) (j:=k) (o:=2) (u:=(.slice xp x.sides.length xc)) iT38 I (Rd.rowA 0 I) hgr I) (lU (eN uT38 I) (lU (gR I I) ?_))))))))))))))))))))))
    refine SL.nT ?_
    refine iP I (fun hsl=>?_) (fun hsl=>?_)
    ·obtain ⟨hj,hjl⟩:=hj1 oM
     refine SC.facts fun ⟨w0,hw0⟩=>?_
     have hcapx : x.sides.length ≤ xc:=(by obtain ⟨_,_,_,h1,h2⟩:=row_cap (i:=1) hw0 rfl (by omega : 0 < x.sides.length); omega)
     clear hw0 w0
     refine dW [14,15,16,17] [(0,2),(1,2),(2,2),(3,2),(4,1),(5,2),(6,2),(7,2),(8,2),(9,2),(10,1),(11,2),(12,2),(13,2),(14,0),(15,0),(16,0),(17,0)] Tryz.mixed (by kernel_rfl) ?_
     refine pU I (mV I) (pU I (mV I) (pU I (nC I) (pU I (fA uT40 I zT38 I) (pK I (pA (e:=encCell) (a:=(⟨x.id,x.dim,⟨xp,x.sides.length,xc⟩⟩ : Rc)) (j:=k) (o:=2) (u:=(.slice xp x.sides.length xc)) iT38 I (Rd.rowA 0 I) hgr I) (pU I (mV I) (pU I (SU.sliceH uT38 zT42 I I oM oM) (pU I (mV I) (pU I (nC I) (pU I (fA uT40 I zT38 I) (pK I (pA (e:=encCell) (a:=(⟨x.id,x.dim,⟨xp,x.sides.length,xc⟩⟩ : Rc)) (j:=k) (o:=2) (u:=(.slice xp x.sides.length xc)) iT38 I (Rd.rowA 0 I) hgr I) (pU I (mV I) (pU I (aD I I oM) (pU I (SU.eq (v':=sliced xp ((sideJ x q2) + 1) x.sides.length xc 2) (SU.sliceL uT38 zT42 I I oM oM) (by rw [show (((sideJ x q2) : Int) + 1).toNat = (sideJ x q2) + 1 by omega])) ?_)))))))))))))
     refine SP.o I (SO.cutA (j:=(sideJ x q2)) (n:=x.sides.length) (c:=xc) (p:=xp) (e:=encSide) 1 sty38 I I I I hjl) dC (.inl dC) ?_
     rintro _ _ _ ⟨rfl,rfl,rfl⟩
     refine oU I (nC I) dC (.inl dC) (oU I (fA uT40 I zT38 I) dC (.inl dC) (SP.on I (SO.partA (e:=encCell) (a:=(⟨x.id,x.dim,⟨xp,x.sides.length,xc⟩⟩ : Rc)) (j:=k) (o:=2) 0 ⟨x.id,x.dim,⟨xp,x.sides.length - 1,xc⟩⟩ zT38 I I I hgr I I dC I) (.inl dC) ?_))
     rintro _ _ _ ⟨rfl,rfl⟩
     refine pN (bN (fT fun ga hlea hsa=>?_))
     refine fT fun gb hleb hsb=>?_
     exact ST.mid (gb,(.slice (some ⟨bu,0,none⟩) rs.length cap)) sB I I ⟨hlea.trans hleb,_,SlA.mono (e:=encCell) hsa hleb,hfin gb _ _ (hlea.trans hleb) ⟨I,I,hsb⟩⟩
    ·have hsn:=hnil hsl
     refine kP (bN (fT fun ga hlea hsa=>?_))
     refine fT fun gb hleb hsb=>?_
     exact ST.mid (gb,(.slice (some ⟨bu,0,none⟩) rs.length cap)) sB I I ⟨hlea.trans hleb,_,SlA.mono (e:=encCell) hsa hleb,hfin0 gb _ (hlea.trans hleb) ⟨I,I,by rw [hsn] at hsb ⊢; exact hsb⟩⟩
   ·have hr2:=modW_range q2 2 dC dC
    obtain ⟨kk,yi,yd,yp,yc,hkk,hkl,hgy,hyi,_,_⟩:=hpick q2
    refine SC.sR (lU (iB uT25 zT3 I I dC dC) (lK (qL (v:=vi q0) iT3 I (cO 4 I I)) (lW (cL kT34 I (mod_spec E g1 _ q0 13 dC)) ?_)))
    rintro _ _ _ ⟨rfl,rfl,rfl⟩
    rw [hm]
    refine SL.nT (bK (SC.sR (lU (eQ I I) (lA I (SL.nT (cF I (SC.sR (lU (eQ I I) (lA I (SL.nT (cF I (SC.sR (lU (eQ I I) (lA I (SL.nT (cF I (SC.sR (lU (eQ I I) (lA I (SL.nT ?_))))))))))))))))))))
    refine cF I (SC.sR (lU (eQ I I) (lA I (SL.nT (cF I (SC.sR (lU (eQ I I) (lA I (SL.nT (cF I (SC.sR (lU (eQ I I) (lA I (SL.nT (cF I (SC.sR (lU (eQ I I) (lA I (SL.nT (cT I ?_))))))))))))))))))))
    refine dW [21,22,23,24] [(0,2),(1,2),(2,2),(3,2),(4,1),(5,2),(6,1),(7,2),(8,2),(9,1),(10,2),(15,2),(11,0),(12,2),(13,2),(14,1),(16,0),(17,2),(18,2),(19,2),(20,0),(21,0),(22,0),(23,0),(24,0)] Tryz.mixed (by kernel_rfl) ?_
    refine pU rfl (mV rfl) (pU rfl (mV rfl) (pU rfl (nC rfl) (pU rfl (fA uT40 rfl zT38 rfl) (pK rfl (pA (e:=encCell) (a:=(⟨x.id,x.dim,⟨xp,x.sides.length,xc⟩⟩ : Rc)) (j:=k) (o:=2) (u:=(.slice xp x.sides.length xc)) iT38 rfl (Rd.rowA 0 rfl) hgr rfl) (pU rfl (fA uT31 rfl zT29 rfl) (pK rfl (qL (v:=(.slice (some ⟨bu,0,none⟩) rs.length cap)) iT29 rfl (cO 2 rfl rfl)) (pU rfl (mV rfl) (pU rfl (fA uT31 rfl zT29 rfl) (pK rfl (qL (v:=(.slice (some ⟨bu,0,none⟩) rs.length cap)) iT29 rfl (cO 2 rfl rfl)) (pU rfl (eN uT29 rfl) (pU rfl (mV rfl) (SP.o rfl (cL kT34 rfl (mod_spec E g1 _ q2 rs.length oM)) dC (.inr (by rintro _ _ _ ⟨rfl,rfl,rfl⟩; exact ⟨by exact Le.refl _,(by exact .refl _)⟩)) ?_))))))))))))
    rintro _ _ _ ⟨rfl,rfl,rfl⟩
    rw [hkk]
    refine pU rfl (iA uT29 zT40 rfl rfl rfl oM sL) (pU rfl (fC uT40 rfl zT3 rfl rfl) (pK rfl (pA (e:=encCell) (j:=kk) (o:=0) (u:=vi yi) iT3 rfl (Rd.rowA 0 rfl) hgy rfl) (SP.o rfl (cL kT34 rfl (mod_spec E g1 _ q2 2 dC)) dC (.inr (by rintro _ _ _ ⟨rfl,rfl,rfl⟩; exact ⟨by exact Le.refl _,(by exact .refl _)⟩)) ?_)))
    rintro _ _ _ ⟨rfl,rfl,rfl⟩
    refine pU rfl (SU.mul rfl rfl oM) (pU rfl (sU rfl rfl oM) (pU rfl (SU.build rfl (buildS42 _ _)) (SP.o rfl (bS sty38 rfl rfl rfl (szs_mk sB) dC) dC (.inr (by rintro _ _ _ ⟨b195,rfl,rfl,rfl⟩; exact ⟨by exact Le.refl _,(by exact .cons _ (.refl _))⟩)) ?_)))
    rintro _ _ _ ⟨b195,rfl,rfl,rfl⟩
    refine SP.o I (aP (e:=encSide) 1 ⟨yi,1 - 2 * modW q2 2⟩ sty38 I I I I I oM oM) dC (.inl dC) ?_
    rintro v196 _ _ ⟨rfl,rfl⟩
    refine SP.facts fun ⟨w0,hw0⟩=>?_
    obtain ⟨q7,d7,rfl⟩:=rowA_form (i:=1) hw0 rfl
    clear hw0 w0
    refine oU I (nC I) dC (.inl dC) (oU I (fA uT40 I zT38 I) dC (.inl dC) (SP.on I (SO.partA (e:=encCell) (a:=(⟨x.id,x.dim,⟨xp,x.sides.length,xc⟩⟩ : Rc)) (j:=k) (o:=2) 0 ⟨x.id,x.dim,⟨q7,(x.sides ++ [((⟨yi,1 - 2 * modW q2 2⟩) : Side)]).length,d7⟩⟩ zT38 I I I hgr I I dC I) (.inl dC) ?_))
    rintro _ _ _ ⟨rfl,rfl⟩
    refine pN (bN (fT fun ga hlea hsa=>?_))
    refine fT fun gb hleb hsb=>?_
    exact ST.mid (gb,(.slice (some ⟨bu,0,none⟩) rs.length cap)) sB I I ⟨hlea.trans hleb,_,SlA.mono (e:=encCell) hsa hleb,hfin gb _ _ (hlea.trans hleb) ⟨I,I,by subst hyi; exact hsb⟩⟩
   ·refine SC.sR (lU (iB uT25 zT3 I I dC dC) (lK (qL (v:=vi q0) iT3 I (cO 4 I I)) (lW (cL kT34 I (mod_spec E g1 _ q0 13 dC)) ?_)))
    rintro _ _ _ ⟨rfl,rfl,rfl⟩
    rw [hm]
    refine SL.nT (bK (SC.sR (lU (eQ I I) (lA I (SL.nT (cF I (SC.sR (lU (eQ I I) (lA I (SL.nT (cF I (SC.sR (lU (eQ I I) (lA I (SL.nT (cF I (SC.sR (lU (eQ I I) (lA I (SL.nT ?_))))))))))))))))))))
    refine cF I (SC.sR (lU (eQ I I) (lA I (SL.nT (cF I (SC.sR (lU (eQ I I) (lA I (SL.nT (cF I (SC.sR (lU (eQ I I) (lA I (SL.nT (cF I (SC.sR (lU (eQ I I) (lA I (SL.nT (cF I (sQ ?_)))))))))))))))))))))
    refine rG (lU (eQ I I) (lA I (SL.nT (cT I ?_))))
    refine dW [6,7,8] [(0,2),(1,1),(2,2),(3,2),(4,1),(5,0),(6,0),(7,0),(8,0)] Tryz.mixed (by kernel_rfl) ?_
    refine pU rfl (fA uT31 rfl zT29 rfl) (pK rfl (qL (v:=(.slice (some ⟨bu,0,none⟩) rs.length cap)) iT29 rfl (cO 2 rfl rfl)) (pU rfl (mV rfl) (pU rfl (nC rfl) (pK rfl (eA (e:=encCell) (a:=(⟨x.id,x.dim,⟨xp,x.sides.length,xc⟩⟩ : Rc)) (j:=k) iT40 zT40 rfl (Rd.rowA 0 rfl) hgr) (SP.o rfl (bS sty29 rfl rfl rfl (szs_mk sB) dC) dC (.inr (by rintro _ _ _ ⟨b206,rfl,rfl,rfl⟩; exact ⟨by exact Le.refl _,(by exact .cons _ (.refl _))⟩)) ?_)))))
    rintro _ _ _ ⟨b206,rfl,rfl,rfl⟩
    refine SP.o I (aP (e:=encCell) 0 (⟨x.id,x.dim,⟨xp,x.sides.length,xc⟩⟩ : Rc) sty29 I I I I I oM oM) dC (.inl dC) ?_
    rintro v207 _ _ ⟨rfl,rfl⟩
    refine SP.facts fun ⟨w0,hw0⟩=>?_
    obtain ⟨q7,d7,rfl⟩:=rowA_form (i:=0) hw0 rfl
    clear hw0 w0
    refine oU I (fA uT31 I zT29 I) dC (.inl dC) (SP.on I (sK 2 zT29 I I I I I sB) (.inl dC) ?_)
    rintro _ _ _ ⟨rfl,rfl⟩
    refine pN (bN (fT fun ga hlea hsa=>?_))
    refine fT fun gb hleb hsb=>?_
    exact ST.mid (gb,_) sB I I ⟨hlea.trans hleb,_,SlA.mono (e:=encCell) hsa hleb,(hfinA gb (hlea.trans hleb) ⟨I,I,hsb⟩).append ⟨⟨I,I,hsb⟩,trivial⟩⟩
   ·obtain ⟨kk,yi,yd,yp,yc,hkk,hkl,hgy,hyi,hyl,hyr⟩:=hpick q2
    refine SC.sR (lU (iB uT25 zT3 I I dC dC) (lK (qL (v:=vi q0) iT3 I (cO 4 I I)) (lW (cL kT34 I (mod_spec E g1 _ q0 13 dC)) ?_)))
    rintro _ _ _ ⟨rfl,rfl,rfl⟩
    rw [hm]
    refine SL.nT (bK (SC.sR (lU (eQ I I) (lA I (SL.nT (cF I (SC.sR (lU (eQ I I) (lA I (SL.nT (cF I (SC.sR (lU (eQ I I) (lA I (SL.nT (cF I (SC.sR (lU (eQ I I) (lA I (SL.nT ?_))))))))))))))))))))
    refine cF I (SC.sR (lU (eQ I I) (lA I (SL.nT (cF I (SC.sR (lU (eQ I I) (lA I (SL.nT (cF I (SC.sR (lU (eQ I I) (lA I (SL.nT (cF I (SC.sR (lU (eQ I I) (lA I (SL.nT (cF I (sQ ?_)))))))))))))))))))))
    refine rG (lU (eQ I I) (lA I (SL.nT (cF I (SC.sR (lU (eQ I I) (lA I (SL.nT (cT I ?_)))))))))
    refine SC.cut (ι:=Nat) (fun b10=>[(2,pp b2 0),(3,pp b3 0),(4,pp b4 0),(5,pp b5 0),(6,vi (k : Nat)),(7,cptr (.slice (some ⟨bu,0,none⟩) rs.length cap) (k * 3)),(8,vi q2),(9,vi ((sideJ x q2) : Nat)),(10,pp b10 0)]) (fun _=>g1) (fun b10=>pt b10 (.cells #[vi yi,vi yd,(.slice yp (pickC l q2).sides.length yc)] 40 (0,0)) :: rowA encCell 40 (.slice (some ⟨bu,0,none⟩) rs.length cap) rs :: rowA encSide 42 (.slice xp x.sides.length xc) x.sides :: pt b5 (.cells #[(.slice (some ⟨bu,0,none⟩) rs.length cap)] 31 (0,0)) :: pt b4 (.cells #[.slice none 0 0] 31 (0,0)) :: pt b3 (.cells #[vi q0,vi q1,vi q2] 25 (0,0)) :: pt b2 (.cells #[.slice p l.length c] 31 (0,0)) :: s) (fun _=>True) ?_ ?_
    ·refine SC.drawX [] Tryz.mixed (by kernel_rfl) ?_
     refine SX.u (i:=0) I (by kernel_rfl) (fA uT31 I zT29 I) dC (SX.q (i:=1) I (by kernel_rfl) (qL (v:=(.slice (some ⟨bu,0,none⟩) rs.length cap)) iT29 I (cO 2 I I)) dC (SX.u (i:=2) I (by kernel_rfl) (mV I) dC (SX.u (i:=3) I (by kernel_rfl) (fA uT31 I zT29 I) dC (SX.q (i:=4) I (by kernel_rfl) (qL (v:=(.slice (some ⟨bu,0,none⟩) rs.length cap)) iT29 I (cO 2 I I)) dC (SX.u (i:=5) I (by kernel_rfl) (eN uT29 I) dC ?_)))))
     refine SX.br2 6 9 (by kernel_rfl) ?_ ?_
     ·refine SB.o (i:=6) rfl (cL kT34 rfl (mod_spec E g1 _ q2 rs.length oM)) dC (.inr (by rintro _ _ _ ⟨rfl,rfl,rfl⟩; exact ⟨by exact Le.refl _,(by exact .refl _)⟩)) ?_
      rintro _ _ _ ⟨rfl,rfl,rfl⟩
      rw [hkk]
      refine SX.u (i:=7) I (by kernel_rfl) (iA uT29 zT40 I I I oM sL) dC (SX.q (i:=8) I (by kernel_rfl) (eA (e:=encCell) (j:=kk) iT40 zT40 I (Rd.rowA 0 I) hgy) dC ?_)
      refine SX.br1 9 (by kernel_rfl) ?_
      ·refine SB.o (i:=9) rfl (aL zeroValue40) dC (.inr (by rintro _ _ _ ⟨b10,rfl,rfl,rfl⟩; exact ⟨by exact Le.refl _,(by exact .cons _ (.refl _))⟩)) ?_
       rintro _ _ _ ⟨b10,rfl,rfl,rfl⟩
       refine SX.br1 10 (by kernel_rfl) ?_
       ·refine SB.on (i:=10) rfl (sK 0 zT40 rfl rfl rfl rfl rfl sB) (.inr (by rintro _ _ _ ⟨rfl,rfl⟩; exact ⟨by exact Le.refl _,(by exact .cons _ (.refl _))⟩)) ?_
        rintro _ _ _ ⟨rfl,rfl⟩
        refine SX.nil (by kernel_rfl) ?_
        exact ST.mid b10 sB I I trivial
     ·refine SB.o (i:=9) rfl (aL zeroValue40) dC (.inr (by rintro _ _ _ ⟨b10,rfl,rfl,rfl⟩; exact ⟨by exact Le.refl _,(by exact .cons _ (.refl _))⟩)) ?_
      rintro _ _ _ ⟨b10,rfl,rfl,rfl⟩
      refine SX.br1 6 (by kernel_rfl) ?_
      ·refine SB.o (i:=6) rfl (cL kT34 rfl (mod_spec E g1 _ q2 rs.length oM)) dC (.inr (by rintro _ _ _ ⟨rfl,rfl,rfl⟩; exact ⟨by exact Le.refl _,(by exact .cons _ (.refl _))⟩)) ?_
       rintro _ _ _ ⟨rfl,rfl,rfl⟩
       rw [hkk]
       refine SX.u (i:=7) I (by kernel_rfl) (iA uT29 zT40 I I I oM sL) dC (SX.q (i:=8) I (by kernel_rfl) (eA (e:=encCell) (j:=kk) iT40 zT40 I (Rd.rowA 0 I) hgy) dC ?_)
       refine SX.br1 10 (by kernel_rfl) ?_
       ·refine SB.on (i:=10) rfl (sK 0 zT40 rfl rfl rfl rfl rfl sB) (.inr (by rintro _ _ _ ⟨rfl,rfl⟩; exact ⟨by exact Le.refl _,(by exact .cons _ (.refl _))⟩)) ?_
        rintro _ _ _ ⟨rfl,rfl⟩
        refine SX.nil (by kernel_rfl) ?_
        exact ST.mid b10 sB I I trivial
    rintro b10 -
    try dsimp only
    have hrd : ∀ S : Own,S[2]? = some (rowA encSide 42 (.slice xp x.sides.length xc) x.sides) → Rd g1 S (.slice yp (pickC l q2).sides.length yc) ((pickC l q2).sides.flatMap encSide.enc):=fun S hS=>by
     rcases hyr with ⟨h1,h2,h3⟩ | h
     ·rw [h1,h2,h3]; exact Rd.rowA 2 hS
     ·exact Sl.rd h
    refine dW [7,8,9,10] [(0,2),(1,2),(2,2),(3,2),(4,1),(5,2),(6,1),(7,0),(8,0),(9,0),(10,0)] Tryz.mixed (by kernel_rfl) ?_
    refine pU I (mV I) (pU I (mV I) (pU I (nC I) (pU I (fA uT40 I zT38 I) (pK I (pA (e:=encCell) (a:=(⟨x.id,x.dim,⟨xp,x.sides.length,xc⟩⟩ : Rc)) (j:=k) (o:=2) (u:=(.slice xp x.sides.length xc)) iT38 I (Rd.rowA 1 I) hgr I) (pU I (fA uT40 I zT38 I) (pK I (qL (v:=(.slice yp (pickC l q2).sides.length yc)) iT38 I (cO 0 I I)) (SP.o I (SO.appendE (m:=(pickC l q2).sides.length) 2 (x.sides ++ (pickC l q2).sides).length ((x.sides ++ (pickC l q2).sides).flatMap encSide.enc) sty38 I I I I I (hrd _ I) (encSide.length _) (encSide.ones _) (by simp) (by simp) (by rw [List.length_append]; omega) (by rw [List.length_append]; omega)) dC (.inl dC) ?_)))))))
    rintro v227 _ _ ⟨rfl,rfl⟩
    refine SP.facts fun ⟨w0,hw0⟩=>?_
    obtain ⟨q7,d7,rfl⟩:=rowA_form (e:=encSide) (l:=x.sides ++ (pickC l q2).sides) (i:=2) hw0 rfl
    clear hw0 w0
    refine oU I (nC I) dC (.inl dC) (oU I (fA uT40 I zT38 I) dC (.inl dC) (SP.on I (SO.partA (e:=encCell) (a:=(⟨x.id,x.dim,⟨xp,x.sides.length,xc⟩⟩ : Rc)) (j:=k) (o:=2) 1 ⟨x.id,x.dim,⟨q7,(x.sides ++ (pickC l q2).sides).length,d7⟩⟩ zT38 I I I hgr I I dC I) (.inl dC) ?_))
    rintro _ _ _ ⟨rfl,rfl⟩
    refine pN (bN (dR (.cons _ (.refl _)) (fT fun ga hlea hsa=>?_)))
    refine fT fun gb hleb hsb=>?_
    exact ST.mid (gb,(.slice (some ⟨bu,0,none⟩) rs.length cap)) sB I I ⟨hlea.trans hleb,_,SlA.mono (e:=encCell) hsa hleb,hfin gb _ _ (hlea.trans hleb) ⟨I,I,hsb⟩⟩
   ·refine SC.sR (lU (iB uT25 zT3 I I dC dC) (lK (qL (v:=vi q0) iT3 I (cO 4 I I)) (lW (cL kT34 I (mod_spec E g1 _ q0 13 dC)) ?_)))
    rintro _ _ _ ⟨rfl,rfl,rfl⟩
    rw [hm]
    refine SL.nT (bK (SC.sR (lU (eQ I I) (lA I (SL.nT (cF I (SC.sR (lU (eQ I I) (lA I (SL.nT (cF I (SC.sR (lU (eQ I I) (lA I (SL.nT (cF I (SC.sR (lU (eQ I I) (lA I (SL.nT ?_))))))))))))))))))))
    refine cF I (SC.sR (lU (eQ I I) (lA I (SL.nT (cF I (SC.sR (lU (eQ I I) (lA I (SL.nT (cF I (SC.sR (lU (eQ I I) (lA I (SL.nT (cF I (SC.sR (lU (eQ I I) (lA I (SL.nT (cF I (sQ ?_)))))))))))))))))))))
    refine rG (lU (eQ I I) (lA I (SL.nT (cF I (SC.sR (lU (eQ I I) (lA I (SL.nT (cF I (SC.sR (lU (eQ I I) (lA I (SL.nT (cT I (SC.sR (lA I (SL.nT (bK ?_))))))))))))))))))
    have hn0 : negTo x.sides 0 = x.sides:=by simp [negTo]
    refine SC.to (fun w hw=>?_) (g':=g1) (s':=rowA encCell 40 (.slice (some ⟨bu,0,none⟩) rs.length cap) rs :: rowA encSide 42 (.slice xp x.sides.length xc) (negTo x.sides 0) :: pt b5 (.cells #[(.slice (some ⟨bu,0,none⟩) rs.length cap)] 31 (0,0)) :: pt b4 (.cells #[.slice none 0 0] 31 (0,0)) :: pt b3 (.cells #[vi q0,vi q1,vi q2] 25 (0,0)) :: pt b2 (.cells #[.slice p l.length c] 31 (0,0)) :: s) ?_
    ·rw [hn0]; exact hw
    refine oP (ι:=Nat) (fun i=>[(2,pp b2 0),(3,pp b3 0),(4,pp b4 0),(5,pp b5 0),(6,vi (k : Nat)),(7,cptr (.slice (some ⟨bu,0,none⟩) rs.length cap) (k * 3)),(8,vi q2),(9,vi ((sideJ x q2) : Nat)),(11,vi i)]) (fun _=>g1) (fun i=>rowA encCell 40 (.slice (some ⟨bu,0,none⟩) rs.length cap) rs :: rowA encSide 42 (.slice xp x.sides.length xc) (negTo x.sides i) :: pt b5 (.cells #[(.slice (some ⟨bu,0,none⟩) rs.length cap)] 31 (0,0)) :: pt b4 (.cells #[.slice none 0 0] 31 (0,0)) :: pt b3 (.cells #[vi q0,vi q1,vi q2] 25 (0,0)) :: pt b2 (.cells #[.slice p l.length c] 31 (0,0)) :: s) (fun i=>i ≤ x.sides.length) (fun i=>x.sides.length - i) 0 sB I I (Nat.zero_le _) ?_
    rintro i hi
    refine sQ (SC.sR (lM I (lM I (lU (nC I) (lU (fA uT40 I zT38 I) (lK (pA (e:=encCell) (a:=(⟨x.id,x.dim,⟨xp,x.sides.length,xc⟩⟩ : Rc)) (j:=k) (o:=2) (u:=(.slice xp x.sides.length xc)) iT38 I (Rd.rowA 0 I) hgr I) (lU (eN uT38 I) (lU (lS I I) (SL.nT ?_)))))))))
    refine iP I (fun hlt=>?_) (fun hlt=>?_)
    ·have hil : i < x.sides.length:=oM
     refine SC.facts fun ⟨w0,hw0⟩=>?_
     obtain ⟨bx,cx,hbx⟩:=rowA_based (i:=1) hw0 rfl (by rw [negTo_length _ _ hi]; omega)
     rw [negTo_length _ _ hi] at hbx
     obtain ⟨rfl,rfl⟩ : xp = some ⟨bx,0,none⟩ ∧ xc = cx:=by injection hbx with h1 _ h2; exact ⟨h1,h2⟩
     clear hw0 w0 hbx
     have hgz:=negTo_get hil
     have hst:=negTo_set hil
     refine kP (tN (sQ (bK ?_)))
     refine dW [16] [(0,2),(1,2),(2,2),(3,1),(4,2),(5,2),(6,2),(7,2),(8,1),(9,2),(10,2),(11,2),(12,1),(13,2),(14,2),(15,2),(16,0)] Tryz.mixed (by kernel_rfl) ?_
     refine pU I (mV I) (pU I (nC I) (pU I (fA uT40 I zT38 I) (pK I (pA (e:=encCell) (a:=(⟨x.id,x.dim,⟨some ⟨bx,0,none⟩,x.sides.length,xc⟩⟩ : Rc)) (j:=k) (o:=2) (u:=(.slice (some ⟨bx,0,none⟩) x.sides.length xc)) iT38 I (Rd.rowA 0 I) hgr I) (pU I (mV I) (pU I (mV I) (pU I (nC I) (pU I (fA uT40 I zT38 I) (pK I (pA (e:=encCell) (a:=(⟨x.id,x.dim,⟨some ⟨bx,0,none⟩,x.sides.length,xc⟩⟩ : Rc)) (j:=k) (o:=2) (u:=(.slice (some ⟨bx,0,none⟩) x.sides.length xc)) iT38 I (Rd.rowA 0 I) hgr I) (pU I (mV I) (pU I (iA uT38 zT42 I I I oM sL) (pU I (fC uT42 I zT3 I I) (pK I (pA (e:=encSide) (a:=x.sides[i]) (j:=i) (o:=1) (u:=vi x.sides[i].sign) iT3 I (Rd.rowA 1 I) hgz I) (pU I (SU.neg I) (pU I (iA uT38 zT42 I I I oM sL) (pU I (fC uT42 I zT3 I I) (SP.on I (SO.partA (e:=encSide) (a:=x.sides[i]) (j:=i) (o:=1) 1 (negS x.sides[i]) zT3 I I I hgz I I dC I) (.inl dC) ?_))))))))))))))))
     rintro _ _ _ ⟨rfl,rfl⟩
     rw [hst]
     refine pN (bN (tN (rG (lM I (lU (aD I I oM) (lA I (nL ?_)))))))
     exact gA (i + 1) sB I I oM oM
    ·have hii : negTo x.sides i = x.sides.map negS:=by
      have : i = x.sides.length:=oM
      subst this
      simp [negTo]
     rw [hii]
     refine xI (tX (tX (bX (bN (fT fun ga hlea hsa=>?_)))))
     refine fT fun gb hleb hsb=>?_
     exact ST.mid (gb,(.slice (some ⟨bu,0,none⟩) rs.length cap)) sB I I ⟨hlea.trans hleb,_,SlA.mono (e:=encCell) hsa hleb,hfin0 gb _ (hlea.trans hleb) ⟨I,I,hsb⟩⟩
   ·have hr3:=modW_range q2 3 dC dC
    refine SC.sR (lU (iB uT25 zT3 I I dC dC) (lK (qL (v:=vi q0) iT3 I (cO 4 I I)) (lW (cL kT34 I (mod_spec E g1 _ q0 13 dC)) ?_)))
    rintro _ _ _ ⟨rfl,rfl,rfl⟩
    rw [hm]
    refine SL.nT (bK (SC.sR (lU (eQ I I) (lA I (SL.nT (cF I (SC.sR (lU (eQ I I) (lA I (SL.nT (cF I (SC.sR (lU (eQ I I) (lA I (SL.nT (cF I (SC.sR (lU (eQ I I) (lA I (SL.nT ?_))))))))))))))))))))
    refine cF I (SC.sR (lU (eQ I I) (lA I (SL.nT (cF I (SC.sR (lU (eQ I I) (lA I (SL.nT (cF I (SC.sR (lU (eQ I I) (lA I (SL.nT (cF I (SC.sR (lU (eQ I I) (lA I (SL.nT (cF I (sQ ?_)))))))))))))))))))))
    refine rG (lU (eQ I I) (lA I (SL.nT (cF I (SC.sR (lU (eQ I I) (lA I (SL.nT (cF I (SC.sR (lU (eQ I I) (lA I (SL.nT (cF I (SC.sR (lU (eQ I I) (lA I (SL.nT (cT I ?_)))))))))))))))))))
    refine SC.drawX [15,17] Tryz.mixed (by kernel_rfl) ?_
    refine SX.u (i:=0) I (by kernel_rfl) (fA uT31 I zT29 I) dC (SX.q (i:=1) I (by kernel_rfl) (qL (v:=(.slice (some ⟨bu,0,none⟩) rs.length cap)) iT29 I (cO 2 I I)) dC (SX.u (i:=2) I (by kernel_rfl) (mV I) dC (SX.u (i:=5) I (by kernel_rfl) (mV I) dC (SX.u (i:=8) I (by kernel_rfl) (mV I) dC (SX.u (i:=9) I (by kernel_rfl) (nC I) dC (SX.u (i:=10) I (by kernel_rfl) (fA uT40 I zT38 I) dC (SX.q (i:=11) I (by kernel_rfl) (pA (e:=encCell) (a:=(⟨x.id,x.dim,⟨xp,x.sides.length,xc⟩⟩ : Rc)) (j:=k) (o:=2) (u:=(.slice xp x.sides.length xc)) iT38 I (Rd.rowA 0 I) hgr I) dC ?_)))))))
    refine SX.br2 3 7 (by kernel_rfl) ?_ ?_
    ·refine SB.o (i:=3) rfl (cL kT34 rfl (mod_spec E g1 _ q2 3 dC)) dC (.inr (by rintro _ _ _ ⟨rfl,rfl,rfl⟩; exact ⟨by exact Le.refl _,(by exact .refl _)⟩)) ?_
     rintro _ _ _ ⟨rfl,rfl,rfl⟩
     refine SX.u (i:=4) I (by kernel_rfl) (aD I I oM) dC ?_
     refine SX.br2 6 7 (by kernel_rfl) ?_ ?_
     ·refine SB.o (i:=6) rfl (cL kT34 rfl (mod_spec E g1 _ q2 4 dC)) dC (.inr (by rintro _ _ _ ⟨rfl,rfl,rfl⟩; exact ⟨by exact Le.refl _,(by exact .refl _)⟩)) ?_
      rintro _ _ _ ⟨rfl,rfl,rfl⟩
      refine SX.br1 7 (by kernel_rfl) ?_
      ·refine SB.o (i:=7) rfl (bS sty38 rfl rfl rfl (szs_mk trivial) dC) dC (.inr (by rintro _ _ _ ⟨b266,rfl,rfl,rfl⟩; exact ⟨by exact Le.refl _,(by exact .cons _ (.refl _))⟩)) ?_
       rintro _ _ _ ⟨b266,rfl,rfl,rfl⟩
       refine SX.to (fun w hw=>(hw.sublist (List.Sublist.cons _ (.refl _))).emptyRow 42 2 (some ⟨b266,0,none⟩)) ?_
       refine SX.br1 12 (by kernel_rfl) ?_
       ·refine SB.o (i:=12) rfl (SO.appendE (m:=x.sides.length) 0 x.sides.length (x.sides.flatMap encSide.enc) sty38 rfl rfl rfl rfl rfl (Rd.rowA 2 rfl) (encSide.length _) (encSide.ones _) oM (by simp) oM oM) dC (.inr (by rintro v271 _ _ ⟨rfl,rfl⟩; exact ⟨by exact Le.refl _,(by exact .cons _ (.refl _))⟩)) ?_
        rintro v271 _ _ ⟨rfl,rfl⟩
        refine SX.freezeRow fun gq hleq hsq=>?_
        have hsd : SlA encSide gq v271 x.sides:=hsq
        obtain ⟨q7,d7,rfl⟩:=SlA.form hsd
        refine SX.u (i:=13) I (by kernel_rfl) (SU.build I (buildF40 _ _ _ I)) dC ?_
        refine SX.br1 14 (by kernel_rfl) ?_
        ·refine SB.o (i:=14) rfl (bS sty29 rfl rfl rfl (szs_mk sB) dC) dC (.inr (by rintro _ _ _ ⟨b273,rfl,rfl,rfl⟩; exact ⟨by assumption,(by exact .cons _ (.refl _))⟩)) ?_
         rintro _ _ _ ⟨b273,rfl,rfl,rfl⟩
         refine SX.br1 15 (by kernel_rfl) ?_
         ·refine SB.o (i:=15) I (aP (e:=encCell) 0 ⟨500 + modW q2 3,modW q2 4,⟨q7,x.sides.length,d7⟩⟩ sty29 I I I I I oM oM) dC (.inl dC) ?_
          rintro v274 _ _ ⟨rfl,rfl⟩
          refine SX.facts fun ⟨w0,hw0⟩=>?_
          obtain ⟨q8,d8,rfl⟩:=rowA_form (i:=0) hw0 rfl
          clear hw0 w0
          refine SX.u (i:=16) I (by kernel_rfl) (fA uT31 I zT29 I) dC ?_
          refine SX.br1 17 (by kernel_rfl) ?_
          ·refine SB.on (i:=17) I (sK 2 zT29 I I I I I sB) (.inl dC) ?_
           rintro _ _ _ ⟨rfl,rfl⟩
           refine SX.nil (by kernel_rfl) (bN ?_)
           (refine fT fun ga hlea hsa=>?_; refine fT fun gb hleb hsb=>?_; exact ST.mid (gb,_) sB rfl rfl ⟨hleq.trans (hlea.trans hleb),_,SlA.mono (e:=encCell) hsa hleb,(hfinA gb (hleq.trans (hlea.trans hleb)) ⟨rfl,rfl,hsb⟩).append ⟨⟨rfl,rfl,hsd.mono (hlea.trans hleb)⟩,trivial⟩⟩)
     ·refine SB.o (i:=7) rfl (bS sty38 rfl rfl rfl (szs_mk trivial) dC) dC (.inr (by rintro _ _ _ ⟨b266,rfl,rfl,rfl⟩; exact ⟨by exact Le.refl _,(by exact .cons _ (.refl _))⟩)) ?_
      rintro _ _ _ ⟨b266,rfl,rfl,rfl⟩
      refine SX.to (fun w hw=>(hw.sublist (List.Sublist.cons _ (.refl _))).emptyRow 42 2 (some ⟨b266,0,none⟩)) ?_
      refine SX.br1 6 (by kernel_rfl) ?_
      ·refine SB.o (i:=6) rfl (cL kT34 rfl (mod_spec E g1 _ q2 4 dC)) dC (.inr (by rintro _ _ _ ⟨rfl,rfl,rfl⟩; exact ⟨by exact Le.refl _,(by exact .cons _ (.refl _))⟩)) ?_
       rintro _ _ _ ⟨rfl,rfl,rfl⟩
       refine SX.br1 12 (by kernel_rfl) ?_
       ·refine SB.o (i:=12) rfl (SO.appendE (m:=x.sides.length) 0 x.sides.length (x.sides.flatMap encSide.enc) sty38 rfl rfl rfl rfl rfl (Rd.rowA 2 rfl) (encSide.length _) (encSide.ones _) oM (by simp) oM oM) dC (.inr (by rintro v271 _ _ ⟨rfl,rfl⟩; exact ⟨by exact Le.refl _,(by exact .cons _ (.refl _))⟩)) ?_
        rintro v271 _ _ ⟨rfl,rfl⟩
        refine SX.freezeRow fun gq hleq hsq=>?_
        have hsd : SlA encSide gq v271 x.sides:=hsq
        obtain ⟨q7,d7,rfl⟩:=SlA.form hsd
        refine SX.u (i:=13) I (by kernel_rfl) (SU.build I (buildF40 _ _ _ I)) dC ?_
        refine SX.br1 14 (by kernel_rfl) ?_
        ·refine SB.o (i:=14) rfl (bS sty29 rfl rfl rfl (szs_mk sB) dC) dC (.inr (by rintro _ _ _ ⟨b273,rfl,rfl,rfl⟩; exact ⟨by assumption,(by exact .cons _ (.refl _))⟩)) ?_
         rintro _ _ _ ⟨b273,rfl,rfl,rfl⟩
         refine SX.br1 15 (by kernel_rfl) ?_
         ·refine SB.o (i:=15) I (aP (e:=encCell) 0 ⟨500 + modW q2 3,modW q2 4,⟨q7,x.sides.length,d7⟩⟩ sty29 I I I I I oM oM) dC (.inl dC) ?_
          rintro v274 _ _ ⟨rfl,rfl⟩
          refine SX.facts fun ⟨w0,hw0⟩=>?_
          obtain ⟨q8,d8,rfl⟩:=rowA_form (i:=0) hw0 rfl
          clear hw0 w0
          refine SX.u (i:=16) I (by kernel_rfl) (fA uT31 I zT29 I) dC ?_
          refine SX.br1 17 (by kernel_rfl) ?_
          ·refine SB.on (i:=17) I (sK 2 zT29 I I I I I sB) (.inl dC) ?_
           rintro _ _ _ ⟨rfl,rfl⟩
           refine SX.nil (by kernel_rfl) (bN ?_)
           (refine fT fun ga hlea hsa=>?_; refine fT fun gb hleb hsb=>?_; exact ST.mid (gb,_) sB rfl rfl ⟨hleq.trans (hlea.trans hleb),_,SlA.mono (e:=encCell) hsa hleb,(hfinA gb (hleq.trans (hlea.trans hleb)) ⟨rfl,rfl,hsb⟩).append ⟨⟨rfl,rfl,hsd.mono (hlea.trans hleb)⟩,trivial⟩⟩)
    ·refine SB.o (i:=7) rfl (bS sty38 rfl rfl rfl (szs_mk trivial) dC) dC (.inr (by rintro _ _ _ ⟨b266,rfl,rfl,rfl⟩; exact ⟨by exact Le.refl _,(by exact .cons _ (.refl _))⟩)) ?_
     rintro _ _ _ ⟨b266,rfl,rfl,rfl⟩
     refine SX.to (fun w hw=>(hw.sublist (List.Sublist.cons _ (.refl _))).emptyRow 42 2 (some ⟨b266,0,none⟩)) ?_
     refine SX.br1 3 (by kernel_rfl) ?_
     ·refine SB.o (i:=3) rfl (cL kT34 rfl (mod_spec E g1 _ q2 3 dC)) dC (.inr (by rintro _ _ _ ⟨rfl,rfl,rfl⟩; exact ⟨by exact Le.refl _,(by exact .cons _ (.refl _))⟩)) ?_
      rintro _ _ _ ⟨rfl,rfl,rfl⟩
      refine SX.u (i:=4) I (by kernel_rfl) (aD I I oM) dC ?_
      refine SX.br1 6 (by kernel_rfl) ?_
      ·refine SB.o (i:=6) rfl (cL kT34 rfl (mod_spec E g1 _ q2 4 dC)) dC (.inr (by rintro _ _ _ ⟨rfl,rfl,rfl⟩; exact ⟨by exact Le.refl _,(by exact .cons _ (.refl _))⟩)) ?_
       rintro _ _ _ ⟨rfl,rfl,rfl⟩
       refine SX.br1 12 (by kernel_rfl) ?_
       ·refine SB.o (i:=12) rfl (SO.appendE (m:=x.sides.length) 0 x.sides.length (x.sides.flatMap encSide.enc) sty38 rfl rfl rfl rfl rfl (Rd.rowA 2 rfl) (encSide.length _) (encSide.ones _) oM (by simp) oM oM) dC (.inr (by rintro v271 _ _ ⟨rfl,rfl⟩; exact ⟨by exact Le.refl _,(by exact .cons _ (.refl _))⟩)) ?_
        rintro v271 _ _ ⟨rfl,rfl⟩
        refine SX.freezeRow fun gq hleq hsq=>?_
        have hsd : SlA encSide gq v271 x.sides:=hsq
        obtain ⟨q7,d7,rfl⟩:=SlA.form hsd
        refine SX.u (i:=13) I (by kernel_rfl) (SU.build I (buildF40 _ _ _ I)) dC ?_
        refine SX.br1 14 (by kernel_rfl) ?_
        ·refine SB.o (i:=14) rfl (bS sty29 rfl rfl rfl (szs_mk sB) dC) dC (.inr (by rintro _ _ _ ⟨b273,rfl,rfl,rfl⟩; exact ⟨by assumption,(by exact .cons _ (.refl _))⟩)) ?_
         rintro _ _ _ ⟨b273,rfl,rfl,rfl⟩
         refine SX.br1 15 (by kernel_rfl) ?_
         ·refine SB.o (i:=15) I (aP (e:=encCell) 0 ⟨500 + modW q2 3,modW q2 4,⟨q7,x.sides.length,d7⟩⟩ sty29 I I I I I oM oM) dC (.inl dC) ?_
          rintro v274 _ _ ⟨rfl,rfl⟩
          refine SX.facts fun ⟨w0,hw0⟩=>?_
          obtain ⟨q8,d8,rfl⟩:=rowA_form (i:=0) hw0 rfl
          clear hw0 w0
          refine SX.u (i:=16) I (by kernel_rfl) (fA uT31 I zT29 I) dC ?_
          refine SX.br1 17 (by kernel_rfl) ?_
          ·refine SB.on (i:=17) I (sK 2 zT29 I I I I I sB) (.inl dC) ?_
           rintro _ _ _ ⟨rfl,rfl⟩
           refine SX.nil (by kernel_rfl) (bN ?_)
           (refine fT fun ga hlea hsa=>?_; refine fT fun gb hleb hsb=>?_; exact ST.mid (gb,_) sB rfl rfl ⟨hleq.trans (hlea.trans hleb),_,SlA.mono (e:=encCell) hsa hleb,(hfinA gb (hleq.trans (hlea.trans hleb)) ⟨rfl,rfl,hsb⟩).append ⟨⟨rfl,rfl,hsd.mono (hlea.trans hleb)⟩,trivial⟩⟩)
   ·refine SC.sR (lU (iB uT25 zT3 I I dC dC) (lK (qL (v:=vi q0) iT3 I (cO 4 I I)) (lW (cL kT34 I (mod_spec E g1 _ q0 13 dC)) ?_)))
    rintro _ _ _ ⟨rfl,rfl,rfl⟩
    rw [hm]
    refine SL.nT (bK (SC.sR (lU (eQ I I) (lA I (SL.nT (cF I (SC.sR (lU (eQ I I) (lA I (SL.nT (cF I (SC.sR (lU (eQ I I) (lA I (SL.nT (cF I (SC.sR (lU (eQ I I) (lA I (SL.nT ?_))))))))))))))))))))
    refine cF I (SC.sR (lU (eQ I I) (lA I (SL.nT (cF I (SC.sR (lU (eQ I I) (lA I (SL.nT (cF I (SC.sR (lU (eQ I I) (lA I (SL.nT (cF I (SC.sR (lU (eQ I I) (lA I (SL.nT (cF I (sQ ?_)))))))))))))))))))))
    refine rG (lU (eQ I I) (lA I (SL.nT (cF I (SC.sR (lU (eQ I I) (lA I (SL.nT (cF I (SC.sR (lU (eQ I I) (lA I (SL.nT (cF I (SC.sR (lU (eQ I I) (lA I (SL.nT (cF I (kP (bN (fT fun ga hlea hsa=>?_))))))))))))))))))))))
    refine fT fun gb hleb hsb=>?_
    exact ST.mid (gb,(.slice (some ⟨bu,0,none⟩) rs.length cap)) sB I I ⟨hlea.trans hleb,_,SlA.mono (e:=encCell) hsa hleb,hfinA gb (hlea.trans hleb) ⟨I,I,hsb⟩⟩
  rintro ⟨g2,bv⟩ ⟨hle2,hbv⟩
  dsimp only at hle2 hbv ⊢
  obtain ⟨q3,d3,rfl⟩:=hbv.form
  refine SC.sR (lK (qV 0 iT31 zT31 I I I) (SL.O2 (sK 1 zT31 I I I I I sB) ?_))
  refine SL.nT (rE ?_)
  exact ST.retCD 1 s (.inl I) results8 I iT31 zT31 I I (.cons _ (.cons _ (.cons _ (.cons _ (.refl _))))) ⟨I,hle1.trans hle2,_,I,hbv⟩
open Go.ChangeShapes Go.WideShapes Go.ChangeAt Go.RowKit
set_option maxRecDepth 100000
def held (W : World) : PH:=fun b=>W.heap[b]?
def E0 (W : World) : World:={ W with drawn:=0 }
theorem at_start (W : World) : At (E0 W) (held W) [] W:=⟨rfl,⟨rfl,Nat.zero_le _⟩,rfl,fun _ _ h=>h,by simp,by simp,List.Pairwise.nil⟩
theorem at_below {W W' : World} {g : PH} {s : Own} (h : At (E0 W) g s W') (hl : Le (held W) g) : Below W.heap.size W W':=by
 have hb : ∀ k,k < W.heap.size → W'.heap[k]? = W.heap[k]?:=fun k hk=>by
  have h1 : W.heap[k]? = some W.heap[k]:=Array.getElem?_eq_getElem hk
  rw [h1]
  exact h.known k _ (hl k _ h1)
 refine ⟨h.os,h.tape.1,h.output,?_,hb⟩
 refine Decidable.of_not_not fun hc=>?_
 have h1:=hb W'.heap.size oM
 rw [Array.getElem?_eq_none (lR _),Array.getElem?_eq_getElem oM] at h1
 cases h1
theorem row_sl {W : World} {a : Addr} {len cap : Nat} {xs : List Value} (hl : len ≤ cap) (hx : xs.length = len) (hc : ∀ i x,xs[i]? = some x → W.cell? (a.add i) = some x) : Sl (held W) 1 (.slice (some a) len cap) len xs:=by
 refine ⟨some a,cap,I,⟨oM,hl⟩,fun hne=>?_⟩
 obtain ⟨b,o,sp⟩:=a
 have h0 : 0 < xs.length:=List.length_pos_iff.2 hne
 have hc0:=hc 0 xs[0] (gE h0)
 have hsp : sp = none:=by simpa [Addr.add] using World.cell?_spot hc0
 subst hsp
 have hadd : ∀ i,(⟨b,o,none⟩ : Addr).add i = ⟨b,o + i,none⟩:=fun i=>by unfold Addr.add; split <;> simp_all
 simp only [hadd] at hc
 have hcell : ∀ i x,xs[i]? = some x → ∃ cs T fr,W.heap[b]? = some (.cells cs T fr) ∧ cs[o + i]? = some x:=fun i x hi=>by
  have h1:=hc i x hi
  unfold World.cell? at h1
  split at h1
  ·rename_i cs T fr hh
   exact ⟨cs,T,fr,hh,by simpa using h1⟩
  ·cases h1
 obtain ⟨cs,T,fr,hb,_⟩:=hcell 0 xs[0] (gE h0)
 refine ⟨b,o,cs,T,fr,I,hb,fun j x hj=>?_⟩
 obtain ⟨cs',T',fr',hb',h2⟩:=hcell j x hj
 rw [hb] at hb'
 cases hb'
 exact h2
section
variable {H : Type} {enc : TypeId × Value → H} {W : World} {base : Nat} {spare : Nat → Bool} {hd : Bool}
theorem Tryz.cells3 : Tryz.prog.cellsOf 3 = 1:=by kernel_rfl
theorem Tryz.cells27 : Tryz.prog.cellsOf 27 = 1:=by kernel_rfl
theorem Tryz.cells25 : Tryz.prog.cellsOf 25 = 3:=by kernel_rfl
theorem Tryz.cells24 : Tryz.prog.cellsOf 24 = 3:=by kernel_rfl
theorem ints_of {fuel : Nat} {v : Value} {x : DataW H × List MemPlace} (h : DataW.trod enc Tryz.prog W base spare hd fuel 27 [v] = some x) : ∃ (l : List Int) (r : Sv),v = .slice r.p r.n r.c ∧ Ints (held W) v l:=by
 rcases open_ints uT27 uT3 cells3 h with ⟨hcs,_⟩ | ⟨a,len,cap,zs,hcs,_,hl,_,hz,_,hcell,_⟩
 ·simp at hcs
  subst hcs
  exact ⟨[],⟨none,0,0⟩,I,Sl.nil _ _⟩
 ·simp at hcs
  subst hcs
  have hlz : len ≤ zs.length:=by rw [hz]; split <;> omega
  have hlen : (zs.take len).length = len:=by rw [List.length_take]; omega
  have he : (zs.take len).flatMap encInt.enc = (zs.take len).map vi:=by
   rw [List.flatMap_def]
   induction zs.take len with
   | nil=>rfl
   | cons y t ih=>simp [encInt] at ih ⊢; exact ih
  refine ⟨zs.take len,⟨some a,len,cap⟩,I,?_⟩
  show Sl (held W) 1 _ (zs.take len).length ((zs.take len).flatMap encInt.enc)
  rw [he,hlen]
  refine row_sl hl (by rw [List.length_map,hlen]) fun i y hi=>?_
  rw [List.getElem?_map] at hi
  cases hc : (zs.take len)[i]? with
  | none=>rw [hc] at hi; cases hi
  | some z =>
   rw [hc] at hi
   cases hi
   have hil : i < (zs.take len).length:=(List.getElem?_eq_some_iff.1 hc).1
   have hi2 : i < zs.length:=oM
   rw [hcell i hi2]
   have : zs.getD i 0 = z:=by
    rw [List.getElem?_take] at hc
    split at hc
    ·rw [List.getD_eq_getElem?_getD,hc]; rfl
    ·cases hc
   rw [this]
theorem all2_map {α β γ : Type} {R : α → β → Prop} {f : γ → α} {k : γ → β} : ∀ {l : List γ},(∀ i ∈ l,R (f i) (k i)) → All2 R (l.map f) (l.map k)
 | [],_=>trivial
 | x :: l,h=>⟨h x (by simp),all2_map fun i hi=>h i (by simp [hi])⟩
instance : Inhabited (List Int × Sv):=⟨([],⟨none,0,0⟩)⟩
theorem lists_of {fuel : Nat} {v : Value} {x : DataW H × List MemPlace} (h : DataW.trod enc Tryz.prog W base spare hd fuel 22 [v] = some x) : ∃ ls,Lists (held W) v ls:=by
 rcases Go.Deep.open_slice1 uT22 cells27 h with ⟨hcs,_⟩ | ⟨a,len,cap,m,n,V,D,Pl,hcs,_,hl,_,hmm,_,hx⟩
 ·simp at hcs
  subst hcs
  exact ⟨[],[],Sl.nil _ _,trivial⟩
 ·simp at hcs
  subst hcs
  have hlm : len ≤ m:=by rw [hmm]; split <;> omega
  obtain ⟨f,hf⟩:=Go.Deep.choose_lt (α:=List Int × Sv) (n:=len) (p:=fun i y=>V i = .slice y.2.p y.2.n y.2.c ∧ Ints (held W) (V i) y.1) fun i hi=>by
   obtain ⟨l,r,h1,h2⟩:=ints_of (hx i oM).2
   exact ⟨(l,r),h1,h2⟩
  refine ⟨(List.range len).map fun i=>(f i).1,(List.range len).map fun i=>(f i).2,?_,all2_map fun i hi=>?_⟩
  ·show Sl (held W) 1 _ ((List.range len).map fun i=>(f i).2).length (((List.range len).map fun i=>(f i).2).flatMap encSv.enc)
   have he : ((List.range len).map fun i=>(f i).2).flatMap encSv.enc = (List.range len).map fun i=>V i:=by
    have : ∀ l : List Nat,(∀ i ∈ l,i < len) → (l.map fun i=>(f i).2).flatMap encSv.enc = l.map fun i=>V i:=by
     intro l
     induction l with
     | nil=>intro _; rfl
     | cons y t ih =>
      intro hy
      rw [List.map_cons,List.flatMap_cons,ih fun i hi=>hy i (by simp [hi]),List.map_cons,(hf y (hy y (by simp))).1]
      rfl
    exact this _ fun i hi=>List.mem_range.1 hi
   rw [he,List.length_map,List.length_range]
   refine row_sl hl (by simp) fun i y hi=>?_
   rw [List.getElem?_map] at hi
   cases hc : (List.range len)[i]? with
   | none=>rw [hc] at hi; cases hi
   | some z =>
    rw [hc] at hi
    cases hi
    obtain ⟨h1,h2⟩:=List.getElem?_eq_some_iff.1 hc
    simp at h1 h2
    subst h2
    exact (hx i oM).1
  ·have:=hf i (List.mem_range.1 hi)
   unfold ListR
   rw [← this.1]
   exact this.2
theorem okWide_array {r : Reach} {b0 : Nat} {P : Program} {w : World} {t e : TypeId} {n : Nat} {v : Value} (ht : P.underlying t = some (.array n e)) (h : Value.okWide P w r b0 t v) : ∃ cs,v = .agg cs ∧ cs.size = P.cellsOf t:=by
 simp only [Value.okWide,ht] at h
 obtain ⟨cs,h1,h2,_⟩:=h
 exact ⟨cs,h1,h2⟩
theorem shape_of {r : Reach} {b0 : Nat} {v : Value} {d : DataW H} {p : List MemPlace} (hv : Value.okWide Tryz.prog W r b0 24 v) (h : DataW.Trod enc Tryz.prog W base spare hd 24 v d p) : ∃ (k y : Int) (u : Value) (ls : List (List Int)),v = .agg #[vi k,u,vi y] ∧ Lists (held W) u ls:=by
 obtain ⟨c0,c1,c2,y0,y1,y2,n,rfl,_,_,h0,h1,h2⟩:=Go.Joins.open_agg3 uT24 (by kernel_rfl) cells24 hv h
 obtain ⟨a,e0,_,_⟩:=DataW.trod_int uT3 h0
 obtain ⟨c,e2,_,_⟩:=DataW.trod_int uT3 h2
 obtain ⟨ls,hls⟩:=lists_of h1
 simp at e0 e2
 subst e0
 subst e2
 exact ⟨a,c,c1,ls,I,hls⟩
end
theorem lawSame_spec (E : World) (g : PH) (s : Own) (v u : Value) (l m : List Cl) (hv : Cells g v l) (hu : Cells g u m) (hf : Fits l) :
  Ctr Tryz.prog E 15 #[.agg #[v],.agg #[u]] g s (fun r g' s'=>r = vb (decide (l = m)) ∧ g = g' ∧ s = s'):=by
 obtain ⟨ra,hra,halla⟩:=hv
 obtain ⟨rb,hrb,hallb⟩:=hu
 have eal:=halla.length
 have ebl:=hallb.length
 have hll:=hf.1
 obtain ⟨pa,ca,rfl⟩:=hra.form
 obtain ⟨pb,cb,rfl⟩:=hrb.form
 refine Ctr.of (args:=[.agg #[.slice pa ra.length ca],.agg #[.slice pb rb.length cb]]) func15 I ntmps15 (bE I) ?_
 refine SC.sR (SL.bx (bO I) fun b2=>?_)
 refine SL.bx (bO I) fun b3=>?_
 refine lA I (SL.nT (sQ (SC.sR (lU (fA uT31 I zT29 I) (lK (qL (v:=.slice pa ra.length ca) iT29 I (cO 1 I I)) (lU (eN uT29 I) (lU (fA uT31 I zT29 I) (lK (qL (v:=.slice pb rb.length cb) iT29 I (cO 0 I I)) (lU (eN uT29 I) (lU (nQ I I) (SL.nT ?_)))))))))))
 refine iP I (fun hne=>?_) (fun hne=>?_)
 ·refine SC.sR (lA I (SL.nT (rE (tR (dR (s':=s) (.cons _ (.cons _ (.refl _))) ?_)))))
  exact ST.ret1 (.inl I) results15 I ⟨by rw [decide_eq_false (fun e : l = m=>by rw [e] at eal; omega)],I,I⟩
 ·refine kP (tN (sQ (SC.sR (lA I (SL.nT (bK ?_))))))
  have hlen : l.length = m.length:=oM
  refine oP (ι:=Nat) (fun k=>[(2,pp b2 0),(3,pp b3 0),(5,vi k)]) (fun _=>g) (fun _=>pt b3 (.cells #[.slice pb rb.length cb] 31 (0,0)) :: pt b2 (.cells #[.slice pa ra.length ca] 31 (0,0)) :: s) (fun k=>k ≤ l.length ∧ l.take k = m.take k) (fun k=>l.length - k) 0
   sB rfl rfl ⟨Nat.zero_le _,by simp⟩ ?_
  rintro k ⟨hk,heq⟩
  refine sQ (SC.sR (lM I (lU (fA uT31 I zT29 I) (lK (qL (v:=.slice pa ra.length ca) iT29 I (cO 1 I I)) (lU (eN uT29 I) (lU (lS I I) (SL.nT ?_)))))))
  refine iP I (fun hlt=>?_) (fun hlt=>?_)
  ·have hkl : k < l.length:=oM
   have hkm : k < m.length:=oM
   have hb1:=hra.based oM
   have hb2:=hrb.based oM
   have h1:=halla.get (gE hkl) (gE (show k < ra.length by omega))
   have h2:=hallb.get (gE hkm) (gE (show k < rb.length by omega))
   have g1 : ra[((k : Nat) : Int).toNat]? = some ra[k]:=gE (show k < ra.length by omega)
   have g2 : rb[((k : Nat) : Int).toNat]? = some rb[k]:=gE (show k < rb.length by omega)
   have hxl:=hf.2 _ (gM hkl)
   refine kP (tN (sQ (bK (sQ ?_))))
   refine dW [] [(0,2),(1,1),(2,2),(3,2),(4,1),(5,2),(6,1),(7,2),(8,2),(9,1),(10,0),(11,2)] Tryz.mixed (by kernel_rfl) ?_
   refine pU rfl (fA uT31 rfl zT29 rfl) (pK rfl (qL (v:=.slice pa ra.length ca) iT29 rfl (cO 1 rfl rfl)) (pU rfl (mV rfl) (pU rfl (iA uT29 zT40 rfl rfl hb1 oM sL) (pK rfl (eA iT40 zT40 rfl hra.rd g1) (pU rfl (fA uT31 rfl zT29 rfl) (pK rfl (qL (v:=.slice pb rb.length cb) iT29 rfl (cO 0 rfl rfl)) (pU rfl (mV rfl) (pU rfl (iA uT29 zT40 rfl rfl hb2 oM sL) (pK rfl (eA iT40 zT40 rfl hrb.rd g2) (SP.o rfl (cL call52 rfl (sameCell_spec E g _ l[k] m[k] _ _ h1 h2 hxl)) dC (.inr (by rintro _ _ _ ⟨rfl,rfl,rfl⟩; exact ⟨by exact Le.refl _,(by exact .refl _)⟩)) ?_))))))))))
   rintro _ _ _ ⟨rfl,rfl,rfl⟩
   refine pU I (SU.notP I) (pN (tN ?_))
   refine iP I (fun hd=>?_) (fun hd=>?_)
   ·refine SC.sR (lA I (SL.nT (rE (bR (tR (tR (bR (tR (dR (s':=s) (.cons _ (.cons _ (.refl _))) ?_)))))))))
    exact ST.ret1 (.inl I) results15 I ⟨by rw [decide_eq_false (fun e : l = m=>hd (by simp [e]))],I,I⟩
   ·refine kP (bN (tN (rG (lM I (lU (aD I I oM) (lA I (nL ?_)))))))
    exact gA (k + 1) sB I I ⟨oM,by rw [tS hkl,tS hkm,heq,Decidable.of_not_not hd]⟩ oM
  ·refine xI (tX (tX (bX (tN (SC.sR (lA I (SL.nT (rE ?_))))))))
   have heq2 : l = m:=by rw [tL oM,tL oM] at heq; exact heq
   refine dR (s':=s) (.cons _ (.cons _ (.refl _))) ?_
   exact ST.ret1 (.inl I) results15 I ⟨by rw [decide_eq_true heq2],I,I⟩
end Go.Proofs.YtkdibcicncjpdaaGreatDoor
namespace Go.Sy
open Go
section
variable {P : Program} {N : Nat} {E : World} {f : Fr} {g : PH} {s s1 : Own} {dst : Option Tmp} {ty : TypeId} {pos : String} {af : Array Edge} {gd : Option (Nat × Bool)} {α : Type} {k : Nat} {e : Enc α k}
def que (e : Enc α k) (T : TypeId) (v : Value) (l : List α) : Ent :=
 ⟨rblk v,fun oo=>(∃ p,v = .slice p 0 0 ∧ l = []) ∨
  ∃ b o cap cur,v = .slice (some ⟨b,o,none⟩) l.length (cap + 1) ∧ oo = some (.cells cur T (0,0)) ∧ l.length ≤ cap + 1 ∧ cap + 1 ≤ maxLen ∧ cur.size = o + (cap + 1) * k ∧ (cur.toList.drop o).take (l.length * k) = l.flatMap e.enc⟩
theorem que_is {w : World} {T : TypeId} {i : Nat} {v : Value} {l : List α} (h : At E g s w) (hi : s[i]? = some (que e T v l)) : (∃ p,v = .slice p 0 0 ∧ l = []) ∨
  ∃ b o cap cur,v = .slice (some ⟨b,o,none⟩) l.length (cap + 1) ∧ w.heap[b]? = some (.cells cur T (0,0)) ∧ l.length ≤ cap + 1 ∧ cap + 1 ≤ maxLen ∧ cur.size = o + (cap + 1) * k ∧ (cur.toList.drop o).take (l.length * k) = l.flatMap e.enc:=by
 rcases h.own _ (List.mem_of_getElem? hi) with h2 | ⟨b,o,cap,cur,rfl,ho,h3⟩
 ·exact .inl h2
 ·refine .inr ⟨b,o,cap,cur,I,?_,h3⟩
  simpa [que,rblk] using ho
theorem que_holds {w : World} {T : TypeId} {b o cap : Nat} {l : List α} {cur : Array Value} (hb : w.heap[b]? = some (.cells cur T (0,0))) (hn : l.length ≤ cap + 1) (hc : cap + 1 ≤ maxLen) (hs : cur.size = o + (cap + 1) * k) (ht : (cur.toList.drop o).take (l.length * k) = l.flatMap e.enc) :
  (que e T (.slice (some ⟨b,o,none⟩) l.length (cap + 1)) l).holds ((que e T (.slice (some ⟨b,o,none⟩) l.length (cap + 1)) l).blk.bind fun b=>w.heap[b]?) :=
 .inr ⟨b,o,cap,cur,rfl,by simpa [que,rblk] using hb,hn,hc,hs,ht⟩
theorem que_form {w : World} {T : TypeId} {i : Nat} {v : Value} {l : List α} (h : At E g s w) (hi : s[i]? = some (que e T v l)) : ∃ p c,v = .slice p l.length c ∧ (0 < l.length → based v = true):=by
 rcases que_is h hi with ⟨p,rfl,rfl⟩ | ⟨b,o,cap,cur,rfl,_⟩
 ·exact ⟨_,_,I,fun h=>absurd h (by simp)⟩
 ·exact ⟨_,_,I,fun _=>I⟩
theorem At.toQue {w : World} {T : TypeId} {i : Nat} {v : Value} {l : List α} (h : At E g s w) (hi : s[i]? = some (rowA e T v l)) : At E g (s.set i (que e T v l)) w:=by
 obtain ⟨hxl,hform⟩:=row_is h hi
 refine h.turn hi I ⟨I,lR _⟩ I (lR _) (fun _ _ _=>I) ?_ (fun b hb=>⟨(h.fresh _ (List.mem_of_getElem? hi) b hb).2,.inl hb⟩)
 rcases hform with ⟨q,rfl,h0⟩ | ⟨b,cap,cur,rfl,hg,hle,hcm,hcs,htake⟩
 ·exact .inl ⟨q,I,List.eq_nil_of_length_eq_zero h0⟩
 ·exact que_holds hg hle hcm (by rw [hcs]; omega) (by simpa using htake)
theorem At.front {w : World} {T : TypeId} {i c n : Nat} {p : Option Addr} {a : α} {l : List α} (h : At E g s w) (hi : s[i]? = some (que e T (.slice p n c) (a :: l))) : At E g (s.set i (que e T (sliced p 1 n c k) l)) w:=by
 rcases que_is h hi with ⟨q,he,h0⟩ | ⟨b,o,cap,cur,he,hg,hle,hcm,hcs,htake⟩
 ·cases h0
 ·injection he with e1 e2 e3
  subst e1; subst e2; subst e3
  have hfr:=h.fresh _ (List.mem_of_getElem? hi) b rfl
  cases cap with
  | zero =>
   have hl0 : l = []:=by simpa using hle
   subst hl0
   refine h.turn hi I ⟨I,lR _⟩ I (lR _) (fun _ _ _=>I) (.inl ⟨_,I,I⟩) (fun b' hb'=>?_)
   simp [que,sliced,rblk] at hb'
  | succ cap =>
   have hsl : sliced (some ⟨b,o,none⟩) 1 (a :: l).length (cap + 1 + 1) k = .slice (some ⟨b,o + k,none⟩) l.length (cap + 1):=by
    simp [sliced,Addr.add_lit]
   rw [hsl]
   refine h.turn hi I ⟨I,lR _⟩ I (lR _) (fun _ _ _=>I) ?_ (fun b' hb'=>?_)
   ·refine que_holds hg (by simpa using hle) oM (by rw [hcs,Nat.succ_mul (cap + 1)]; omega) ?_
    have h1:=congrArg (List.drop k) htake
    rw [List.flatMap_cons,List.drop_left' (e.len a),List.drop_take,List.drop_drop] at h1
    have h2 : (a :: l).length * k - k = l.length * k:=by rw [List.length_cons,Nat.succ_mul]; omega
    rw [h2] at h1
    exact h1
   ·simp only [que,rblk,Option.some.injEq] at hb'
    subst hb'
    exact ⟨hfr.2,.inl I⟩
theorem Rd.que {T : TypeId} {v : Value} {l : List α} (i : Nat) (hi : s[i]? = some (que e T v l)) : Rd g s v (l.flatMap e.enc):=by
 intro E w hw j x hj
 rcases que_is hw hi with ⟨p,rfl,rfl⟩ | ⟨b,o,cap,cur,rfl,hb,_,_,_,ht⟩
 ·simp at hj
 ·refine ⟨⟨b,o,none⟩,l.length,cap + 1,I,I,?_⟩
  rw [← ht,List.getElem?_take] at hj
  split at hj
  ·rw [List.getElem?_drop] at hj
   simp [World.cell?,hb]
   simpa using hj
  ·cases hj
theorem run_append_roomO (w : World) (t ty e : TypeId) (i : TypeInfo) (ht : P.underlying t = some (.slice e)) (hi : P.info? e = some i)
  (g o sLen sCap : Nat) (cur : Array Value) (hg : w.heap[g]? = some (.cells cur e (0,0)))
  (a : Addr) (m c : Nat) (news : List Value) (hl : news.length = m * i.size) (hnews : ∀ j u,news[j]? = some u → w.cell? (a.add j) = some u) (h1 : ∀ u ∈ news,u.oneCell' = true)
  (hroom : sLen + m ≤ sCap) (hfit : o + sLen * i.size + news.length ≤ cur.size) :
  (Builtin.append_ #[t,t] ty #[.slice (some ⟨g,o,none⟩) sLen sCap,.slice (some a) m c]).run P w =
   .ok (.slice (some ⟨g,o,none⟩) (sLen + m) sCap) (w.setRow g (cur.toList.take (o + sLen * i.size) ++ news ++ cur.toList.drop (o + sLen * i.size + news.length)).toArray):=by
 have hf:=run_firstCells_some (P:=P) w i.size m a m c news hl hnews
 have hst:=run_storeCells_at P g (o + sLen * i.size) e news 0 cur w hg (by simpa using hfit) h1
 simp only [Nat.add_zero] at hst
 simp [Builtin.append_,run_underlying ht,sizeOf,typeInfo,hi,Builtin.lenOf,hroom,hf,Addr.add_lit,hst]
theorem At.newQue {w w' : World} {T : TypeId} {i cap : Nat} {v : Value} {l : List α} {a : α} {zs : List Value} (h : At E g s w) (hi : s[i]? = some (que e T v l)) (hw' : w' = w.drew.alloc (.cells ((l.flatMap e.enc).toArray ++ (e.enc a).toArray ++ zs.toArray) T))
  (hc : l.length + 1 ≤ cap) (hcm : cap ≤ maxLen) (hz : zs.length = (cap - (l.length + 1)) * k) :
  At E g (s.set i (que e T (.slice (some ⟨w.heap.size,0,none⟩) (l.length + 1) cap) (l ++ [a]))) w':=by
 subst hw'
 obtain ⟨cap,rfl⟩ : ∃ c,cap = c + 1:=⟨cap - 1,oM⟩
 have hnew : (w.drew.alloc (.cells ((l.flatMap e.enc).toArray ++ (e.enc a).toArray ++ zs.toArray) T)).heap[w.heap.size]? = some (.cells ((l.flatMap e.enc).toArray ++ (e.enc a).toArray ++ zs.toArray) T (0,0)):=heap_alloc_new w.drew _
 have hlen : l.length + 1 = (l ++ [a]).length:=by simp
 rw [hlen]
 refine h.turn hi I ⟨I,(by exact Nat.le_add_right _ _)⟩ I (by simp) (fun k hk _=>by (first | exact heap_alloc_old w.drew _ k hk | exact heap_alloc_old w.drew _ hk)) (que_holds hnew (by simpa using hc) hcm ?_ ?_) (fun b hb=>?_)
 ·simp only [Array.size_append,List.size_toArray,e.length,e.len,hz]
  have : (cap + 1) * k = (l.length + 1) * k + (cap + 1 - (l.length + 1)) * k:=by rw [← Nat.add_mul]; congr 1; omega
  rw [this,Nat.add_mul]
  omega
 ·have : (l ++ [a]).length * k = (l.flatMap e.enc ++ e.enc a).length:=by simp [e.length,e.len,Nat.add_mul]
  rw [this]
  simp only [Array.toList_append,List.drop_zero]
  rw [List.take_left,List.flatMap_append]
  simp
 ·simp only [que,rblk,Option.some.injEq] at hb
  subst hb
  exact ⟨by simp,.inr (lR _)⟩
theorem SO.queA {bytes b : Nat} {x y : Operand} {t T : TypeId} {z v : Value} {l : List α} {cs : Array Value} (i : Nat) (a : α) (hT : STy P t T k bytes z) (hx : ev f x = some v) (hy : ev f y = some (.slice (some ⟨b,0,none⟩) 1 1))
  (hs : s = pt b (.cells cs T (0,0)) :: s1) (hi : s1[i]? = some (que e T v l)) (hc : cs.toList = e.enc a) (hb : (l.length + 1) * bytes ≤ 140737488355328) (hlen : l.length + 1 ≤ 4611686018427387904) :
  SO P N E ⟨dst,.call ⟨.builtin .append,#[x,y],#[t,t]⟩,ty,pos,af,gd⟩ f g s fun v' g' s'=>g = g' ∧ s' = s1.set i (que e T v' (l ++ [a])) :=
 SO.of_run fun a0 w ha hw0=>by
  have hr : Rd g s (.slice (some ⟨b,0,none⟩) 1 1) cs.toList:=Rd.pt 0 (by rw [hs]; rfl)
  have hw : At E g s1 w:=hw0.sublist (by rw [hs]; exact .cons _ (.refl _))
  obtain ⟨ti,ht1,ht2,ht3,ht4⟩:=hT.info
  rw [hc] at hr
  have hcells : ∀ j q,(e.enc a)[j]? = some q → w.cell? ((⟨b,0,none⟩ : Addr).add j) = some q:=fun j q hq=>by
   obtain ⟨a',_,_,he,_,hc⟩:=hr E w hw0 j q hq
   cases he
   have hadd : (⟨b,0,none⟩ : Addr).add j = ⟨b,0 + j,none⟩:=by unfold Addr.add; split <;> simp_all
   rw [hadd]
   exact hc
  have hl1 : (e.enc a).length = 1 * k:=by rw [e.len]; omega
  have hzs : ∀ c,(Builtin.zeroCells z.cells c).toList.length = c * k:=fun c=>by simp [size_zeroCells,hT.zs]
  have key : ∃ v' w',(Builtin.append_ #[t,t] ty #[v,.slice (some ⟨b,0,none⟩) 1 1]).run P w = .ok v' w' ∧ At E g (s1.set i (que e T v' (l ++ [a]))) w':=by
   rcases que_is hw hi with ⟨q,rfl,rfl⟩ | ⟨bq,o,cap,cur,rfl,hg,hle,hcm,hcs,htake⟩
   ·have hge:=grownCap_ge w (0 + 1) 0 T
    have hcm:=grownCap_le_maxLen w (0 + 1) 0 T (by unfold maxLen; omega)
    cases q with
    | none =>
     have h5:=run_append_nil (P:=P) w t ty T ti z hT.und ht1 ht2 ⟨b,0,none⟩ 1 1 (e.enc a) (by rw [ht3]; exact hl1) hcells oM oM (by rw [ht4]; simp at hb; omega)
     have h6:=hw.newQue (e:=e) (l:=[]) (a:=a) (zs:=(Builtin.zeroCells z.cells (grownCap w (0 + 1) 0 T - (0 + 1))).toList) hi rfl hge hcm (by rw [hzs]; rfl)
     refine ⟨_,_,h5,?_⟩
     simpa using h6
    | some q =>
     have h5:=run_append_grow (P:=P) w t ty T ti z hT.und ht1 ht2 q 0 0 [] (by simp) (by simp) ⟨b,0,none⟩ 1 1 (e.enc a) (by rw [ht3]; exact hl1) hcells oM oM (by rw [ht4]; exact growslice_fits oM (by simpa using hb))
     have h6:=hw.newQue (e:=e) (l:=[]) (a:=a) (zs:=(Builtin.zeroCells z.cells (grownCap w (0 + 1) 0 T - (0 + 1))).toList) hi rfl hge hcm (by rw [hzs]; rfl)
     refine ⟨_,_,h5,?_⟩
     simpa using h6
   ·by_cases hroom : l.length + 1 ≤ cap + 1
    ·have hfit : o + l.length * k + (e.enc a).length ≤ cur.size:=by
      rw [hl1,hcs,Nat.add_assoc,← Nat.add_mul]
      exact Nat.add_le_add_left (Nat.mul_le_mul_right _ hroom) _
     have h5:=run_append_roomO (P:=P) w t ty T ti hT.und ht1 bq o l.length (cap + 1) cur hg ⟨b,0,none⟩ 1 1 (e.enc a) (by rw [ht3]; exact hl1) hcells (e.one a) hroom (by rw [ht3]; exact hfit)
     refine ⟨_,_,h5,?_⟩
     have hfr:=hw.fresh _ (List.mem_of_getElem? hi) bq rfl
     have hlen : l.length + 1 = (l ++ [a]).length:=by simp
     rw [hlen]
     refine hw.turn hi I ⟨I,(by exact lR _)⟩ I (by simp) (fun k' _ hk'=>setRow_other w bq k' _ (fun e1=>hk' (by simp [que,rblk,e1]))) (que_holds (setRow_heap w bq cur _ T _ hg) (by simpa using hroom) hcm ?_ ?_) (fun b' hb'=>?_)
     ·rw [ht3]
      simp only [List.size_toArray,List.length_append,List.length_take,List.length_drop,Array.length_toList]
      omega
     ·rw [ht3]
      have hsz : cur.toList.length = cur.size:=by simp
      have h1 : cur.toList.take (o + l.length * k) = cur.toList.take o ++ l.flatMap e.enc:=by
       rw [← htake,List.take_add]
      have h2 : (cur.toList.take o).length = o:=by rw [List.length_take]; omega
      simp only [h1,List.append_assoc]
      rw [List.drop_left' h2,← List.append_assoc]
      have h3 : (l ++ [a]).length * k = (l.flatMap e.enc ++ e.enc a).length:=by simp [e.length,e.len,Nat.add_mul]
      rw [h3,List.take_left,List.flatMap_append]
      simp
     ·simp only [que,rblk,Option.some.injEq] at hb'
      subst hb'
      exact ⟨by simpa using hfr.2,.inl I⟩
    ·have holds : ∀ j q,(l.flatMap e.enc)[j]? = some q → w.cell? ((⟨bq,o,none⟩ : Addr).add j) = some q:=fun j q hq=>by
      have hadd : (⟨bq,o,none⟩ : Addr).add j = ⟨bq,o + j,none⟩:=by unfold Addr.add; split <;> simp_all
      rw [← htake,List.getElem?_take] at hq
      split at hq
      ·rw [List.getElem?_drop] at hq
       rw [hadd]; simp [World.cell?,hg]; simpa using hq
      ·cases hq
     have hge:=grownCap_ge w (l.length + 1) (cap + 1) T
     have hcm':=grownCap_le_maxLen w (l.length + 1) (cap + 1) T (by unfold maxLen; omega)
     have h5:=run_append_grow (P:=P) w t ty T ti z hT.und ht1 ht2 ⟨bq,o,none⟩ l.length (cap + 1) (l.flatMap e.enc) (by rw [ht3]; exact e.length l) holds ⟨b,0,none⟩ 1 1 (e.enc a) (by rw [ht3]; exact hl1) hcells oM oM (by rw [ht4]; exact growslice_fits oM hb)
     have h6:=hw.newQue (a:=a) (zs:=(Builtin.zeroCells z.cells (grownCap w (l.length + 1) (cap + 1) T - (l.length + 1))).toList) hi rfl hge hcm' (by rw [hzs])
     refine ⟨_,_,h5,?_⟩
     simpa using h6
  obtain ⟨v',w',hr1,hr2⟩:=key
  exact ⟨v',w',g,_,run_appendOp (ha.ev hx) (ha.ev hy) hr1,hr2,I,I⟩
end
end Go.Sy
namespace Go.Proofs.YtkdibcicncjpdaaGreatDoor
open _root_.Go.Proofs.Tryz _root_.Go.Proofs.YtkdibcicncjpdaaGreatDoor.Tryz
open Go Go.Sy Go.Pl Go.Proofs
def adjT (A : List Cl) (k : Int) : Option (List Int):=(findT A k).map fun c=>c.sides.map Side.cell
theorem reachF_dfs (A : List Cl) : ∀ (n : Nat) (id : Int) (vis : List Int),reachF A n id vis = dfs (adjT A) n id vis
 | 0,_,_=>rfl
 | n + 1,id,vis=>by
  rw [reachF_succ,dfs_succ]
  unfold adjT
  cases findT A id with
  | none=>rfl
  | some c =>
   simp only [Option.map_some,List.foldl_map]
   congr 2
   funext v x
   exact reachF_dfs A n x.cell v
theorem adjT_some {A : List Cl} {k : Int} {l : List Int} (h : adjT A k = some l) : ∃ c,findT A k = some c ∧ c.sides.map Side.cell = l:=by
 unfold adjT at h
 cases hf : findT A k with
 | none=>rw [hf] at h; cases h
 | some c=>rw [hf] at h; injection h with h; exact ⟨c,rfl,h⟩
theorem cntF_strict (A : List Cl) : ∀ v k l,adjT A k = some l → l ≠ [] → v.contains k = false → cntF A (v ++ [k]) < cntF A v:=by
 intro v k l hl _ hv
 obtain ⟨c,hf,_⟩:=adjT_some hl
 obtain ⟨hm,rfl⟩:=findT_mem hf
 exact cntF_lt hm hv
def ClosedT (A : List Cl) (v : List Int) : Prop:=∀ x ∈ v,∀ l,adjT A x = some l → ∀ y ∈ l,adjT A y ≠ none → y ∈ v
theorem clos_fold (A : List Cl) : ∀ (ids v : List Int),ClosedT A v → ClosedT A (ids.foldl (fun v id=>reachF A (A.length + 1) id v) v) ∧ (∀ x ∈ v,x ∈ ids.foldl (fun v id=>reachF A (A.length + 1) id v) v) ∧
  (∀ id ∈ ids,adjT A id ≠ none → id ∈ ids.foldl (fun v id=>reachF A (A.length + 1) id v) v) ∧ ∀ x ∈ ids.foldl (fun v id=>reachF A (A.length + 1) id v) v,x ∈ v ∨ ∃ id ∈ ids,Rch (adjT A) id x
 | [],v,h=>⟨h,fun _ h=>h,by simp,fun _ h=>.inl h⟩
 | id :: ids,v,h=>by
  have hc:=dfs_complete (adjT A) (cntF A) (fun v v' h=>cntF_mono h) (cntF_strict A) (A.length + 1) id v (Nat.lt_succ_of_le (cntF_le _ _))
  have hs:=dfs_sub (adjT A) (A.length + 1) id v
  have hd:=dfs_sound (adjT A) (A.length + 1) id v
  rw [← reachF_dfs] at hc hs hd
  have hcl : ClosedT A (reachF A (A.length + 1) id v):=by
   intro x hx l hl y hy hn
   by_cases hv : x ∈ v
   ·exact hs y (h x hv l hl y hy hn)
   ·exact hc.2 x hx hv l hl y hy hn
  obtain ⟨h1,h2,h3,h4⟩:=clos_fold A ids _ hcl
  simp only [List.foldl_cons]
  refine ⟨h1,fun x hx=>h2 x (hs x hx),fun q hq hn=>?_,fun x hx=>?_⟩
  ·rcases List.mem_cons.1 hq with rfl | hq
   ·exact h2 _ (hc.1 hn)
   ·exact h3 q hq hn
  ·rcases h4 x hx with h5 | ⟨q,hq,h5⟩
   ·rcases hd x h5 with h6 | h6
    ·exact .inl h6
    ·exact .inr ⟨id,by simp,h6⟩
   ·exact .inr ⟨q,by simp [hq],h5⟩
theorem mem_closF (A : List Cl) (ids : List Int) (x : Int) : x ∈ closF A ids ↔ ∃ id ∈ ids,Rch (adjT A) id x:=by
 obtain ⟨h1,_,h3,h4⟩:=clos_fold A ids [] (fun x hx=>absurd hx (by simp))
 refine ⟨fun h=>(h4 x h).resolve_left (by simp),fun ⟨id,hid,hr⟩=>?_⟩
 have key : ∀ a b,Rch (adjT A) a b → a ∈ closF A ids → b ∈ closF A ids:=by
  intro a b hr
  induction hr with
  | refl a _=>exact fun h=>h
  | step a b c l hl hb r ih=>exact fun h=>ih (h1 a h l hl b hb r.node)
 exact key id x hr (h3 id hid hr.node)
def costF (A : List Cl) (m : List Int) : Nat:=((A.filter fun c=>!m.contains c.id).map fun c=>c.sides.length).sum
theorem costF_cons (d : Cl) (A : List Cl) (m : List Int) : costF (d :: A) m = (if m.contains d.id then 0 else d.sides.length) + costF A m:=by
 unfold costF
 rw [List.filter_cons]
 cases m.contains d.id <;> simp
theorem costF_mono (A : List Cl) (m : List Int) (x : Int) : costF A (m ++ [x]) ≤ costF A m:=by
 induction A with
 | nil=>exact lR _
 | cons d t ih =>
  rw [costF_cons,costF_cons]
  have : m.contains d.id = true → (m ++ [x]).contains d.id = true:=fun h=>by simp at h ⊢; exact .inl h
  cases h1 : m.contains d.id <;> cases h2 : (m ++ [x]).contains d.id <;> simp_all <;> omega
theorem costF_add {A : List Cl} {m : List Int} {c : Cl} (hc : c ∈ A) (hn : m.contains c.id = false) : costF A (m ++ [c.id]) + c.sides.length ≤ costF A m:=by
 induction A with
 | nil=>simp at hc
 | cons d t ih =>
  have hm:=costF_mono t m c.id
  rw [costF_cons,costF_cons]
  rcases List.mem_cons.1 hc with rfl | hc'
  ·have : (m ++ [c.id]).contains c.id = true:=by simp
   rw [this,hn]
   simp
   omega
  ·have h0:=ih hc'
   have : m.contains d.id = true → (m ++ [c.id]).contains d.id = true:=fun h=>by simp at h ⊢; exact .inl h
   cases h1 : m.contains d.id <;> cases h2 : (m ++ [c.id]).contains d.id <;> simp_all <;> omega
structure Wide (A : List Cl) (ids left m : List Int) : Prop where
 sound : ∀ x ∈ m,∃ id ∈ ids,Rch (adjT A) id x
 todo : ∀ x ∈ left,adjT A x ≠ none → ∃ id ∈ ids,Rch (adjT A) id x
 start : ∀ x ∈ ids,adjT A x ≠ none → x ∈ left ∨ x ∈ m
 sides : ∀ x ∈ m,∀ l,adjT A x = some l → ∀ y ∈ l,adjT A y ≠ none → y ∈ left ∨ y ∈ m
 few : left.length + costF A m ≤ ids.length + costF A []
theorem Wide.begin (A : List Cl) (ids : List Int) : Wide A ids ids []:=⟨by simp,fun x hx h=>⟨x,hx,.refl x h⟩,fun x hx _=>.inl hx,by simp,Nat.le_refl _⟩
theorem Rch.snoc {adj : Int → Option (List Int)} {a b c : Int} {l : List Int} (h : Rch adj a b) (hl : adj b = some l) (hc : c ∈ l) (hn : adj c ≠ none) : Rch adj a c:=by
 induction h with
 | refl a _=>exact .step a c c l hl hc (.refl c hn)
 | step a b' c' l' h' hb' _ ih=>exact .step a b' c l' h' hb' (ih hl)
theorem Wide.skip {A : List Cl} {ids left m : List Int} {x : Int} (h : Wide A ids (x :: left) m) (hx : adjT A x = none ∨ x ∈ m) : Wide A ids left m:=by
 refine ⟨h.sound,fun y hy=>h.todo y (by simp [hy]),fun y hy hn=>?_,fun y hy l hl z hz hn=>?_,by have:=h.few; simp at this; omega⟩
 ·rcases h.start y hy hn with h1 | h1
  ·rcases List.mem_cons.1 h1 with rfl | h1
   ·rcases hx with hx | hx
    ·exact absurd hx hn
    ·exact .inr hx
   ·exact .inl h1
  ·exact .inr h1
 ·rcases h.sides y hy l hl z hz hn with h1 | h1
  ·rcases List.mem_cons.1 h1 with rfl | h1
   ·rcases hx with hx | hx
    ·exact absurd hx hn
    ·exact .inr hx
   ·exact .inl h1
  ·exact .inr h1
theorem Wide.mark {A : List Cl} {ids left m : List Int} {x : Int} {c : Cl} (h : Wide A ids (x :: left) m) (hf : findT A x = some c) (hx : m.contains x = false) : Wide A ids (left ++ c.sides.map Side.cell) (m ++ [x]):=by
 have ha : adjT A x = some (c.sides.map Side.cell):=by unfold adjT; rw [hf]; rfl
 have hr : ∃ id ∈ ids,Rch (adjT A) id x:=h.todo x (by simp) (by rw [ha]; simp)
 obtain ⟨hcm,hcid⟩:=findT_mem hf
 refine ⟨fun y hy=>?_,fun y hy hn=>?_,fun y hy hn=>?_,fun y hy l hl z hz hn=>?_,?_⟩
 ·rcases List.mem_append.1 hy with hy | hy
  ·exact h.sound y hy
  ·simp at hy; subst hy; exact hr
 ·rcases List.mem_append.1 hy with hy | hy
  ·exact h.todo y (by simp [hy]) hn
  ·obtain ⟨id,hid,hr⟩:=hr
   exact ⟨id,hid,hr.snoc ha hy hn⟩
 ·rcases h.start y hy hn with h1 | h1
  ·rcases List.mem_cons.1 h1 with rfl | h1
   ·exact .inr (by simp)
   ·exact .inl (by simp [h1])
  ·exact .inr (by simp [h1])
 ·rcases List.mem_append.1 hy with hy | hy
  ·rcases h.sides y hy l hl z hz hn with h1 | h1
   ·rcases List.mem_cons.1 h1 with rfl | h1
    ·exact .inr (by simp)
    ·exact .inl (by simp [h1])
   ·exact .inr (by simp [h1])
  ·simp at hy
   subst hy
   rw [ha] at hl
   injection hl with hl
   subst hl
   exact .inl (List.mem_append.2 (.inr hz))
 ·have h1:=h.few
  have h2:=costF_add hcm (by rw [hcid]; exact hx)
  rw [hcid] at h2
  simp at h1 ⊢
  omega
theorem Wide.done {A : List Cl} {ids m : List Int} (h : Wide A ids [] m) (x : Int) : m.contains x = (closF A ids).contains x:=by
 have key : ∀ a b,Rch (adjT A) a b → a ∈ m → b ∈ m:=by
  intro a b hr
  induction hr with
  | refl a _=>exact fun h=>h
  | step a b c l hl hb r ih=>exact fun h1=>ih ((h.sides a h1 l hl b hb r.node).resolve_left (by simp))
 have : x ∈ m ↔ x ∈ closF A ids:=by
  rw [mem_closF]
  exact ⟨h.sound x,fun ⟨id,hid,hr⟩=>key id x hr ((h.start id hid hr.node).resolve_left (by simp))⟩
 rw [Bool.eq_iff_iff]
 simpa using this
set_option maxRecDepth 100000
set_option maxHeartbeats 1000000
theorem Tryz.sty127 : STy Tryz.prog 127 4 1 1 (vb false):=⟨underlying127,⟨t4,by kernel_rfl,by kernel_rfl,by kernel_rfl,by kernel_rfl⟩,rfl,by decide⟩
def encBool : Enc Bool 1:=⟨fun n=>[vb n],fun _=>rfl,fun _ u hu=>by simp at hu; subst hu; rfl,by decide⟩
def flags (A : List Cl) (m : List Int) : List Bool:=A.map fun c=>m.contains c.id
theorem flags_nil (A : List Cl) : flags A [] = List.replicate A.length false:=by
 unfold flags
 induction A with
 | nil=>rfl
 | cons d t ih=>simp [List.replicate_succ] at ih ⊢; exact ih
theorem flags_get {A : List Cl} {m : List Int} {k : Nat} {c : Cl} (h : A[k]? = some c) : (flags A m)[k]? = some (m.contains c.id):=by simp [flags,h]
theorem flags_set {A : List Cl} {m : List Int} {k : Nat} {c : Cl} (hn : (A.map Cl.id).Nodup) (h : A[k]? = some c) : (flags A m).set k true = flags A (m ++ [c.id]):=by
 obtain ⟨hk,hc⟩:=List.getElem?_eq_some_iff.1 h
 apply List.ext_getElem?
 intro q
 rw [List.getElem?_set]
 unfold flags
 simp only [List.getElem?_map,List.length_map]
 split
 ·rename_i e
  subst e
  simp [hk,hc]
 ·rename_i hne
  cases hq : A[q]? with
  | none=>rfl
  | some d =>
   obtain ⟨hq1,hq2⟩:=List.getElem?_eq_some_iff.1 hq
   have hd : ¬ d.id = c.id:=fun e=>by
    have h1 : (A.map Cl.id)[q]? = some c.id:=by simp [hq,e]
    have h2 : (A.map Cl.id)[k]? = some c.id:=by simp [h]
    obtain ⟨i1,e1⟩:=List.getElem?_eq_some_iff.1 h1
    obtain ⟨i2,e2⟩:=List.getElem?_eq_some_iff.1 h2
    rcases Nat.lt_or_gt_of_ne hne with h3 | h3
    ·exact List.pairwise_iff_getElem.1 hn k q i2 i1 h3 (e2.trans e1.symm)
    ·exact List.pairwise_iff_getElem.1 hn q k i1 i2 h3 (e1.trans e2.symm)
   simp [hd]
theorem reached_spec (E : World) (g : PH) (s : Own) (v iv : Value) (A : List Cl) (ids : List Int) (hv : Cells g v A) (hi : Ints g iv ids) (hA : Fits A) (hs : (A.map Cl.id).Pairwise (· ≤ ·)) (hn : (A.map Cl.id).Nodup) (hb : ids.length + costF A [] < 1099511627776) :
  Ctr Tryz.prog E 112 #[v,iv] g s (fun r g' s'=>s = s' ∧ Le g g' ∧ SlA encBool g' r (flags A (closF A ids))):=by
 obtain ⟨rs,hrs,hall⟩:=hv
 have hv : Cells g v A:=⟨rs,hrs,hall⟩
 have hrl:=hall.length
 have hAl:=hA.1
 obtain ⟨vp,vc,rfl⟩:=hrs.form
 obtain ⟨ip,ic,rfl⟩:=SlA.form hi
 refine Ctr.of (args:=[.slice vp rs.length vc,.slice ip ids.length ic]) func112 I ntmps112 (bE I) ?_
 refine SC.sR (lA I (SL.nT (SC.sR (lM I (lU (eN uT29 I) (lW (mK encBool false sty127 I I I oM oM) ?_))))))
 rintro _ _ _ ⟨b5,rfl,rfl,rfl⟩
 refine lA I (SL.nT (SC.sR (lW (bS sty27 I I I (szs_mk trivial) dC) ?_)))
 rintro _ _ _ ⟨b12,rfl,rfl,rfl⟩
 refine SL.drop (.cons _ (.refl _)) (SL.emptyRow 3 1 (some ⟨b12,0,none⟩) (lM I (lW (aQ (e:=encInt) (l:=[]) (m:=ids) 0 sty27 I I I hi (by simp; omega) (by simp; omega)) ?_)))
 rintro v14 _ _ ⟨rfl,rfl⟩
 refine lA I (SL.nT (sQ (bK ?_)))
 refine SC.to (g':=g) (s':=que encInt 3 v14 ids :: rowA encBool 4 (.slice (some ⟨b5,0,none⟩) rs.length rs.length) (flags A []) :: s) (fun w hw=>by rw [flags_nil,hrl]; exact hw.toQue (i:=0) I) ?_
 refine oP (ι:=Value × List Int × List Int) (fun i=>[(0,.slice vp rs.length vc),(5,.slice (some ⟨b5,0,none⟩) rs.length rs.length),(6,i.1)]) (fun _=>g)
  (fun i=>que encInt 3 i.1 i.2.1 :: rowA encBool 4 (.slice (some ⟨b5,0,none⟩) rs.length rs.length) (flags A i.2.2) :: s) (fun i=>Wide A ids i.2.1 i.2.2) (fun i=>i.2.1.length + costF A i.2.2)
  (v14,ids,[]) sB rfl rfl (Wide.begin A ids) ?_
 rintro ⟨lv,left,m⟩ hW
 dsimp only at hW ⊢
 refine SC.facts fun ⟨w0,hw0⟩=>?_
 obtain ⟨p6,c6,rfl,hbq⟩:=que_form (i:=0) hw0 rfl
 clear hw0 w0
 refine sQ (SC.sR (lM I (lU (eN uT27 I) (lU (gR I I) (SL.nT ?_)))))
 refine iP I (fun hgt=>?_) (fun hgt=>?_)
 ·obtain ⟨x,rest,rfl⟩ : ∃ x rest,left = x :: rest:=by
   cases left with
   | nil=>simp at hgt
   | cons x r=>exact ⟨x,r,rfl⟩
  have hb0:=hbq (by simp)
  have hfew:=hW.few
  rcases at_find hs x with ⟨hf0,hat⟩ | ⟨c,k,hf0,hat,hck⟩
  ·refine kP (tN (bK (SC.sR (lM I (lM I (lU (iA uT27 zT3 I I hb0 dC (by simp only [slen,List.length_cons]; omega)) ?_))))))
   refine lK (eB (e:=encInt) (l:=x :: rest) (a:=x) iT3 I (Rd.que 0 I) I I) (lW (cL call103 I (at_spec E g _ _ A x hv oM hs)) ?_)
   rintro _ _ _ ⟨rfl,rfl,rfl⟩
   rw [hat]
   refine lA I (SL.nT (SC.sR (lM I (lU (SU.sliceL (l:=1) uT27 zT3 I I dC (by simp only [List.length_cons]; omega)) ?_))))
   refine lA I (SL.nT (sQ (sQ ?_)))
   refine SC.to (g':=g) (s':=que encInt 3 (sliced p6 1 (x :: rest).length c6 1) rest :: rowA encBool 4 (.slice (some ⟨b5,0,none⟩) rs.length rs.length) (flags A m) :: s) (fun w hw=>hw.front (i:=0) I) ?_
   refine rG (lM I (lU (SU.eq (v':=vb true) (lS I I) I) (lM I (lZ I I I (lZ I I I (lZ I I I (lZ I I I (lU (pT I I) (SL.nT (cT I (xI (tX (bX ?_)))))))))))))
   exact gA (_,rest,m) sB rfl rfl (hW.skip (.inl (by unfold adjT; rw [hf0]; rfl))) (by simp only [List.length_cons]; omega)
  ·have hkl : k < A.length:=(List.getElem?_eq_some_iff.1 hck).1
   have hkr : k < rs.length:=oM
   have hcid:=(findT_mem hf0).2
   have hcm:=(findT_mem hf0).1
   have hgm : (flags A m)[((k : Nat) : Int).toNat]? = some (m.contains x):=by rw [← hcid]; exact flags_get hck
   have hcr:=hall.get hck (gE hkr)
   have hgr : rs[((k : Nat) : Int).toNat]? = some rs[k]:=gE hkr
   have hbv:=hrs.based oM
   obtain ⟨yp,ycap,hrk,hys⟩:=cellR_form hcr
   rw [hrk] at hgr
   refine kP (tN (bK (SC.sR (lM I (lM I (lU (iA uT27 zT3 I I hb0 dC (by simp only [slen,List.length_cons]; omega)) ?_))))))
   refine lK (eB (e:=encInt) (l:=x :: rest) (a:=x) iT3 I (Rd.que 0 I) I I) (lW (cL call103 I (at_spec E g _ _ A x hv oM hs)) ?_)
   rintro _ _ _ ⟨rfl,rfl,rfl⟩
   rw [hat]
   refine lA I (SL.nT (SC.sR (lM I (lU (SU.sliceL (l:=1) uT27 zT3 I I dC (by simp only [List.length_cons]; omega)) ?_))))
   refine lA I (SL.nT (sQ (sQ ?_)))
   refine SC.to (g':=g) (s':=que encInt 3 (sliced p6 1 (x :: rest).length c6 1) rest :: rowA encBool 4 (.slice (some ⟨b5,0,none⟩) rs.length rs.length) (flags A m) :: s) (fun w hw=>hw.front (i:=0) I) ?_
   refine rG (lM I (lU (SU.eq (v':=vb false) (lS I I) (congrArg vb (decide_eq_false oM))) (lM I (lY I I I (mV I) (lY I I I (mV I) (lY I I I (iA underlying127 zT4 I I I oM sL) (SL.gq (gT I I I dC) (eB (e:=encBool) isAgg4 I (Rd.rowA 1 I) hgm I) dC (lU (pF I I) (SL.nT ?_)))))))))
   refine iQ I (fun hmk=>?_) (fun hmk=>?_)
   ·refine xI (tX (bX ?_))
    exact gA (_,rest,m) sB I I (hW.skip (.inr (by simpa using hmk))) (by simp only [List.length_cons]; omega)
   ·have hW2:=hW.mark hf0 hmk
    have hca:=costF_add hcm (by rw [hcid]; exact hmk)
    rw [hcid] at hca
    have hfl : (flags A m).length = A.length:=by simp [flags]
    have hset : (flags A m).set k true = flags A (m ++ [x]):=by rw [flags_set hn hck,hcid]
    simp only [List.length_cons] at hfew
    refine kP (tN (SC.sR (lM I (lM I (lU (iA underlying127 zT4 I I I oM sL) (SL.O2 (sT (e:=encBool) (a:=true) 1 zT4 I I I (by rw [hfl]; omega) I) ?_))))))
    refine SL.nT (SC.sR (lA I (SL.nT (bK ?_))))
    refine SC.to (g':=g) (s':=que encInt 3 (sliced p6 1 (x :: rest).length c6 1) rest :: rowA encBool 4 (.slice (some ⟨b5,0,none⟩) rs.length rs.length) (flags A (m ++ [x])) :: s) (fun w hw=>by rw [← hset]; exact hw) ?_
    refine oP (ι:=Value × Nat) (fun i=>[(0,.slice vp rs.length vc),(5,.slice (some ⟨b5,0,none⟩) rs.length rs.length),(6,i.1),(7,vi k),(8,vi i.2)]) (fun _=>g)
     (fun i=>que encInt 3 i.1 (rest ++ (c.sides.take i.2).map Side.cell) :: rowA encBool 4 (.slice (some ⟨b5,0,none⟩) rs.length rs.length) (flags A (m ++ [x])) :: s) (fun i=>i.2 ≤ c.sides.length) (fun i=>c.sides.length - i.2)
     (sliced p6 1 (x :: rest).length c6 1,0) sB rfl (by simp only [List.take_zero,List.map_nil,List.append_nil]) (Nat.zero_le _) ?_
    rintro ⟨lv2,j⟩ hj
    dsimp only at hj ⊢
    refine sQ (SC.sR (lM I (lM I (lM I (lU (iA uT29 zT40 I I hbv oM sL) (lU (fC uT40 I zT38 I hbv) (lK (pA (e:=encCell) (o:=2) (u:=.slice yp c.sides.length ycap) iT38 I hrs.rd hgr I) (lU (eN uT38 I) (lU (lS I I) (SL.nT ?_))))))))))
    refine iP I (fun hlt=>?_) (fun hlt=>?_)
    ·have hjl : j < c.sides.length:=oM
     have hb2:=hys.based oM
     have hjx : c.sides[((j : Nat) : Int).toNat]? = some c.sides[j]:=gE hjl
     have htj : c.sides.take (j + 1) = c.sides.take j ++ [c.sides[j]]:=tS hjl
     have hql : (rest ++ (c.sides.take j).map Side.cell).length = rest.length + j:=by simp; omega
     generalize c.sides[j] = z at *
     refine kP (tN (sQ (bK (rG (lM I (lM I (lM I (lU (iA uT29 zT40 I I hbv oM sL) (lU (fC uT40 I zT38 I hbv) (lK (pA (e:=encCell) (o:=2) (u:=.slice yp c.sides.length ycap) iT38 I hrs.rd hgr I) (lM I (lU (iA uT38 zT42 I I hb2 oM sL) (lU (fC uT42 I zT3 I hb2) (lK (pA (e:=encSide) (o:=0) (u:=vi z.cell) iT3 I hys.rd hjx I) (lW (bS sty27 I I I (szs_mk sB) dC) ?_)))))))))))))))
     rintro _ _ _ ⟨b56,rfl,rfl,rfl⟩
     refine lW (SO.queA (e:=encInt) 0 z.cell sty27 I I I I I (by rw [hql]; omega) (by rw [hql]; omega)) ?_
     rintro v57 _ _ ⟨rfl,rfl⟩
     refine lA I (nL (bN (tN (rG (lM I (lU (aD I I oM) (lA I (nL ?_))))))))
     exact gA (v57,j + 1) sB rfl (by dsimp only; rw [htj,List.map_append,← List.append_assoc]; rfl) lN lN
    ·have hjj : c.sides.take j = c.sides:=tL oM
     rw [hjj]
     refine xI (tX (tX (bX (bN ?_))))
     exact gA (lv2,rest ++ c.sides.map Side.cell,m ++ [x]) sB I I hW2 (by simp only [List.length_append,List.length_map,List.length_cons]; omega)
 ·have hl0 : left = []:=List.eq_nil_of_length_eq_zero oM
  subst hl0
  refine xI (tX (tX (bX (tN (SC.sR (lM I (lA I (SL.nT (rE (dR (s':=rowA encBool 4 (.slice (some ⟨b5,0,none⟩) rs.length rs.length) (flags A m) :: s) (.cons _ (.refl _)) (fT fun g2 hle2 hrow=>?_)))))))))))
  have hfe : flags A m = flags A (closF A ids):=List.map_congr_left fun c _=>hW.done c.id
  exact ST.ret1 (.inl I) results112 I ⟨I,hle2,by rw [← hfe]; exact hrow⟩
def sumsL (L : List (Int × List Side)) : List (Int × Int):=L.foldl (fun zl p=>p.2.foldl (fun zl r=>addZ zl r.cell (p.1 * r.sign)) zl) []
def metL (L : List (Int × List Side)) : List (Int × List Int):=L.zipIdx.foldl (fun ml p=>p.1.2.foldl (stepL p.2) ml) []
def aroundL (L : List (Int × List Side)) : Int :=
 if (sumsL L).any (fun p=>decide (p.2 ≠ 0)) then 24
 else if (metL L).any (fun p=>decide ((p.2.length : Int) ≠ 2)) then 25
 else if ((seenC (joinC (metL L))).length : Int) ≠ L.length then 25 else 0
def lookL (tl : List Cl) (c : Cl) : List (Int × List Side):=c.sides.map fun x=>(x.sign,sidesOf tl x)
theorem aroundC_L (tl : List Cl) (c : Cl) : aroundC tl c = aroundL (lookL tl c):=by
 have h1 : sumsC tl c.sides = sumsL (lookL tl c):=by
  unfold sumsC sumsL lookL
  rw [List.foldl_map]
  rfl
 have h2 : metC tl c.sides = metL (lookL tl c):=by
  unfold metC metL lookL
  rw [List.zipIdx_map,List.foldl_map]
  rfl
 have h3 : (lookL tl c).length = c.sides.length:=by simp [lookL]
 unfold aroundC aroundL
 rw [h1,h2,h3]
def renS (φ : Int → Int) (r : Side) : Side:=⟨φ r.cell,r.sign⟩
def renL (φ : Int → Int) (L : List (Int × List Side)) : List (Int × List Side):=L.map fun p=>(p.1,p.2.map (renS φ))
def keyL (L : List (Int × List Side)) : List Int:=L.flatMap fun p=>p.2.map Side.cell
def ren1 {α : Type} (φ : Int → Int) (zl : List (Int × α)) : List (Int × α):=zl.map fun p=>(φ p.1,p.2)
section
variable {φ : Int → Int} {K : Int → Prop} (hφ : ∀ a b,K a → K b → φ a = φ b → a = b)
include hφ
theorem addZ_ren {zl : List (Int × Int)} {k : Int} (x : Int) (hz : ∀ p ∈ zl,K p.1) (hk : K k) : addZ (ren1 φ zl) (φ k) x = ren1 φ (addZ zl k x):=by
 induction zl with
 | nil=>rfl
 | cons p r ih =>
  obtain ⟨a,z⟩:=p
  have ha:=hz (a,z) (by simp)
  simp only [ren1,List.map_cons,addZ] at ih ⊢
  by_cases h : k = a
  ·subst h; simp
  ·rw [if_neg h,if_neg fun e=>h (hφ k a hk ha e)]
   simp only [List.map_cons]
   rw [ih fun p hp=>hz p (by simp [hp])]
theorem addL_ren {zl : List (Int × List Int)} {k : Int} (x : Int) (hz : ∀ p ∈ zl,K p.1) (hk : K k) : addL (ren1 φ zl) (φ k) x = ren1 φ (addL zl k x):=by
 induction zl with
 | nil=>rfl
 | cons p r ih =>
  obtain ⟨a,z⟩:=p
  have ha:=hz (a,z) (by simp)
  simp only [ren1,List.map_cons,addL] at ih ⊢
  by_cases h : k = a
  ·subst h; simp
  ·rw [if_neg h,if_neg fun e=>h (hφ k a hk ha e)]
   simp only [List.map_cons]
   rw [ih fun p hp=>hz p (by simp [hp])]
omit hφ in
theorem addZ_key {zl : List (Int × Int)} {k x : Int} (hz : ∀ p ∈ zl,K p.1) (hk : K k) : ∀ p ∈ addZ zl k x,K p.1:=by
 induction zl with
 | nil=>intro p hp; simp [addZ] at hp; subst hp; exact hk
 | cons q r ih =>
  obtain ⟨a,z⟩:=q
  have ha:=hz (a,z) (by simp)
  intro p hp
  simp only [addZ] at hp
  split at hp
  ·rcases List.mem_cons.1 hp with rfl | hp
   ·exact ha
   ·exact hz p (by simp [hp])
  ·rcases List.mem_cons.1 hp with rfl | hp
   ·exact ha
   ·exact ih (fun p hp=>hz p (by simp [hp])) p hp
omit hφ in
theorem addL_key {zl : List (Int × List Int)} {k x : Int} (hz : ∀ p ∈ zl,K p.1) (hk : K k) : ∀ p ∈ addL zl k x,K p.1:=by
 induction zl with
 | nil=>intro p hp; simp [addL] at hp; subst hp; exact hk
 | cons q r ih =>
  obtain ⟨a,z⟩:=q
  have ha:=hz (a,z) (by simp)
  intro p hp
  simp only [addL] at hp
  split at hp
  ·rcases List.mem_cons.1 hp with rfl | hp
   ·exact ha
   ·exact hz p (by simp [hp])
  ·rcases List.mem_cons.1 hp with rfl | hp
   ·exact ha
   ·exact ih (fun p hp=>hz p (by simp [hp])) p hp
theorem sums1_ren (t : Int) : ∀ (l : List Side) (zl : List (Int × Int)),(∀ r ∈ l,K r.cell) → (∀ p ∈ zl,K p.1) →
  (l.map (renS φ)).foldl (fun zl r=>addZ zl r.cell (t * r.sign)) (ren1 φ zl) = ren1 φ (l.foldl (fun zl r=>addZ zl r.cell (t * r.sign)) zl) ∧ ∀ p ∈ l.foldl (fun zl r=>addZ zl r.cell (t * r.sign)) zl,K p.1
 | [],zl,_,hz=>⟨rfl,hz⟩
 | r :: l,zl,hl,hz=>by
  have hr:=hl r (by simp)
  have:=sums1_ren t l (addZ zl r.cell (t * r.sign)) (fun q hq=>hl q (by simp [hq])) (addZ_key hz hr)
  simp only [List.map_cons,List.foldl_cons]
  rw [show (renS φ r).cell = φ r.cell from rfl,show (renS φ r).sign = r.sign from rfl,addZ_ren hφ _ hz hr]
  exact this
theorem met1_ren (t : Int) : ∀ (l : List Side) (zl : List (Int × List Int)),(∀ r ∈ l,K r.cell) → (∀ p ∈ zl,K p.1) →
  (l.map (renS φ)).foldl (stepL t) (ren1 φ zl) = ren1 φ (l.foldl (stepL t) zl) ∧ ∀ p ∈ l.foldl (stepL t) zl,K p.1
 | [],zl,_,hz=>⟨rfl,hz⟩
 | r :: l,zl,hl,hz=>by
  have hr:=hl r (by simp)
  have:=met1_ren t l (addL zl r.cell t) (fun q hq=>hl q (by simp [hq])) (addL_key hz hr)
  simp only [List.map_cons,List.foldl_cons]
  rw [show stepL t (ren1 φ zl) (renS φ r) = ren1 φ (addL zl r.cell t) from addL_ren hφ _ hz hr]
  exact this
theorem sums_ren : ∀ (L : List (Int × List Side)) (zl : List (Int × Int)),(∀ k ∈ keyL L,K k) → (∀ p ∈ zl,K p.1) →
  (renL φ L).foldl (fun zl p=>p.2.foldl (fun zl r=>addZ zl r.cell (p.1 * r.sign)) zl) (ren1 φ zl) = ren1 φ (L.foldl (fun zl p=>p.2.foldl (fun zl r=>addZ zl r.cell (p.1 * r.sign)) zl) zl)
 | [],_,_,_=>rfl
 | p :: L,zl,hl,hz=>by
  obtain ⟨h1,h2⟩:=sums1_ren hφ p.1 p.2 zl (fun r hr=>hl _ (List.mem_flatMap.2 ⟨p,by simp,List.mem_map.2 ⟨r,hr,rfl⟩⟩)) hz
  simp only [renL,List.map_cons,List.foldl_cons] at h1 ⊢
  rw [h1]
  exact sums_ren L _ (fun k hk=>hl k (by simp only [keyL,List.flatMap_cons,List.mem_append]; exact .inr hk)) h2
theorem met_ren : ∀ (L : List (Int × List Side)) (i : Nat) (zl : List (Int × List Int)),(∀ k ∈ keyL L,K k) → (∀ p ∈ zl,K p.1) →
  ((renL φ L).zipIdx i).foldl (fun ml p=>p.1.2.foldl (stepL p.2) ml) (ren1 φ zl) = ren1 φ ((L.zipIdx i).foldl (fun ml p=>p.1.2.foldl (stepL p.2) ml) zl)
 | [],_,_,_,_=>rfl
 | p :: L,i,zl,hl,hz=>by
  obtain ⟨h1,h2⟩:=met1_ren hφ i p.2 zl (fun r hr=>hl _ (List.mem_flatMap.2 ⟨p,by simp,List.mem_map.2 ⟨r,hr,rfl⟩⟩)) hz
  simp only [renL,List.map_cons,List.zipIdx_cons,List.foldl_cons] at h1 ⊢
  rw [h1]
  exact met_ren L (i + 1) _ (fun k hk=>hl k (by simp only [keyL,List.flatMap_cons,List.mem_append]; exact .inr hk)) h2
end
theorem any_ren {α : Type} (φ : Int → Int) (zl : List (Int × α)) (q : α → Bool) : (ren1 φ zl).any (fun p=>q p.2) = zl.any (fun p=>q p.2):=by
 simp only [ren1,List.any_map]
 rfl
theorem join_ren (φ : Int → Int) (ml : List (Int × List Int)) : joinC (ren1 φ ml) = joinC ml:=by
 simp only [joinC,ren1,List.foldl_map]
 rfl
theorem aroundL_ren {φ : Int → Int} {L : List (Int × List Side)} (hφ : ∀ a ∈ keyL L,∀ b ∈ keyL L,φ a = φ b → a = b) : aroundL (renL φ L) = aroundL L:=by
 have h1 : sumsL (renL φ L) = ren1 φ (sumsL L):=sums_ren (K:=fun k=>k ∈ keyL L) (fun a b ha hb=>hφ a ha b hb) L [] (fun _ h=>h) (by simp)
 have h2 : metL (renL φ L) = ren1 φ (metL L):=met_ren (K:=fun k=>k ∈ keyL L) (fun a b ha hb=>hφ a ha b hb) L 0 [] (fun _ h=>h) (by simp)
 unfold aroundL
 rw [h1,h2,any_ren φ _ fun z=>decide (z ≠ 0),any_ren φ _ fun l : List Int=>decide ((l.length : Int) ≠ 2),join_ren]
 have h3 : (renL φ L).length = L.length:=by simp [renL]
 rw [h3]
def code (k q : Nat) : Int:=if q < k then ((q * 16 + k : Nat) : Int) else ((k * 16 + (q + 1) : Nat) : Int)
def patS (n : Nat) : List (Int × List Side):=(List.range n).reverse.map fun k : Nat=>(signC k,(List.range (n - 1)).reverse.map fun q : Nat=>⟨code k q,signC q⟩)
theorem patS_ok : ∀ n,n < 10 → 2 < n → aroundL (patS n) = 0:=by decide +kernel
theorem pickB_cons (b : Nat) (a : Int) (l : List Int) : pickB b (a :: l) = (if b % 2 = 1 then [a] else []) ++ pickB (b / 2) l:=by
 unfold pickB
 have hz : ∀ (l : List Int) (i : Nat),((l.zipIdx (i + 1)).filter fun p=>b / 2 ^ p.2 % 2 == 1).map (·.1) = ((l.zipIdx i).filter fun p=>b / 2 / 2 ^ p.2 % 2 == 1).map (·.1):=by
  intro l
  induction l with
  | nil=>intro i; rfl
  | cons x r ih =>
   intro i
   have hp : b / 2 ^ (i + 1) = b / 2 / 2 ^ i:=by rw [Nat.pow_succ,Nat.mul_comm,Nat.div_div_eq_div_mul]
   simp only [List.zipIdx_cons,List.filter_cons,hp]
   have:=ih (i + 1)
   split
   ·simp only [List.map_cons,this]
   ·exact this
 simp only [List.zipIdx_cons,List.filter_cons,Nat.pow_zero,Nat.div_one]
 by_cases h : b % 2 = 1
 ·simp only [h,if_true,beq_self_eq_true,List.map_cons]
  rw [hz l 0]
  rfl
 ·have h2 : (b % 2 == 1) = false:=by simpa using h
  simp only [h,h2,if_false,Bool.false_eq_true]
  rw [hz l 0]
  rfl
theorem pickB_sub (l : List Int) : ∀ b,(pickB b l).Sublist l:=by
 induction l with
 | nil=>intro b; exact .slnil
 | cons a r ih =>
  intro b
  rw [pickB_cons]
  split
  ·exact (ih _).cons_cons a
  ·exact (ih _).cons a
theorem pickB_ne (l : List Int) : ∀ b,b ≠ 0 → b < 2 ^ l.length → pickB b l ≠ []:=by
 induction l with
 | nil=>intro b h0 h; simp at h; exact absurd h h0
 | cons a r ih =>
  intro b h0 h
  rw [pickB_cons]
  split
  ·simp
  ·rename_i h1
   rw [List.length_cons,Nat.pow_succ] at h
   simpa using ih (b / 2) oM oM
theorem pick_of_sub {x l : List Int} (h : x.Sublist l) : ∃ b,b < 2 ^ l.length ∧ pickB b l = x:=by
 induction h with
 | slnil=>exact ⟨0,by simp,rfl⟩
 | cons a _ ih =>
  obtain ⟨b,hb,e⟩:=ih
  refine ⟨2 * b,by rw [List.length_cons,Nat.pow_succ]; omega,?_⟩
  rw [pickB_cons,if_neg oM,show 2 * b / 2 = b by omega,e]
  rfl
 | cons_cons a _ ih =>
  obtain ⟨b,hb,e⟩:=ih
  refine ⟨2 * b + 1,by rw [List.length_cons,Nat.pow_succ]; omega,?_⟩
  rw [pickB_cons,if_pos oM,show (2 * b + 1) / 2 = b by omega,e]
  rfl
theorem subsetsC_iff (t x : List Int) : x ∈ subsetsC t ↔ x.Sublist t ∧ x ≠ []:=by
 unfold subsetsC
 constructor
 ·intro h
  obtain ⟨i,hi,rfl⟩:=List.mem_map.1 h
  have:=List.mem_range.1 hi
  exact ⟨pickB_sub _ _,pickB_ne _ _ oM oM⟩
 ·rintro ⟨h,hne⟩
  obtain ⟨b,hb,rfl⟩:=pick_of_sub h
  have h0 : b ≠ 0:=fun e=>by
   subst e
   apply hne
   have : ∀ l : List Int,pickB 0 l = []:=by
    intro l
    induction l with
    | nil=>rfl
    | cons a r ih=>rw [pickB_cons]; simpa using ih
   exact this t
  exact List.mem_map.2 ⟨b - 1,List.mem_range.2 oM,by rw [show b - 1 + 1 = b by omega]⟩
structure Good (all : List (List Int)) : Prop where
 strict : StrictL all
 form : ∀ s ∈ all,s ≠ [] ∧ StrictI s ∧ s.length ≤ 9
 faces : ∀ s ∈ all,2 ≤ s.length → ∀ k,k < s.length → s.eraseIdx k ∈ all
theorem Good.nil : Good []:=⟨List.Pairwise.nil,by simp,by simp⟩
theorem Good.add {all : List (List Int)} {t : List Int} (h : Good all) (ht : StrictI t) (hl : t.length ≤ 9) : Good (addSets all t):=by
 refine ⟨addSets_strict all t,fun s hs=>?_,fun s hs h2 k hk=>?_⟩
 ·rcases (addSets_iff all t s).1 hs with h1 | h1
  ·exact h.form s h1
  ·obtain ⟨h2,h3⟩:=(subsetsC_iff t s).1 h1
   exact ⟨h3,ht.sublist h2,Nat.le_trans h2.length_le hl⟩
 ·refine (addSets_iff all t _).2 ?_
  rcases (addSets_iff all t s).1 hs with h1 | h1
  ·exact .inl (h.faces s h1 h2 k hk)
  ·refine .inr ((subsetsC_iff t _).2 ⟨(List.eraseIdx_sublist s k).trans ((subsetsC_iff t s).1 h1).1,fun e=>?_⟩)
   have:=congrArg List.length e
   rw [List.length_eraseIdx] at this
   simp [hk] at this
   omega
theorem simpAll_good : ∀ (ls acc : List (List Int)) {all : List (List Int)},simpAll acc ls = some all → Good acc → acc.length ≤ 4000 → Good all ∧ all.length ≤ 4000
 | [],acc,all,h,hg,hl=>by cases h; exact ⟨hg,hl⟩
 | s :: r,acc,all,h,hg,hl=>by
  unfold simpAll at h
  split at h
  ·exact simpAll_good r acc h hg hl
  ·rename_i hb
   split at h
   ·cases h
   ·rename_i hlen
    refine simpAll_good r _ h (hg.add (setC_strict s) ?_) oM
    cases hc : setC s with
    | nil=>simp
    | cons a q =>
     rw [hc] at hb
     simp [badSet] at hb
     simp
     omega
section
variable {all : List (List Int)} (hg : Good all)
include hg
theorem Good.get_lb {t : List Int} (ht : t ∈ all) : all[lbL all t]? = some t:=by
 obtain ⟨h1,h2⟩:=lbL_split t hg.strict.srt
 have hs : StrictL (all.take (lbL all t) ++ all.drop (lbL all t)):=by rw [List.take_append_drop]; exact hg.strict
 have hd:=(List.pairwise_append.1 hs).2.1
 have hm : t ∈ all.drop (lbL all t):=by
  have : t ∈ all.take (lbL all t) ++ all.drop (lbL all t):=by rw [List.take_append_drop]; exact ht
  rcases List.mem_append.1 this with h | h
  ·have:=h1 t h
   rw [compareC_self] at this
   exact absurd this dC
  ·exact h
 have e : all[lbL all t]? = (all.drop (lbL all t))[0]?:=by simp
 rw [e]
 cases hc : all.drop (lbL all t) with
 | nil=>rw [hc] at hm; simp at hm
 | cons y r =>
  rw [hc] at hm hd h2
  rcases List.mem_cons.1 hm with rfl | hm
  ·rfl
  ·exact absurd ((List.pairwise_cons.1 hd).1 t hm) (h2 y (by simp))
theorem Good.lb_get {k : Nat} (hk : k < all.length) : lbL all all[k] = k:=by
 have h1:=hg.get_lb (gM hk)
 obtain ⟨h2,h3⟩:=List.getElem?_eq_some_iff.1 h1
 have hself : ¬ compareC all[k] all[k] < 0:=by rw [compareC_self]; decide
 rcases Nat.lt_trichotomy (lbL all all[k]) k with h | h | h
 ·have:=List.pairwise_iff_getElem.1 hg.strict _ _ h2 hk h
  rw [h3] at this
  exact absurd this hself
 ·exact h
 ·have:=List.pairwise_iff_getElem.1 hg.strict _ _ hk h2 h
  rw [h3] at this
  exact absurd this hself
end
def ixC (all : List (List Int)) (t : List Int) : Int:=((lbL all t : Nat) : Int) + 1
theorem Good.inj {all : List (List Int)} (hg : Good all) {t u : List Int} (ht : t ∈ all) (hu : u ∈ all) (h : ixC all t = ixC all u) : t = u:=by
 have h1:=hg.get_lb ht
 have h2:=hg.get_lb hu
 have : lbL all t = lbL all u:=by unfold ixC at h; omega
 rw [this,h2] at h1
 injection h1 with h1
 exact h1.symm
theorem Good.lt {all : List (List Int)} (hg : Good all) {t u : List Int} (ht : t ∈ all) (hu : u ∈ all) (h : compareC t u < 0) : ixC all t < ixC all u:=by
 obtain ⟨i1,e1⟩:=List.getElem?_eq_some_iff.1 (hg.get_lb ht)
 obtain ⟨i2,e2⟩:=List.getElem?_eq_some_iff.1 (hg.get_lb hu)
 unfold ixC
 rcases Nat.lt_trichotomy (lbL all t) (lbL all u) with h1 | h1 | h1
 ·omega
 ·have : t = u:=hg.inj ht hu (by unfold ixC; omega)
  subst this
  rw [compareC_self] at h
  exact absurd h dC
 ·have:=List.pairwise_iff_getElem.1 hg.strict _ _ i2 i1 h1
  rw [e1,e2] at this
  exact absurd h (compareC_asymm this)
def facesC (all : List (List Int)) (s : List Int) : List Side:=if s.length ≤ 1 then [] else (List.range s.length).reverse.map fun k : Nat=>⟨ixC all (s.eraseIdx k),signC k⟩
def celC (all : List (List Int)) (s : List Int) : Cl:=⟨ixC all s,(s.length : Int) - 1,facesC all s⟩
theorem erase_lt {s : List Int} (hs : StrictI s) : ∀ {i j : Nat},i < j → j < s.length → compareC (s.eraseIdx j) (s.eraseIdx i) < 0:=by
 induction s with
 | nil=>intro i j _ h; simp at h
 | cons a r ih =>
  intro i j hij hj
  obtain ⟨h1,h2⟩:=List.pairwise_cons.1 hs
  cases j with
  | zero=>omega
  | succ j =>
   simp only [List.length_cons] at hj
   cases i with
   | zero =>
    cases r with
    | nil=>simp at hj
    | cons b q =>
     have hab:=h1 b (by simp)
     have hl : ((a :: b :: q).eraseIdx (j + 1)).length = ((a :: b :: q).eraseIdx 0).length:=by
      simp [List.length_eraseIdx] at hj ⊢
      omega
     rw [compareC_same hl]
     simp only [List.eraseIdx_cons_succ,List.eraseIdx_cons_zero,cmpL]
     have : cmpI a b = -1:=by unfold cmpI; rw [if_pos hab]
     simp [this]
   | succ i =>
    have h3:=ih h2 (i:=i) (j:=j) oM oM
    have hl : (r.eraseIdx j).length = (r.eraseIdx i).length:=by
     rw [List.length_eraseIdx,List.length_eraseIdx,if_pos oM,if_pos oM]
    have hl2 : ((a :: r).eraseIdx (j + 1)).length = ((a :: r).eraseIdx (i + 1)).length:=by simp [hl]
    rw [compareC_same hl] at h3
    rw [compareC_same hl2]
    simp only [List.eraseIdx_cons_succ,cmpL]
    have : cmpI a a = 0:=by unfold cmpI; rw [if_neg oM,if_neg oM]
    simpa [this] using h3
end Go.Proofs.YtkdibcicncjpdaaGreatDoor
