/- RefA SyW Wid1 Wid2 Wid3 Wid4 Mtx1 Mtx2 Mtx3 Mtx4 -/
import Derived.Test.YtkdibcicncjpdaaGreatDoorSp07
import Derived.Test.YtkdibcicncjpdaaGreatDoorSp05
import Derived.Test.YtkdibcicncjpdaaGreatDoorSp11
import Derived.Laws.BytesString
import Derived.Laws.Strings
import Derived.Test.YtkdibcicncjpdaaGreatDoorSp02
import Derived.Shelf.Strings.Trim
import Derived.Test.YtkdibcicncjpdaaGreatDoorSp06
import Derived.Test.YtkdibcicncjpdaaGreatDoorSp09
set_option linter.unusedSimpArgs false
set_option linter.unusedVariables false
namespace Go.Proofs.YtkdibcicncjpdaaGreatDoor
open _root_.Go.Proofs.Tryz _root_.Go.Proofs.YtkdibcicncjpdaaGreatDoor.Tryz
open Go Go.Sy Go.Pl Go.Proofs
set_option maxRecDepth 100000
set_option maxHeartbeats 1000000
theorem filt_succ {α β : Type} {l : List α} {k : Nat} (h : k < l.length) (p : α → Bool) (f : α → β) : ((l.take (k + 1)).filter p).map f = ((l.take k).filter p).map f ++ (if p l[k] then [f l[k]] else []):=by
 rw [tS h,List.filter_append,List.map_append]
 congr 1
 simp only [List.filter_cons,List.filter_nil]
 split <;> rfl
theorem filt_le {α β : Type} (l : List α) (k : Nat) (p : α → Bool) (f : α → β) : (((l.take k).filter p).map f).length ≤ k:=by
 rw [List.length_map]
 refine Nat.le_trans (List.length_filter_le _ _) ?_
 rw [List.length_take]; omega
theorem Tryz.buildE40 (w : World) : (Instr.build 40 #[]).run Tryz.prog w = .ok (.agg #[vi 0,vi 0,.slice none 0 0]) w:=by
 simp [Instr.build,Instr.fill]
 rfl
def idsC (l : List Cl) (d : Int) : List Int:=((tabC l).filter fun c=>decide (c.dim = d)).map Cl.id
def maxD : List Cl → Int → Int
 | [],m=>m
 | c :: r,m=>maxD r (max m c.dim)
def dimC (l : List Cl) : Int:=maxD (tabC l) (-1)
theorem maxD_append (c : Cl) : ∀ (l : List Cl) (m : Int),maxD (l ++ [c]) m = max (maxD l m) c.dim
 | [],_=>rfl
 | _ :: r,_=>maxD_append c r _
theorem SU.maxI {P : Program} {N : Nat} {f : Fr} {dst : Option Tmp} {ty : TypeId} {pos : String} {af : Array Edge} {gd : Option (Nat × Bool)} {x y : Operand} {T U : TypeId} {m n : Int} (hx : ev f x = some (vi m)) (hy : ev f y = some (vi n)) :
  SU P N ⟨dst,.call ⟨.builtin .max,#[x,y],#[T,U]⟩,ty,pos,af,gd⟩ f (vi (max m n)):=fun a w ha=>by
 have h:=run_max_int2 (P:=P) (w:=w) #[T,U] ty .i64 .i64 m n
 have h2 : (if m < n then n else m) = max m n:=by split <;> omega
 rw [h2] at h
 simp [execOp,resolve,invoke,builtin,ha.ev hx,ha.ev hy,h]
theorem refIds_spec (E : World) (g : PH) (s : Own) (v : Value) (l : List Cl) (d : Int) (hv : Cells g v l) (hf : Fits l) :
  Ctr Tryz.prog E 49 #[.agg #[v],vi d] g s (fun r g' s'=>s = s' ∧ Le g g' ∧ Ints g' r (idsC l d)):=by
 have hft:=tabC_fits hf
 have hfl:=hft.1
 obtain ⟨p,c,rfl⟩:=hv.form
 refine Ctr.of (args:=[.agg #[.slice p l.length c],vi d]) func49 I ntmps49 (bE I) ?_
 refine SC.sR (SL.bx (bO I) fun b2=>?_)
 refine lA I (SL.nT (SC.sR (lA I (SL.nT (SC.sR (lK (qV 0 iT31 zT31 I I I) (lW (cL call102 I (refCells_spec E g _ _ l hv hf)) ?_)))))))
 rintro v9 g1 _ ⟨rfl,hle,hc⟩
 obtain ⟨rs,hrs,hall⟩:=hc
 obtain ⟨q,dd,rfl⟩:=hrs.form
 refine lA I (SL.nT (sQ (SC.sR (lA I (SL.nT (bK ?_))))))
 have hrl:=hall.length
 unfold idsC
 generalize tabC l = A at *
 refine SC.nilRow 3 1 ?_
 refine oP (ι:=Value × Nat) (fun i=>[(1,vi d),(5,i.1),(6,.slice q rs.length dd),(7,vi i.2)]) (fun _=>g1) (fun i=>rowA encInt 3 i.1 (((A.take i.2).filter fun c=>decide (c.dim = d)).map Cl.id) :: pt b2 (.cells #[.slice p l.length c] 31 (0,0)) :: s)
  (fun i=>i.2 ≤ A.length) (fun i=>A.length - i.2) (.slice none 0 0,0) sB rfl rfl (Nat.zero_le _) ?_
 rintro ⟨ov,k⟩ hk
 dsimp only at hk ⊢
 refine sQ (SC.sR (lM I (lM I (lU (eN uT29 I) (lU (lS I I) (SL.nT ?_))))))
 refine iP I (fun hlt=>?_) (fun hlt=>?_)
 ·have hkl : k < A.length:=oM
  have hkr : k < rs.length:=oM
  have hb1:=hrs.based oM
  have hcr:=hall.get (gE hkl) (gE hkr)
  have hgr : rs[((k : Nat) : Int).toNat]? = some rs[k]:=gE hkr
  have hsucc:=filt_succ hkl (fun c=>decide (c.dim = d)) Cl.id
  have hlek:=filt_le A k (fun c=>decide (c.dim = d)) Cl.id
  have hxl:=hft.2 _ (gM hkl)
  generalize A[k] = x at *
  generalize rs[k] = r at *
  refine kP (tN (sQ (bK (SC.sR (lM rfl (lM rfl (lU (iA uT29 zT40 rfl rfl hb1 oM sL) (lU (fC uT40 rfl zT3 rfl hb1) (lK (pA (e:=encCell) (o:=1) (u:=vi x.dim) iT3 rfl hrs.rd hgr (by rw [← hcr.2.1]; rfl)) ?_)))))))))
  refine lM I (lU (eQ I I) (SL.nT ?_))
  refine iP I (fun hd=>?_) (fun hd=>?_)
  ·refine rG (lM rfl (lM rfl (lM rfl (lU (iA uT29 zT40 rfl rfl hb1 oM sL) (lU (fC uT40 rfl zT3 rfl hb1) (lK (pA (e:=encCell) (o:=0) (u:=vi x.id) iT3 rfl hrs.rd hgr (by rw [← hcr.1]; rfl)) ?_))))))
   refine lW (bS sty27 I I I (szs_mk sB) dC) ?_
   rintro _ _ _ ⟨b29,rfl,rfl,rfl⟩
   refine lW (aP (e:=encInt) 0 x.id sty27 I I I I I oM oM) ?_
   rintro ov' _ _ ⟨rfl,rfl⟩
   refine lA I (nL (bN (tN (rG (lM I (lU (aD I I oM) (lA I (nL ?_))))))))
   refine ST.to (fun w hw=>?_) (g':=g1) (s':=rowA encInt 3 ov' (((A.take (k + 1)).filter fun c=>decide (c.dim = d)).map Cl.id) :: pt b2 (.cells #[.slice p l.length c] 31 (0,0)) :: s) ?_
   ·rw [hsucc,if_pos (decide_eq_true hd)]; exact hw
   exact gA (ov',k + 1) sB I I (by dsimp only; omega) lN
  ·refine kP (bN (tN (rG (lM I (lU (aD I I oM) (lA I (nL ?_)))))))
   refine ST.to (fun w hw=>?_) (g':=g1) (s':=rowA encInt 3 ov (((A.take (k + 1)).filter fun c=>decide (c.dim = d)).map Cl.id) :: pt b2 (.cells #[.slice p l.length c] 31 (0,0)) :: s) ?_
   ·rw [hsucc,if_neg (by rw [decide_eq_false hd]; simp),List.append_nil]; exact hw
   exact gA (ov,k + 1) sB I I (by dsimp only; omega) lN
 ·have hkk : A.take k = A:=tL oM
  rw [hkk]
  refine xI (tX (tX (bX (tN (SC.sR (lM I (lA I (SL.nT (rE (fT fun g2 hle2 hs2=>?_))))))))))
  refine dR (s':=s) (.cons _ (.refl _)) ?_
  exact ST.ret1 (.inl I) results49 I ⟨I,hle.trans hle2,hs2⟩
theorem refDim_spec (E : World) (g : PH) (s : Own) (v : Value) (l : List Cl) (hv : Cells g v l) (hf : Fits l) :
  Ctr Tryz.prog E 46 #[.agg #[v]] g s (fun r g' s'=>r = vi (dimC l) ∧ s = s' ∧ Le g g'):=by
 have hft:=tabC_fits hf
 have hfl:=hft.1
 obtain ⟨p,c,rfl⟩:=hv.form
 refine Ctr.of (args:=[.agg #[.slice p l.length c]]) func46 I ntmps46 (bE I) ?_
 refine SC.sR (SL.bx (bO I) fun b1=>?_)
 refine lA I (SL.nT (SC.sR (lA I (SL.nT (SC.sR (lK (qV 0 iT31 zT31 I I I) (lW (cL call102 I (refCells_spec E g _ _ l hv hf)) ?_)))))))
 rintro v7 g1 _ ⟨rfl,hle,hc⟩
 obtain ⟨rs,hrs,hall⟩:=hc
 obtain ⟨q,dd,rfl⟩:=hrs.form
 refine lA I (SL.nT (sQ (SC.sR (lA I (SL.nT (bK ?_))))))
 have hrl:=hall.length
 unfold dimC
 generalize tabC l = A at *
 refine oP (ι:=Nat) (fun i=>[(3,vi (maxD (A.take i) (-1))),(4,.slice q rs.length dd),(5,vi i)]) (fun _=>g1) (fun _=>pt b1 (.cells #[.slice p l.length c] 31 (0,0)) :: s)
  (fun i=>i ≤ A.length) (fun i=>A.length - i) 0 sB rfl rfl (Nat.zero_le _) ?_
 rintro k hk
 try dsimp only at hk ⊢
 refine sQ (SC.sR (lM I (lM I (lU (eN uT29 I) (lU (lS I I) (SL.nT ?_))))))
 refine iP I (fun hlt=>?_) (fun hlt=>?_)
 ·have hkl : k < A.length:=oM
  have hkr : k < rs.length:=oM
  have hb1:=hrs.based oM
  have hcr:=hall.get (gE hkl) (gE hkr)
  have hgr : rs[((k : Nat) : Int).toNat]? = some rs[k]:=gE hkr
  have hsucc : maxD (A.take (k + 1)) (-1) = max (maxD (A.take k) (-1)) A[k].dim:=by rw [tS hkl,maxD_append]
  generalize A[k] = x at *
  generalize rs[k] = r at *
  refine kP (tN (sQ (bK (rG (lM rfl (lM rfl (lM rfl (lU (iA uT29 zT40 rfl rfl hb1 oM sL) (lU (fC uT40 rfl zT3 rfl hb1) (lK (pA (e:=encCell) (o:=1) (u:=vi x.dim) iT3 rfl hrs.rd hgr (by rw [← hcr.2.1]; rfl)) ?_))))))))))
  refine lU (SU.maxI I I) (lA I (nL (bN (tN (rG (lM I (lU (aD I I oM) (lA I (nL ?_)))))))))
  exact gA (k + 1) ⟨by rw [hsucc]; rfl,rfl,rfl,trivial⟩ rfl rfl oM lN
 ·have hkk : A.take k = A:=tL oM
  rw [hkk]
  refine xI (tX (tX (bX (tN (SC.sR (lM I (lA I (SL.nT (rE (dR (s':=s) (.cons _ (.refl _)) ?_))))))))))
  exact ST.ret1 (.inl I) results46 I ⟨I,I,hle⟩
theorem refEuler_spec (E : World) (g : PH) (s : Own) (v : Value) (l : List Cl) (hv : Cells g v l) (hf : Fits l) :
  Ctr Tryz.prog E 47 #[.agg #[v]] g s (fun r g' s'=>r = vi (eulC l) ∧ s = s' ∧ Le g g'):=by
 have hft:=tabC_fits hf
 have hfl:=hft.1
 obtain ⟨p,c,rfl⟩:=hv.form
 refine Ctr.of (args:=[.agg #[.slice p l.length c]]) func47 I ntmps47 (bE I) ?_
 refine SC.sR (SL.bx (bO I) fun b1=>?_)
 refine lA I (SL.nT (SC.sR (lA I (SL.nT (SC.sR (lK (qV 0 iT31 zT31 I I I) (lW (cL call102 I (refCells_spec E g _ _ l hv hf)) ?_)))))))
 rintro v7 g1 _ ⟨rfl,hle,hc⟩
 obtain ⟨rs,hrs,hall⟩:=hc
 obtain ⟨q,dd,rfl⟩:=hrs.form
 refine lA I (SL.nT (sQ (SC.sR (lA I (SL.nT (bK ?_))))))
 have hrl:=hall.length
 unfold eulC
 generalize tabC l = A at *
 refine oP (ι:=Nat) (fun i=>[(3,vi ((A.take i).map fun c=>if c.dim.tmod 2 = 0 then (1 : Int) else -1).sum),(4,.slice q rs.length dd),(5,vi i)]) (fun _=>g1) (fun _=>pt b1 (.cells #[.slice p l.length c] 31 (0,0)) :: s)
  (fun i=>i ≤ A.length) (fun i=>A.length - i) 0 sB rfl rfl (Nat.zero_le _) ?_
 rintro k hk
 try dsimp only at hk ⊢
 refine sQ (SC.sR (lM I (lM I (lU (eN uT29 I) (lU (lS I I) (SL.nT ?_))))))
 refine iP I (fun hlt=>?_) (fun hlt=>?_)
 ·have hkl : k < A.length:=oM
  have hkr : k < rs.length:=oM
  have hb1:=hrs.based oM
  have hcr:=hall.get (gE hkl) (gE hkr)
  have hgr : rs[((k : Nat) : Int).toNat]? = some rs[k]:=gE hkr
  have hsucc : ((A.take (k + 1)).map fun c=>if c.dim.tmod 2 = 0 then (1 : Int) else -1).sum = ((A.take k).map fun c=>if c.dim.tmod 2 = 0 then (1 : Int) else -1).sum + (if A[k].dim.tmod 2 = 0 then (1 : Int) else -1):=by rw [tS hkl,List.map_append,List.sum_append]; simp
  have hbd:=eul_bound (A.take k)
  rw [List.length_take] at hbd
  generalize A[k] = x at *
  generalize rs[k] = r at *
  refine kP (tN (sQ (bK (SC.sR (lM rfl (lM rfl (lU (iA uT29 zT40 rfl rfl hb1 oM sL) (lU (fC uT40 rfl zT3 rfl hb1) (lK (pA (e:=encCell) (o:=1) (u:=vi x.dim) iT3 rfl hrs.rd hgr (by rw [← hcr.2.1]; rfl)) ?_)))))))))
  refine lU (SU.rem I I dC) (lU (eQ I I) (SL.nT ?_))
  refine iP I (fun hev=>?_) (fun hev=>?_)
  ·refine rG (lM I (lU (aD I I oM) (lA I (nL (bN (tN (rG (lM I (lU (aD I I oM) (lA I (nL ?_)))))))))))
   exact gA (k + 1) ⟨get_vi I (by rw [hsucc,if_pos hev]),I,I,trivial⟩ I I oM lN
  ·refine rG (lM I (lU (sU I I oM) (lA I (nL (bN (tN (rG (lM I (lU (aD I I oM) (lA I (nL ?_)))))))))))
   exact gA (k + 1) ⟨get_vi I (by rw [hsucc,if_neg hev]; omega),I,I,trivial⟩ I I oM lN
 ·have hkk : A.take k = A:=tL oM
  rw [hkk]
  refine xI (tX (tX (bX (tN (SC.sR (lM I (lA I (SL.nT (rE (dR (s':=s) (.cons _ (.refl _)) ?_))))))))))
  exact ST.ret1 (.inl I) results47 I ⟨I,I,hle⟩
theorem refHas_spec (E : World) (g : PH) (s : Own) (c : Cl) (r : Rc) (id : Int) (hc : CellR g c r) (hl : c.sides.length < 1099511627776) :
  Ctr Tryz.prog E 111 #[rcv r,vi id] g s (fun x g' s'=>x = vb (hasC c id) ∧ g = g' ∧ s = s'):=by
 obtain ⟨ri,rd,⟨rp,rn,rc⟩⟩:=r
 have hs : SlA encSide g (.slice rp rn rc) c.sides:=hc.2.2
 have hn : rn = c.sides.length:=Sl.slen hs
 subst hn
 refine Ctr.of (args:=[rcv ⟨ri,rd,⟨rp,c.sides.length,rc⟩⟩,vi id]) func111 I ntmps111 (bE I) ?_
 refine SC.sR (SL.bx (bO I) fun b2=>?_)
 refine lA I (SL.nT (sQ (SC.sR (lA I (SL.nT (bK ?_))))))
 refine oP (ι:=Nat) (fun k=>[(1,vi id),(2,pp b2 0),(5,vi k)]) (fun _=>g) (fun _=>pt b2 (.cells #[vi ri,vi rd,.slice rp c.sides.length rc] 40 (0,0)) :: s)
  (fun k=>k ≤ c.sides.length ∧ (c.sides.take k).any (fun x=>decide (x.cell = id)) = false) (fun k=>c.sides.length - k) 0 sB rfl rfl ⟨Nat.zero_le _,rfl⟩ ?_
 rintro k ⟨hk,hno⟩
 refine sQ (SC.sR (lM I (lU (fA uT40 I zT38 I) (lK (qL (v:=.slice rp c.sides.length rc) iT38 I (cO 0 I I)) (lU (eN uT38 I) (lU (lS I I) (SL.nT ?_)))))))
 refine iP I (fun hlt=>?_) (fun hlt=>?_)
 ·have hkl : k < c.sides.length:=oM
  have hb1:=hs.based oM
  have hgk : c.sides[((k : Nat) : Int).toNat]? = some c.sides[k]:=gE hkl
  have htk : (c.sides.take (k + 1)).any (fun x=>decide (x.cell = id)) = ((c.sides.take k).any (fun x=>decide (x.cell = id)) || decide (c.sides[k].cell = id)):=by
   rw [tS hkl,List.any_append]; simp
  have hmem : c.sides[k] ∈ c.sides:=gM hkl
  generalize c.sides[k] = x at *
  refine kP (tN (sQ (bK (SC.sR (lU (fA uT40 I zT38 I) (lK (qL (v:=.slice rp c.sides.length rc) iT38 I (cO 0 I I)) (lM I (lU (iA uT38 zT42 I I hb1 oM sL) (lU (fC uT42 I zT3 I hb1) (lK (pA (e:=encSide) (o:=0) (u:=vi x.cell) iT3 I hs.rd hgk I) (lM I (lU (eQ I I) (SL.nT ?_)))))))))))))
  refine iP I (fun he=>?_) (fun he=>?_)
  ·refine SC.sR (lA I (SL.nT (rE (bR (tR (tR (bR (tR (dR (s':=s) (.cons _ (.refl _)) ?_)))))))))
   exact ST.ret1 (.inl I) results111 I ⟨by rw [show hasC c id = true from List.any_eq_true.2 ⟨x,hmem,decide_eq_true he⟩],I,I⟩
  ·refine kP (bN (tN (rG (lM I (lU (aD I I oM) (lA I (nL ?_)))))))
   exact gA (k + 1) sB rfl rfl ⟨oM,by rw [htk,hno,decide_eq_false he]; rfl⟩ oM
 ·have hkk : c.sides.take k = c.sides:=tL oM
  rw [hkk] at hno
  refine xI (tX (tX (bX (tN (SC.sR (lA I (SL.nT (rE (dR (s':=s) (.cons _ (.refl _)) ?_)))))))))
  exact ST.ret1 (.inl I) results111 I ⟨by rw [show hasC c id = false from hno],I,I⟩
theorem refAbove_spec (E : World) (g : PH) (s : Own) (v : Value) (l : List Cl) (id : Int) (hv : Cells g v l) (hf : Fits l) :
  Ctr Tryz.prog E 53 #[.agg #[v],vi id] g s (fun r g' s'=>s = s' ∧ Le g g' ∧ Ints g' r (aboveC l id)):=by
 have hft:=tabC_fits hf
 have hfl:=hft.1
 obtain ⟨p,c,rfl⟩:=hv.form
 refine Ctr.of (args:=[.agg #[.slice p l.length c],vi id]) func53 I ntmps53 (bE I) ?_
 refine SC.sR (SL.bx (bO I) fun b2=>?_)
 refine lA I (SL.nT (SC.sR (lA I (SL.nT (SC.sR (lK (qV 0 iT31 zT31 I I I) (lW (cL call102 I (refCells_spec E g _ _ l hv hf)) ?_)))))))
 rintro v9 g1 _ ⟨rfl,hle,hc⟩
 obtain ⟨rs,hrs,hall⟩:=hc
 obtain ⟨q,dd,rfl⟩:=hrs.form
 refine lA I (SL.nT (sQ (SC.sR (lA I (SL.nT (bK ?_))))))
 have hrl:=hall.length
 unfold aboveC
 generalize tabC l = A at *
 refine SC.nilRow 3 1 ?_
 refine oP (ι:=Value × Nat) (fun i=>[(1,vi id),(5,i.1),(6,.slice q rs.length dd),(7,vi i.2)]) (fun _=>g1) (fun i=>rowA encInt 3 i.1 (((A.take i.2).filter fun c=>hasC c id).map Cl.id) :: pt b2 (.cells #[.slice p l.length c] 31 (0,0)) :: s)
  (fun i=>i.2 ≤ A.length) (fun i=>A.length - i.2) (.slice none 0 0,0) sB rfl rfl (Nat.zero_le _) ?_
 rintro ⟨ov,k⟩ hk
 dsimp only at hk ⊢
 refine sQ (SC.sR (lM I (lM I (lU (eN uT29 I) (lU (lS I I) (SL.nT ?_))))))
 refine iP I (fun hlt=>?_) (fun hlt=>?_)
 ·have hkl : k < A.length:=oM
  have hkr : k < rs.length:=oM
  have hb1:=hrs.based oM
  have hcr:=hall.get (gE hkl) (gE hkr)
  have hgr : rs[((k : Nat) : Int).toNat]? = some rs[k]:=gE hkr
  have hsucc:=filt_succ hkl (fun c=>hasC c id) Cl.id
  have hlek:=filt_le A k (fun c=>hasC c id) Cl.id
  have hxl:=hft.2 _ (gM hkl)
  generalize A[k] = x at *
  generalize rs[k] = r at *
  refine kP (tN (sQ (bK (SC.sR (lM I (lM I (lU (iA uT29 zT40 I I hb1 oM sL) (lK (eA iT40 zT40 I hrs.rd hgr) (lM I (lW (cL call111 I (refHas_spec E g1 _ x r id hcr hxl)) ?_))))))))))
  rintro _ _ _ ⟨rfl,rfl,rfl⟩
  refine SL.nT ?_
  refine iQ I (fun hd=>?_) (fun hd=>?_)
  ·refine rG (lM rfl (lM rfl (lM rfl (lU (iA uT29 zT40 rfl rfl hb1 oM sL) (lU (fC uT40 rfl zT3 rfl hb1) (lK (pA (e:=encCell) (o:=0) (u:=vi x.id) iT3 rfl hrs.rd hgr (by rw [← hcr.1]; rfl)) ?_))))))
   refine lW (bS sty27 I I I (szs_mk sB) dC) ?_
   rintro _ _ _ ⟨b28,rfl,rfl,rfl⟩
   refine lW (aP (e:=encInt) 0 x.id sty27 I I I I I oM oM) ?_
   rintro ov' _ _ ⟨rfl,rfl⟩
   refine lA I (nL (bN (tN (rG (lM I (lU (aD I I oM) (lA I (nL ?_))))))))
   refine ST.to (fun w hw=>?_) (g':=g1) (s':=rowA encInt 3 ov' (((A.take (k + 1)).filter fun c=>hasC c id).map Cl.id) :: pt b2 (.cells #[.slice p l.length c] 31 (0,0)) :: s) ?_
   ·rw [hsucc,if_pos (hd)]; exact hw
   exact gA (ov',k + 1) sB I I (by dsimp only; omega) lN
  ·refine kP (bN (tN (rG (lM I (lU (aD I I oM) (lA I (nL ?_)))))))
   refine ST.to (fun w hw=>?_) (g':=g1) (s':=rowA encInt 3 ov (((A.take (k + 1)).filter fun c=>hasC c id).map Cl.id) :: pt b2 (.cells #[.slice p l.length c] 31 (0,0)) :: s) ?_
   ·rw [hsucc,if_neg (by rw [hd]; simp),List.append_nil]; exact hw
   exact gA (ov,k + 1) sB I I (by dsimp only; omega) lN
 ·have hkk : A.take k = A:=tL oM
  rw [hkk]
  refine xI (tX (tX (bX (tN (SC.sR (lM I (lA I (SL.nT (rE (fT fun g2 hle2 hs2=>?_))))))))))
  refine dR (s':=s) (.cons _ (.refl _)) ?_
  exact ST.ret1 (.inl I) results53 I ⟨I,hle.trans hle2,hs2⟩
theorem refFind_spec (E : World) (g : PH) (s : Own) (v : Value) (l : List Cl) (id : Int) (hv : Cells g v l) (hf : Fits l) :
  Ctr Tryz.prog E 51 #[.agg #[v],vi id] g s (fun r g' s'=>s = s' ∧ Le g g' ∧ ∃ x,r = .tuple #[rcv x,vb (findC l id).isSome] ∧ CellR g' ((findC l id).getD zeroC) x):=by
 have hft:=tabC_fits hf
 have hfl:=hft.1
 obtain ⟨p,c,rfl⟩:=hv.form
 have hsrt:=tabC_sorted l
 have hnd:=tabC_nodup l
 refine Ctr.of (args:=[.agg #[.slice p l.length c],vi id]) func51 I ntmps51 (bE I) ?_
 refine SC.sR (SL.bx (bO I) fun b2=>?_)
 refine SL.bx (aL zeroValue40) fun b4=>?_
 refine lA I (SL.nT (SC.sR (lK (qV 1 iT31 zT31 I I I) (lW (cL call102 I (refCells_spec E g _ _ l hv hf)) ?_))))
 rintro v9 g1 _ ⟨rfl,hle,hc⟩
 obtain ⟨rs,hrs,hall⟩:=hc
 have hcs : Cells g1 _ (tabC l):=⟨rs,hrs,hall⟩
 obtain ⟨q,dd,rfl⟩:=hrs.form
 refine lA I (SL.nT (SC.sR (lM I (lM I (lW (cL call103 I (at_spec E g1 _ _ (tabC l) id hcs hfl hsrt)) ?_)))))
 rintro _ _ _ ⟨rfl,rfl,rfl⟩
 refine lA I (SL.nT (sQ (SC.sR (lM I (lU (lS I I) (SL.nT ?_))))))
 have hrl:=hall.length
 unfold findC
 generalize tabC l = A at *
 have haf:=at_find hsrt id
 refine iP I (fun hneg=>?_) (fun hneg=>?_)
 ·rcases haf with ⟨h1,h2⟩ | ⟨x,k,h1,h2,h3⟩
  ·have hno : (A.find? fun c=>decide (c.id = id)) = none:=h1
   refine SC.sR (lU (SU.build I (buildE40)) (SL.O2 (sK 0 zT40 I I I I I sB) ?_))
   refine lA I (SL.nT (rE (tR ?_)))
   exact ST.retCD1 0 s (.inl rfl) results51 rfl rfl iT40 zT40 rfl rfl (.cons _ (.cons _ (.refl _))) ⟨rfl,hle,zeroR,by rw [hno]; rfl,by rw [hno]; exact zeroCR g1⟩
  ·rw [h2] at hneg; omega
 ·rcases haf with ⟨h1,h2⟩ | ⟨x,k,h1,h2,h3⟩
  ·rw [h2] at hneg; omega
  ·have hyes : (A.find? fun c=>decide (c.id = id)) = some x:=h1
   rw [h2]
   have hkl : k < A.length:=(List.getElem?_eq_some_iff.1 h3).1
   have hkr : k < rs.length:=oM
   have hb1:=hrs.based oM
   have hcr:=hall.get h3 (gE hkr)
   have hgr : rs[((k : Nat) : Int).toNat]? = some rs[k]:=gE hkr
   generalize rs[k] = r at *
   obtain ⟨ri,rd,⟨rp,rn,rc⟩⟩:=r
   refine kP (tN (SC.sR (lM I (lM I (lU (iA uT29 zT40 I I hb1 oM sL) (lK (eA iT40 zT40 I hrs.rd hgr) (SL.O2 (sK 0 zT40 I I I I I sB) ?_)))))))
   refine lA I (SL.nT (rE ?_))
   exact ST.retCD1 0 s (.inl rfl) results51 rfl rfl iT40 zT40 rfl rfl (.cons _ (.cons _ (.refl _))) ⟨rfl,hle,⟨ri,rd,⟨rp,rn,rc⟩⟩,by rw [hyes]; rfl,by rw [hyes]; exact hcr⟩
end Go.Proofs.YtkdibcicncjpdaaGreatDoor
namespace Go.Sy
open Go
section
variable {α : Type} {k : Nat} {P : Program} {N : Nat} {E : World} {f : Fr} {g : PH} {s : Own} {dst : Option Tmp} {ty : TypeId} {pos : String} {af : Array Edge} {gd : Option (Nat × Bool)}
theorem SO.makeC {x y : Operand} {t T : TypeId} {bytes n : Nat} {z : Value} (e : Enc α k) (hT : STy P t T k bytes z) (hx : ev f x = some (vi 0)) (hy : ev f y = some (vi n)) (hb : n * bytes ≤ 140737488355328) (hlen : n ≤ 4611686018427387904) :
  SO P N E ⟨dst,.makeSlice t x y,ty,pos,af,gd⟩ f g s fun v' g' s'=>g = g' ∧ s' = rowA e T v' [] :: s :=
 SO.of_run fun ac w ha hw=>by
  obtain ⟨ti,ht1,ht2,ht3,ht4⟩:=hT.info
  have hbi : (ti.bytes : Int) * ((n : Nat) : Int) ≤ 281474976710656:=by
   rw [ht4,← Int.natCast_mul,Nat.mul_comm]; omega
  have h5:=run_make (P:=P) w t T ti z hT.und ht1 ht2 .i64 .i64 0 n oM oM hbi oM
  simp only [Int.toNat_natCast] at h5
  rw [ht3] at h5
  have hrun : (execOp ac.eval ⟨dst,.makeSlice t x y,ty,pos,af,gd⟩).run P w = .ok (.value (.slice (some ⟨w.heap.size,0,none⟩) 0 n)) (w.alloc (.cells (madeCells z.cells (n * k)) T)):=by
   simp [execOp,ha.ev hx,ha.ev hy,h5]
  have hnew : (w.alloc (.cells (madeCells z.cells (n * k)) T)).heap[w.heap.size]? = some (.cells (madeCells z.cells (n * k)) T (0,0)):=heap_alloc_new w _
  refine ⟨_,_,g,_,hrun,?_,I,I⟩
  cases n with
  | zero =>
   have h6:=hw.emptyRow T k (some ⟨w.heap.size,0,none⟩)
   have h7:=h6.alloc (e:=pt w.heap.size (.cells (madeCells z.cells (0 * k)) T (0,0))) (o:=.cells (madeCells z.cells (0 * k)) T (0,0)) rfl rfl
   exact h7.sublist (List.sublist_cons_self _ _)
  | succ n =>
   have hsz : (madeCells z.cells ((n + 1) * k)).size = (n + 1) * k:=by simp [madeCells]
   exact hw.alloc (e:=rowA e T (.slice (some ⟨w.heap.size,0,none⟩) 0 (n + 1)) []) (o:=.cells (madeCells z.cells ((n + 1) * k)) T (0,0)) I ⟨by simp,.inr ⟨_,n,_,I,I,by simp,by unfold maxLen; omega,hsz,by simp⟩⟩
def encB : Enc Int 1:=⟨fun n=>[.int .u8 n],fun _=>rfl,fun _ u hu=>by simp at hu; subst hu; rfl,by decide⟩
def encU : Enc Int 1:=⟨fun n=>[.int .u64 n],fun _=>rfl,fun _ u hu=>by simp at hu; subst hu; rfl,by decide⟩
def byt (l : List Int) : List UInt8:=l.map fun n=>UInt8.ofNat n.toNat
def txt (l : List UInt8) : Value:=.string ⟨l.toArray⟩
theorem fold_push (l : List Int) : ∀ s : ByteArray,l.foldl (fun r n=>r.push (UInt8.ofNat n.toNat)) s = ⟨s.data ++ (byt l).toArray⟩:=by
 induction l with
 | nil=>intro s; simp [byt]
 | cons a t ih =>
  intro s
  simp only [List.foldl_cons]
  rw [ih]
  simp [byt,ByteArray.push]
theorem flat_bytes (l : List Int) : l.flatMap encB.enc = l.map (Value.int .u8):=by
 induction l with
 | nil=>rfl
 | cons a t ih=>simp only [List.flatMap_cons,List.map_cons,ih]; rfl
theorem SQ.bytesText {x : Operand} {S D e : TypeId} {p : Option Addr} {c : Nat} {l : List Int} (hs : P.underlying S = some (.slice e)) (he : P.underlying e = some (.int .u8)) (hd : P.underlying D = some .string)
  (hx : ev f x = some (.slice p l.length c)) (hr : Rd g s (.slice p l.length c) (l.flatMap encB.enc)) :
  SQ P N E ⟨dst,.convert S D x,ty,pos,af,gd⟩ f g s (txt (byt l)):=fun a w ha hw=>by
 have h1 : (convert S D (.slice p l.length c)).run P w = .ok (txt (byt l)) w:=by
  rw [run_convert_bytes_string w S D e p l.length c hs he hd]
  rw [flat_bytes] at hr
  cases l with
  | nil =>
   cases p with
   | none=>simp [Conv.bytesToString,txt,byt]; rfl
   | some a =>
    have h2:=run_bytesToString (P:=P) w a 0 c [] (by simp [loadCells]; exact run_loadCellsFrom (P:=P) (w:=w) (b:=a.block) (o:=a.off) 0 0 [] #[] rfl (fun j y hy=>by simp at hy))
    rw [List.length_nil,h2]
    rfl
  | cons n t =>
   obtain ⟨q,n',c',he1,hsp,hc0⟩:=hr E w hw 0 (.int .u8 n) rfl
   injection he1 with he1 he2 he3
   subst he1
   obtain ⟨qb,qo,qs⟩:=q
   dsimp only at hsp
   subst hsp
   have h2:=run_bytesToString (P:=P) w ⟨qb,qo,none⟩ (n :: t).length c (n :: t) (by
    have:=run_loadCellsFrom (P:=P) (w:=w) (b:=qb) (o:=qo) (n :: t).length 0 ((n :: t).map (Value.int .u8)) #[] (by simp) (fun j y hy=>by
     obtain ⟨q',n2,c2,he4,_,hc1⟩:=hr E w hw j y hy
     injection he4 with he4
     injection he4 with he4
     subst he4
     simpa using hc1)
    simpa [loadCells] using this)
   rw [h2,fold_push]
   simp [txt]
 simp [execOp,ha.ev hx,h1]
theorem txt_list (l : List UInt8) : (⟨l.toArray⟩ : ByteArray).toList = l:=by rw [ByteArray.toList_eq]
theorem beq_dec (l m : List UInt8) : (l == m) = decide (l = m):=by by_cases h : l = m <;> simp [h]
theorem SU.eqlT {x y : Operand} {T U : TypeId} {l m : List UInt8} (hx : ev f x = some (txt l)) (hy : ev f y = some (txt m)) :
  SU P N ⟨dst,.binOp .eql T x y U,ty,pos,af,gd⟩ f (.bool (decide (l = m))):=fun ac w ha=>by
 have hg : (eqGuard .eql T x y (txt l) (txt m)).run P w = .ok () w:=by simp [eqGuard,txt]
 have hb : (binOp .eql T (txt l) (txt m)).run P w = .ok (.bool (decide (l = m))) w:=by
  unfold txt
  rw [binOp_string_eql,txt_list,txt_list,beq_dec]
  rfl
 simp only [execOp,ha.ev hx,ha.ev hy,Sem.run_bind,hg,Result.andThen_ok,hb]
 rfl
theorem SU.neqT {x y : Operand} {T U : TypeId} {l m : List UInt8} (hx : ev f x = some (txt l)) (hy : ev f y = some (txt m)) :
  SU P N ⟨dst,.binOp .neq T x y U,ty,pos,af,gd⟩ f (.bool (decide (l ≠ m))):=fun ac w ha=>by
 have hg : (eqGuard .neq T x y (txt l) (txt m)).run P w = .ok () w:=by simp [eqGuard,txt]
 have hb : (binOp .neq T (txt l) (txt m)).run P w = .ok (.bool (decide (l ≠ m))) w:=by
  unfold txt
  rw [binOp_string_neq,txt_list,txt_list]
  by_cases h : l = m <;> simp [h,bne] <;> rfl
 simp only [execOp,ha.ev hx,ha.ev hy,Sem.run_bind,hg,Result.andThen_ok,hb]
 rfl
end
end Go.Sy
namespace Go.Proofs.YtkdibcicncjpdaaGreatDoor
open _root_.Go.Proofs.Tryz _root_.Go.Proofs.YtkdibcicncjpdaaGreatDoor.Tryz
open Go Go.Sy Go.Pl Go.Proofs Go.Shelf
set_option maxRecDepth 100000
set_option maxHeartbeats 1000000
theorem getVi {f : Fr} {t : Nat} {a b : Int} (h : get? f t = some (vi a)) (e : a = b) : get? f t = some (vi b):=e ▸ h
theorem Tryz.sty144 : STy Tryz.prog 144 158 1 8 (.int .u64 0):=⟨underlying144,⟨t158,by kernel_rfl,by kernel_rfl,by kernel_rfl,by kernel_rfl⟩,rfl,by decide⟩
theorem Tryz.sty161 : STy Tryz.prog 161 5 1 1 (.int .u8 0):=⟨underlying161,⟨t5,by kernel_rfl,by kernel_rfl,by kernel_rfl,by kernel_rfl⟩,rfl,by decide⟩
def trimZ (l : List Int) : List Int:=(l.reverse.dropWhile (· == 0)).reverse
theorem trimZ_drop {m : List Int} (h : 0 < m.length) (h0 : m.getD (m.length - 1) 1 = 0) : trimZ (m.take (m.length - 1)) = trimZ m:=by
 rcases List.eq_nil_or_concat m with rfl | ⟨a,x,rfl⟩
 ·simp at h
 ·have hx : x = 0:=by simpa [List.getD_eq_getElem?_getD] using h0
  subst hx
  simp [trimZ]
theorem trimZ_stop {m : List Int} (h : (decide ((m.length : Int) > 0) && decide (m.getD (m.length - 1) 1 = 0)) = false) : trimZ m = m:=by
 rcases List.eq_nil_or_concat m with rfl | ⟨a,x,rfl⟩
 ·rfl
 ·have hx : x ≠ 0:=by simpa [List.getD_eq_getElem?_getD] using h
  simp [trimZ,hx]
theorem norm_spec (E : World) (g : PH) (s : Own) (v : Value) (l : List Int) (hv : SlA encU g v l) (hl : l.length < 1099511627776) :
  Ctr Tryz.prog E 154 #[v] g s (fun r g' s'=>g = g' ∧ s = s' ∧ SlA encU g r (trimZ l)):=by
 refine Ctr.of (args:=[v]) func154 I ntmps154 (bE I) ?_
 refine SC.sR (lA I (SL.nT (sQ (bK ?_))))
 refine oP (ι:=Value × List Int) (fun i=>[(0,i.1)]) (fun _=>g) (fun _=>s) (fun i=>SlA encU g i.1 i.2 ∧ trimZ i.2 = trimZ l ∧ i.2.length ≤ l.length) (fun i=>i.2.length) (v,l) ⟨I,trivial⟩ I I ⟨hv,I,lR _⟩ ?_
 rintro ⟨v1,m⟩ ⟨hm,htr,hle⟩
 dsimp only at hm htr hle ⊢
 obtain ⟨p,c,rfl⟩:=SlA.form hm
 have hcap:=(SlA.cap hm).2
 have f1 : (m.length : Int) > 0 → (decide ((m.length : Int) > 0) && decide (m.getD (m.length - 1) 1 = 0)) = decide (m.getD (m.length - 1) 1 = 0):=fun h=>by rw [decide_eq_true h,Bool.true_and]
 have f2 : ¬ (m.length : Int) > 0 → (decide ((m.length : Int) > 0) && decide (m.getD (m.length - 1) 1 = 0)) = false:=fun h=>by simp only [h,decide_false,Bool.false_and]
 have hgl : (m.length : Int) > 0 → m[((m.length : Int) - 1).toNat]? = some (m.getD (m.length - 1) 1):=fun h=>by
  have h1 : ((m.length : Int) - 1).toNat = m.length - 1:=oM
  have h2 : m.length - 1 < m.length:=oM
  rw [h1,List.getD_eq_getElem?_getD,gE h2]; rfl
 have hbs : (m.length : Int) > 0 → based (.slice p m.length c) = true:=fun h=>SlA.based hm oM
 refine sQ ?_
 refine SC.cutB 14 ((decide ((m.length : Int) > 0) && decide (m.getD (m.length - 1) 1 = 0))) ?_ ?_
 ·refine rG (lM I (lU (eN uT144 I) (lU (gR I I) (lM I ?_))))
  refine sP ?_ ?_
  ·intro h6
   refine lY I I I (mV I) (lY I I I (mV I) (lY I I I (eN uT144 I) (lY I I I (sU I I oM) (lY I I I (iA uT144 sizeOf158 I I (hbs h6) oM sL) (SL.gq (gT I I I dC) (eB isAgg158 I (SlA.rd hm) (hgl h6) I) dC (lY I I I (eQ I I) (lU (pT I I) (nL ?_))))))))
   exact ST.mid1 (by (rw [f1 h6]; rfl)) mI
  ·intro h6
   refine lZ I I I (lZ I I I (lZ I I I (lZ I I I (lZ I I I (lZ I I I (lZ I I I (lU (pF I I) (nL ?_))))))))
   exact ST.mid1 (by (rw [f2 h6]; rfl)) mI
 refine iQ I (fun hc=>?_) (fun hc=>?_)
 ·rw [Bool.and_eq_true,decide_eq_true_iff,decide_eq_true_iff] at hc
  obtain ⟨hpos,hlast⟩:=hc
  have h1 : ((m.length : Int) - 1).toNat = m.length - 1:=oM
  refine kP (tN (bK (rG (lM I (lM I (lU (eN uT144 I) (lU (sU I I oM) (lU (SU.sliceH uT144 sizeOf158 I I oM oM) (lA I (nL (bN ?_)))))))))))
  refine gA (sliced p 0 ((m.length : Int) - 1).toNat c 1,m.take (m.length - 1)) ⟨I,trivial⟩ I I ⟨?_,?_,?_⟩ (by dsimp only; rw [List.length_take]; omega)
  ·have:=SlA.cut hm (l:=0) (m:=m.length - 1) (Nat.zero_le _) oM
   dsimp only
   rw [h1]
   simpa using this
  ·dsimp only; rw [trimZ_drop oM hlast]; exact htr
  ·dsimp only; rw [List.length_take]; omega
 ·refine xI (tX (tX (bX (tN (SC.sR (lM I (lA I (SL.nT (rE ?_)))))))))
  exact ST.ret1 (.inl I) results154 I ⟨I,I,by rw [← htr,trimZ_stop hc]; exact hm⟩
theorem refTrim_spec (E : World) (g : PH) (s : Own) (v : Value) (l : List Int) (hv : SlA encInt g v l) (hl : l.length < 1099511627776) :
  Ctr Tryz.prog E 196 #[v] g s (fun r g' s'=>g = g' ∧ s = s' ∧ SlA encInt g r (trimZ l)):=by
 refine Ctr.of (args:=[v]) func196 I ntmps196 (bE I) ?_
 refine SC.sR (lA I (SL.nT (sQ (bK ?_))))
 refine oP (ι:=Value × List Int) (fun i=>[(0,i.1)]) (fun _=>g) (fun _=>s) (fun i=>SlA encInt g i.1 i.2 ∧ trimZ i.2 = trimZ l ∧ i.2.length ≤ l.length) (fun i=>i.2.length) (v,l) ⟨I,trivial⟩ I I ⟨hv,I,lR _⟩ ?_
 rintro ⟨v1,m⟩ ⟨hm,htr,hle⟩
 dsimp only at hm htr hle ⊢
 obtain ⟨p,c,rfl⟩:=SlA.form hm
 have hcap:=(SlA.cap hm).2
 have f1 : (m.length : Int) > 0 → (decide ((m.length : Int) > 0) && decide (m.getD (m.length - 1) 1 = 0)) = decide (m.getD (m.length - 1) 1 = 0):=fun h=>by rw [decide_eq_true h,Bool.true_and]
 have f2 : ¬ (m.length : Int) > 0 → (decide ((m.length : Int) > 0) && decide (m.getD (m.length - 1) 1 = 0)) = false:=fun h=>by simp only [h,decide_false,Bool.false_and]
 have hgl : (m.length : Int) > 0 → m[((m.length : Int) - 1).toNat]? = some (m.getD (m.length - 1) 1):=fun h=>by
  have h1 : ((m.length : Int) - 1).toNat = m.length - 1:=oM
  have h2 : m.length - 1 < m.length:=oM
  rw [h1,List.getD_eq_getElem?_getD,gE h2]; rfl
 have hbs : (m.length : Int) > 0 → based (.slice p m.length c) = true:=fun h=>SlA.based hm oM
 refine sQ ?_
 refine SC.cutB 14 ((decide ((m.length : Int) > 0) && decide (m.getD (m.length - 1) 1 = 0))) ?_ ?_
 ·refine rG (lM I (lU (eN uT27 I) (lU (gR I I) (lM I ?_))))
  refine sP ?_ ?_
  ·intro h6
   refine lY I I I (mV I) (lY I I I (mV I) (lY I I I (eN uT27 I) (lY I I I (sU I I oM) (lY I I I (iA uT27 zT3 I I (hbs h6) oM sL) (SL.gq (gT I I I dC) (eB iT3 I (SlA.rd hm) (hgl h6) I) dC (lY I I I (eQ I I) (lU (pT I I) (nL ?_))))))))
   exact ST.mid1 (by (rw [f1 h6]; rfl)) mI
  ·intro h6
   refine lZ I I I (lZ I I I (lZ I I I (lZ I I I (lZ I I I (lZ I I I (lZ I I I (lU (pF I I) (nL ?_))))))))
   exact ST.mid1 (by (rw [f2 h6]; rfl)) mI
 refine iQ I (fun hc=>?_) (fun hc=>?_)
 ·rw [Bool.and_eq_true,decide_eq_true_iff,decide_eq_true_iff] at hc
  obtain ⟨hpos,hlast⟩:=hc
  have h1 : ((m.length : Int) - 1).toNat = m.length - 1:=oM
  refine kP (tN (bK (rG (lM I (lM I (lU (eN uT27 I) (lU (sU I I oM) (lU (SU.sliceH uT27 zT3 I I oM oM) (lA I (nL (bN ?_)))))))))))
  refine gA (sliced p 0 ((m.length : Int) - 1).toNat c 1,m.take (m.length - 1)) ⟨I,trivial⟩ I I ⟨?_,?_,?_⟩ (by dsimp only; rw [List.length_take]; omega)
  ·have:=SlA.cut hm (l:=0) (m:=m.length - 1) (Nat.zero_le _) oM
   dsimp only
   rw [h1]
   simpa using this
  ·dsimp only; rw [trimZ_drop oM hlast]; exact htr
  ·dsimp only; rw [List.length_take]; omega
 ·refine xI (tX (tX (bX (tN (SC.sR (lM I (lA I (SL.nT (rE ?_)))))))))
  exact ST.ret1 (.inl I) results196 I ⟨I,I,by rw [← htr,trimZ_stop hc]; exact hm⟩
theorem backward_spec (E : World) (g : PH) (s : Own) (v : Value) (hv : v.cells = #[v]) :
  Ctr Tryz.prog E 155 #[v] g s (fun r g' s'=>s = s' ∧ Le g g' ∧ ∃ b,r = .func (.func 183) #[] #[pp b 0] ∧ g' b = some (.cells #[v] 144 (0,0))):=by
 refine Ctr.of (args:=[v]) func155 I ntmps155 (bE I) ?_
 refine SC.sR (SL.bx (bO I) fun b1=>?_)
 refine lA I (SL.nT (SC.sR (lU (SU.mkFunc I) (lA I (SL.nT (rE ?_))))))
 rw [hv]
 refine ST.freeze fun g1 hle hb=>?_
 exact ST.ret1 (.inl I) results155 I ⟨I,hle,_,I,hb⟩
def revP (l : List Int) : List (Nat × Int):=(l.zipIdx.map fun p=>(p.2,p.1)).reverse
theorem revP_length (l : List Int) : (revP l).length = l.length:=by simp [revP]
theorem revP_get {l : List Int} {k : Nat} (h : k < l.length) : (revP l)[l.length - 1 - k]? = some (k,l[k]):=by
 unfold revP
 rw [List.getElem?_reverse (by simp; omega)]
 simp only [List.length_map,List.length_zipIdx]
 rw [show l.length - 1 - (l.length - 1 - k) = k by omega]
 simp [h]
theorem backward_gives (E : World) (g0 : PH) (b : Nat) (v : Value) (l : List Int) (hb : g0 b = some (.cells #[v] 144 (0,0))) (hv : SlA encU g0 v l) (hl : l.length < 1099511627776) :
  Gives Tryz.prog E 183 [pp b 0] (fun x : Nat × Int=>[vi x.1,.int .u64 x.2]) (revP l) g0:=by
 intro k ι G S J i0 h0 hmono hY sx
 obtain ⟨p,c,rfl⟩:=SlA.form hv
 refine Ctr.ofX (args:=[.func (.yield k) #[] #[],pp b 0]) func183 I ntmps183 (bE I) ?_
 refine XC.seq ?_
 refine XC.region ?_
 refine XL.q (qL (v:=.slice p l.length c) isAgg144 I (cK (hmono _ _ h0 _ _ hb) I)) dC ?_
 refine XL.u (eN uT144 I) dC ?_
 refine XL.u (sU I I oM) dC ?_
 refine XL.u (aS I) dC ?_
 refine XL.nil ?_
 refine XT.thenN ?_
 refine XC.block ?_
 refine XC.loop (ι:=ι × Nat) (fun i=>[(0,.func (.yield k) #[] #[]),(1,pp b 0),(3,vi ((i.2 : Int) - 1))]) (fun i=>G i.1) (fun i=>S i.1 ++ sx) (fun i=>i.2 ≤ l.length ∧ J ((revP l).take (l.length - i.2)) i.1) (fun i=>i.2) (i0,l.length)
  sB rfl rfl ⟨lR _,by simpa using h0⟩ ?_
 rintro ⟨j,n⟩ ⟨hn,hJ⟩
 dsimp only at hn hJ ⊢
 have hle:=hmono _ _ hJ
 refine XC.seq ?_
 refine XC.seq ?_
 refine XC.region ?_
 refine XL.u (mV I) dC ?_
 refine XL.u (gQ I I) dC ?_
 refine XL.nil ?_
 refine XT.thenN ?_
 refine XC.ifP I (fun hge=>?_) (fun hge=>?_)
 ·have hn1 : n - 1 < l.length:=oM
  have hv':=SlA.mono hv hle
  have hb1:=SlA.based hv' oM
  have hgx : l[((n : Int) - 1).toNat]? = some l[n - 1]:=by rw [show ((n : Int) - 1).toNat = n - 1 by omega]; exact gE hn1
  have hrg:=revP_get hn1
  rw [show l.length - 1 - (n - 1) = l.length - n by omega] at hrg
  have hsp : revP l = (revP l).take (l.length - n) ++ (n - 1,l[n - 1]) :: (revP l).drop (l.length - n + 1):=by
   obtain ⟨h1,h2⟩:=List.getElem?_eq_some_iff.1 hrg
   rw [← h2,List.getElem_cons_drop,List.take_append_drop]
  have hy:=hY _ _ _ j sx hsp hJ
  have htk : (revP l).take (l.length - (n - 1)) = (revP l).take (l.length - n) ++ [(n - 1,l[n - 1])]:=by
   obtain ⟨h1,h2⟩:=List.getElem?_eq_some_iff.1 hrg
   rw [show l.length - (n - 1) = l.length - n + 1 by omega,tS h1,h2]
  generalize l[n - 1] = x at *
  have hvn : vi ((n - 1 : Nat) : Int) = vi ((n : Int) - 1):=congrArg vi oM
  dsimp only at hy
  rw [hvn] at hy
  refine XC.skip ?_
  refine XT.thenN ?_
  refine XC.seq ?_
  refine XC.block ?_
  refine XC.seq ?_
  refine XC.region ?_
  refine XL.u (mV I) dC ?_
  refine XL.u (mV I) dC ?_
  refine XL.q (qL (v:=.slice p l.length c) isAgg144 I (cK (hle _ _ hb) I)) dC ?_
  refine XL.u (mV I) dC ?_
  refine XL.u (iA uT144 sizeOf158 I I hb1 oM sL) dC ?_
  refine XL.q (eB isAgg158 I (SlA.rd hv') hgx I) dC ?_
  refine XL.x (XO.yield I I hy) dC ?_
  rintro _ _ _ ⟨rfl,j',hJ',rfl,rfl⟩
  refine XL.u (SU.not I) dC ?_
  refine XL.nil ?_
  refine XT.thenN ?_
  refine XC.condF I ?_
  refine XC.skip ?_
  refine XT.blockN ?_
  refine XT.thenN ?_
  refine XC.region ?_
  refine XL.u (mV I) dC ?_
  refine XL.u (sU I I oM) dC ?_
  refine XL.u (aS I) dC ?_
  refine XL.nil ?_
  exact XT.again (j',n - 1) ⟨I,I,getVi I oM,trivial⟩ I I ⟨by dsimp only; omega,by dsimp only; rw [htk]; exact hJ'⟩ (by dsimp only; omega)
 ·have hn0 : n = 0:=oM
  subst hn0
  refine XC.exit ?_
  refine XT.thenX ?_
  refine XT.thenX ?_
  refine XT.blockX ?_
  exact XT.leave0 (.inr I) (ST.ret0 (.inr I) results183 ⟨j,by have:=hJ; rwa [tL (by rw [revP_length]; omega)] at this,I,I⟩)
def lays161_ren : Ren :=
 {
  f:=fun x =>
   match x with
   | 161=>156
   | 231=>184
   | 227=>185
   | 233=>186
   | 235=>187
   | 228=>199
   | 197=>200
   | 151=>201
   | 260=>206
   | 152=>207
   | 137=>208
   | 119=>209
   | 224=>210
   | 225=>211
   | 217=>212
   | 266=>213
   | n=>n,
  t:=fun x =>
   match x with
   | 9=>9
   | 4=>4
   | 3=>3
   | 5=>5
   | 117=>193
   | 116=>192
   | 0=>0
   | 124=>196
   | 105=>206
   | 21=>21
   | 119=>214
   | 46=>139
   | 139=>217
   | 138=>216
   | n=>n,
  g:=fun x =>
   match x with
   | 3=>0
   | 4=>1
   | n=>n }
theorem Tryz.lays161 : Lays.n161 Tryz.prog lays161_ren :=
  {
  mixed:=Eq.refl true,f119:=Eq.trans func209 (congrArg some (by kernel_rfl)),
  f137:=Eq.trans func208 (congrArg some (by kernel_rfl)),
  f151:=Eq.trans func201 (congrArg some (by kernel_rfl)),
  f152:=Eq.trans func207 (congrArg some (by kernel_rfl)),
  f161:=Eq.trans func156 (congrArg some (by kernel_rfl)),
  f197:=Eq.trans func200 (congrArg some (by kernel_rfl)),
  f217:=Eq.trans func212 (congrArg some (by kernel_rfl)),
  f224:=Eq.trans func210 (congrArg some (by kernel_rfl)),
  f225:=Eq.trans func211 (congrArg some (by kernel_rfl)),
  f227:=Eq.trans func185 (congrArg some (by kernel_rfl)),
  f228:=Eq.trans func199 (congrArg some (by kernel_rfl)),
  f231:=Eq.trans func184 (congrArg some (by kernel_rfl)),
  f233:=Eq.trans func186 (congrArg some (by kernel_rfl)),
  f235:=Eq.trans func187 (congrArg some (by kernel_rfl)),
  f260:=Eq.trans func206 (congrArg some (by kernel_rfl)),
  f266:=Eq.trans func213 (congrArg some (by kernel_rfl)),t0:=underlying0,
  a0:=isAgg0,z0:=sizeOf0,v0:=zeroValue0,t3:=uT3,a3:=iT3,
  z3:=zT3,v3:=zeroValue3,t4:=uT4,a4:=isAgg4,z4:=zT4,
  v4:=zeroValue4,t5:=uT5,a5:=isAgg5,z5:=sizeOf5,v5:=zeroValue5,
  t9:=uT9,a9:=isAgg9,z9:=sizeOf9,v9:=zeroValue9,t21:=underlying21,
  a21:=isAgg21,z21:=sizeOf21,v21:=zeroValue21,t46:=uT139,a46:=isAgg139,
  z46:=sizeOf139,v46:=zeroValue139,t105:=underlying206,a105:=isAgg206,
  z105:=sizeOf206,v105:=zeroValue206,t116:=underlying192,a116:=isAgg192,
  z116:=sizeOf192,t117:=underlying193,a117:=isAgg193,z117:=sizeOf193,
  v117:=zeroValue193,t119:=underlying214,a119:=isAgg214,z119:=sizeOf214,
  t124:=underlying196,a124:=isAgg196,z124:=sizeOf196,v124:=zeroValue196,
  t138:=underlying216,a138:=isAgg216,z138:=sizeOf216,v138:=zeroValue216,
  t139:=underlying217,a139:=isAgg217,z139:=sizeOf217,v139:=zeroValue217,
  g3:=(by kernel_rfl),g4:=(by kernel_rfl) }
def dropZ (l : List UInt8) : List UInt8:=l.dropWhile (· == 0)
theorem trimLeft_spec (E : World) (g : PH) (s : Own) (l : List UInt8) :
  Ctr Tryz.prog E 156 #[txt l,txt [0]] g s (fun r g' s'=>r = txt (dropZ l) ∧ g = g' ∧ s = s'):=by
 intro w hw
 refine (Any.strings_TrimLeft_one lays161 ⟨l.toArray⟩ 0 dC w).mono ?_
 rintro e w' ⟨rfl,rfl⟩
 exact ⟨_,g,s,I,hw,I,I,I⟩
def by4 (x : Int) : List Int:=[IntKind.u8.wrap (x.fdiv (2 ^ min (24 : Int).toNat IntKind.u64.bits)),IntKind.u8.wrap (x.fdiv (2 ^ min (16 : Int).toNat IntKind.u64.bits)),IntKind.u8.wrap (x.fdiv (2 ^ min (8 : Int).toNat IntKind.u64.bits)),IntKind.u8.wrap x]
def byP (x : Nat × Int) : List Int:=by4 x.2
theorem byP_length (l : List (Nat × Int)) : (l.flatMap byP).length = 4 * l.length:=by
 induction l with
 | nil=>rfl
 | cons a t ih=>simp only [List.flatMap_cons,List.length_append,ih,List.length_cons,byP,by4,List.length_nil]; omega
theorem trimZ_le (l : List Int) : (trimZ l).length ≤ l.length:=by
 unfold trimZ
 rw [List.length_reverse]
 have:=(List.dropWhile_sublist (l:=l.reverse) (· == 0)).length_le
 simpa using this
def wordsT (l : List Int) : List UInt8:=dropZ (byt ((revP (trimZ l)).flatMap byP))
def wideV (neg : Bool) (bs : List UInt8) : Value:=.agg #[vb (neg && decide (bs ≠ [])),txt bs]
theorem Tryz.build94 (a : Bool) (l : List UInt8) (w : World) : (Instr.build 94 #[(0,vb a),(1,txt l)]).run Tryz.prog w = .ok (.agg #[vb a,txt l]) w:=by
 have h1 : (vb a).cells = #[vb a]:=rfl
 have h2 : (txt l).cells = #[txt l]:=rfl
 simp [Instr.build,Instr.fill,h1,h2]
 rfl
theorem natWide_spec (E : World) (g : PH) (s : Own) (v : Value) (l : List Int) (neg : Bool) (hv : SlA encU g v l) (hl : l.length < 1099511627776) :
  Ctr Tryz.prog E 132 #[v,vb neg] g s (fun r g' s'=>r = wideV neg (wordsT l) ∧ s = s' ∧ Le g g'):=by
 have htl:=trimZ_le l
 refine Ctr.ofX (args:=[v,vb neg]) func132 I ntmps132 (bE I) ?_
 refine XC.seq ?_
 refine XC.region ?_
 refine XL.o (aL zeroValue94) dC ?_
 rintro _ _ _ ⟨b4,rfl,rfl,rfl⟩
 refine XL.nil ?_
 refine XT.thenN ?_
 refine XC.seq ?_
 refine XC.region ?_
 refine XL.u (mV I) dC ?_
 refine XL.o (cL call154 I (norm_spec E g _ v l hv hl)) dC ?_
 rintro v10 _ _ ⟨rfl,rfl,hm⟩
 obtain ⟨q,d,rfl⟩:=SlA.form hm
 refine XL.u (aS I) dC ?_
 refine XL.nil ?_
 refine XT.thenN ?_
 refine XC.seq ?_
 refine XC.region ?_
 refine XL.u (mV I) dC ?_
 refine XL.u (eN uT144 I) dC ?_
 refine XL.u (SU.eq (v':=vi ((4 * (trimZ l).length : Nat))) (SU.mul I I oM) (congrArg vi oM)) dC ?_
 refine XL.o (SO.makeC encB sty161 I I oM oM) dC ?_
 rintro v14 _ _ ⟨rfl,rfl⟩
 refine XL.facts fun ⟨w0,hw0⟩=>?_
 obtain ⟨p14,c14,rfl⟩:=rowA_form (i:=0) hw0 rfl
 clear hw0 w0
 refine XL.o (aL zeroValue161) dC ?_
 rintro _ _ _ ⟨b5,rfl,rfl,rfl⟩
 refine XL.on (sK 0 sizeOf161 I I I I I sB) ?_
 rintro _ _ _ ⟨rfl,rfl⟩
 refine XL.nil ?_
 refine XT.thenN ?_
 refine XC.seq ?_
 refine XC.seq ?_
 refine XC.region ?_
 refine XL.u (mV I) dC ?_
 refine XL.o (cL call155 I (backward_spec E _ _ _ I)) dC ?_
 rintro _ g1 _ ⟨rfl,hle,bb,rfl,hbb⟩
 refine XL.nil ?_
 refine XT.thenN ?_
 refine XC.block ?_
 refine XC.to (g':=g1) (s':=rowA encB 5 (.slice p14 0 c14) [] :: pt b5 (.cells #[.slice p14 0 c14] 161 (0,0)) :: pt b4 (.cells #[vb false,txt []] 94 (0,0)) :: s) (fun w hw=>hw.perm (List.Perm.swap _ _ _)) ?_
 refine XC.rangeFunc (α:=Nat × Int) (ι:=Value × List Int) (encs:=fun x=>[vi x.1,.int .u64 x.2]) (xs:=revP (trimZ l)) (g0:=g1) (fun _=>g1) (fun i=>rowA encB 5 i.1 i.2 :: pt b5 (.cells #[i.1] 161 (0,0)) :: pt b4 (.cells #[vb false,txt []] 94 (0,0)) :: []) (fun pre i=>i.2 = pre.flatMap byP) (.slice p14 0 c14,[]) s
  (fun x=>[(18,.int .u64 x.2),(17,vi x.1),(5,pp b5 0)]) (fun _ x _=>[(7,.int .u64 x.2),(5,pp b5 0)]) rfl rfl call183 (fun _=>rfl) rfl rfl (backward_gives E g1 bb _ _ hbb (SlA.mono hm hle) oM) (fun _ _ _=>Le.refl _) rfl
  (fun x a h=>params2 (h.sub (g:=[(5,pp b5 0)]) ⟨rfl,trivial⟩) dC dC) ?_ ?_ ?_
 ·intro k pre x i sx hJ
  refine XC.region ?_
  refine XL.u (aS I) dC ?_
  refine XL.nil ?_
  exact XT.assignEnd sB
 ·rintro k pre ⟨xi,x⟩ suf ⟨bv,bs⟩ sx hxs hJ
  dsimp only at hJ ⊢
  have hpl : pre.length < (trimZ l).length:=by
   have:=congrArg List.length hxs
   rw [revP_length,List.length_append,List.length_cons] at this
   omega
  have hbl : bs.length = 4 * pre.length:=by rw [hJ,byP_length]
  refine XC.facts fun ⟨w0,hw0⟩=>?_
  obtain ⟨q2,d2,rfl⟩:=rowA_form (i:=0) hw0 rfl
  clear hw0 w0
  refine XC.block ?_
  refine XC.region ?_
  refine XL.q (qL (v:=.slice q2 bs.length d2) isAgg161 I (cO 1 I I)) dC ?_
  refine XL.u (mV I) dC ?_
  refine XL.u (SU.shr I I dC) dC ?_
  refine XL.u (SU.convert uT158 uT5 I) dC ?_
  refine XL.u (mV I) dC ?_
  refine XL.u (SU.shr I I dC) dC ?_
  refine XL.u (SU.convert uT158 uT5 I) dC ?_
  refine XL.u (mV I) dC ?_
  refine XL.u (SU.shr I I dC) dC ?_
  refine XL.u (SU.convert uT158 uT5 I) dC ?_
  refine XL.u (mV I) dC ?_
  refine XL.u (SU.convert uT158 uT5 I) dC ?_
  refine XL.o (bS sty161 I I I (szs_mk sB) dC) dC ?_
  rintro _ _ _ ⟨b31,rfl,rfl,rfl⟩
  refine XL.to (fun w hw=>At.litRow (e:=encB) (l:=by4 x) (n:=3) hw I I dC) ?_
  refine XL.o (SO.appendE (m:=4) 1 (bs ++ by4 x).length ((bs ++ by4 x).flatMap encB.enc) sty161 I I I I I (Rd.rowA 0 I) (encB.length (by4 x)) (encB.ones _) (by simp [by4]) (by simp) (by simp [by4]; omega) (by simp [by4]; omega)) dC ?_
  rintro v32 _ _ ⟨rfl,rfl⟩
  refine XL.facts fun ⟨w0,hw0⟩=>?_
  obtain ⟨q3,d3,rfl⟩:=rowA_form (e:=encB) (l:=bs ++ by4 x) (i:=1) hw0 rfl
  clear hw0 w0
  refine XL.on (sK 2 sizeOf161 I I I I I sB) ?_
  rintro _ _ _ ⟨rfl,rfl⟩
  refine XL.nil ?_
  refine XT.blockN ?_
  refine XT.drop (List.sublist_cons_self _ _) ?_
  exact XT.roundEnd (.slice q3 (bs ++ by4 x).length d3,bs ++ by4 x) I I (by dsimp only; rw [List.flatMap_append,hJ]; simp [byP])
 ·rintro D ⟨bv,bs⟩ hJ
  dsimp only at hJ ⊢
  refine XT.facts fun ⟨w0,hw0⟩=>?_
  obtain ⟨q2,d2,rfl⟩:=rowA_form (i:=1) hw0 rfl
  clear hw0 w0
  refine XT.blockN ?_
  refine XT.thenN ?_
  refine XC.seq ?_
  refine XC.region ?_
  refine XL.q (qL (v:=.slice q2 bs.length d2) isAgg161 I (cO 2 I I)) dC ?_
  refine XL.q (SQ.bytesText underlying161 uT5 uT9 I (Rd.rowA 1 I)) dC ?_
  refine XL.o (cL call156 I (trimLeft_spec E g1 _ (byt bs))) dC ?_
  rintro _ _ _ ⟨rfl,rfl,rfl⟩
  refine XL.u (aS I) dC ?_
  refine XL.nil ?_
  refine XT.thenN ?_
  have hbs : dropZ (byt bs) = wordsT l:=by unfold wordsT; rw [hJ]
  rw [hbs]
  generalize wordsT l = T at *
  cases neg
  ·refine XC.seq ?_
   refine XC.region ?_
   refine XL.u (mV I) dC ?_
   refine XL.u (mV I) dC ?_
   refine XL.off (gF I I I dC) dC ?_
   refine XL.off (gF I I I dC) dC ?_
   refine XL.u (pF I I) dC ?_
   refine XL.u (mV I) dC ?_
   refine XL.u (SU.build I (build94 _ _)) dC ?_
   refine XL.on (sK 3 zT94 I I I I I sB) ?_
   rintro _ _ _ ⟨rfl,rfl⟩
   refine XL.nil ?_
   refine XT.thenN ?_
   refine XC.ret ?_
   exact XT.leave1 (.inl I) (ST.retCD 2 s (.inl I) results132 I isAgg94 zT94 I I (.cons _ (.cons _ (.cons _ (.refl _)))) ⟨I,I,hle⟩)
  ·refine XC.seq ?_
   refine XC.region ?_
   refine XL.u (mV I) dC ?_
   refine XL.u (mV I) dC ?_
   refine XL.gu (gT I I I dC) (mV I) dC ?_
   refine XL.gu (gT I I I dC) (SU.neqT I I) dC ?_
   refine XL.u (pT I I) dC ?_
   refine XL.u (mV I) dC ?_
   refine XL.u (SU.build I (build94 _ _)) dC ?_
   refine XL.on (sK 3 zT94 I I I I I sB) ?_
   rintro _ _ _ ⟨rfl,rfl⟩
   refine XL.nil ?_
   refine XT.thenN ?_
   refine XC.ret ?_
   exact XT.leave1 (.inl I) (ST.retCD 2 s (.inl I) results132 I isAgg94 zT94 I I (.cons _ (.cons _ (.cons _ (.refl _)))) ⟨I,I,hle⟩)
open Go Go.Sy Go.Pl Go.Proofs
theorem SU.negK {P : Program} {N : Nat} {f : Fr} {dst : Option Tmp} {ty : TypeId} {pos : String} {af : Array Edge} {gd : Option (Nat × Bool)} {x : Operand} {T : TypeId} {k : IntKind} {n : Int} (hx : ev f x = some (.int k n)) : SU P N ⟨dst,.unOp .neg T x,ty,pos,af,gd⟩ f (.int k (k.wrap (0 - n))):=fun a w ha=>by
 simp only [execOp,ha.ev hx]; rfl
theorem u64w (n : Int) : IntKind.u64.wrap n = n % 18446744073709551616:=by simp [IntKind.wrap,IntKind.bits,IntKind.signed]
theorem mask32 (m : Nat) (h : m < 18446744073709551616) : IntKind.u64.wrap (BitVec.ofInt IntKind.u64.bits (m : Int) &&& BitVec.ofInt IntKind.u64.bits 4294967295).toNat = ((m % 4294967296 : Nat) : Int):=by
 have h1 : (BitVec.ofInt IntKind.u64.bits (m : Int) &&& BitVec.ofInt IntKind.u64.bits 4294967295).toNat = m % 4294967296:=by
  have hb : IntKind.u64.bits = 64:=rfl
  rw [hb,BitVec.toNat_and]
  have e1 : (BitVec.ofInt 64 (m : Int)).toNat = m:=by
   rw [BitVec.toNat_ofInt]
   omega
  have e2 : (BitVec.ofInt 64 4294967295).toNat = 2 ^ 32 - 1:=by decide
  rw [e1,e2,Nat.and_two_pow_sub_one_eq_mod]
 rw [h1]
 exact IntWalk.u64_in _ oM
theorem shr32 (m : Nat) : ((m : Nat) : Int).fdiv (2 ^ min (32 : Int).toNat IntKind.u64.bits) = ((m / 4294967296 : Nat) : Int):=by
 have h1 : ((2 : Int) ^ min (32 : Int).toNat IntKind.u64.bits) = 4294967296:=by decide
 rw [h1,Int.fdiv_eq_ediv_of_nonneg _ dC]
 omega
theorem Tryz.buildE94 (w : World) : (Instr.build 94 #[]).run Tryz.prog w = .ok (.agg #[vb false,txt []]) w:=by
 simp [Instr.build,Instr.fill]
 rfl
def words (n : Int) : List Int:=[((n.natAbs % 4294967296 : Nat) : Int),((n.natAbs / 4294967296 : Nat) : Int)]
theorem from_raw (E : World) (g : PH) (s : Own) (n : Int) (h0 : -9223372036854775808 ≤ n) (h1 : n < 9223372036854775808) :
  Ctr Tryz.prog E 127 #[vi n] g s (fun r g' s'=>r = wideV (decide (n < 0)) (wordsT (words n)) ∧ s = s' ∧ Le g g'):=by
 refine Ctr.of (args:=[vi n]) func127 I ntmps127 (bE I) ?_
 refine SC.sR (SL.bx (aL zeroValue94) fun b2=>?_)
 refine SL.nT (SC.sR (lM I (lU (SU.convert uT3 uT158 I) (lA I (SL.nT ?_)))))
 refine SC.cut (ι:=Unit) (fun _=>[(0,vi n),(2,pp b2 0),(3,.int .u64 (n.natAbs : Int))]) (fun _=>g) (fun _=>pt b2 (.cells #[vb false,txt []] 94 (0,0)) :: s) (fun _=>True) ?_ ?_
 ·refine SC.sR (lM I (lU (lS I I) (SL.nT ?_)))
  refine iP I (fun hn=>?_) (fun hn=>?_)
  ·have hw : IntKind.u64.wrap (0 - IntKind.u64.wrap n) = (n.natAbs : Int):=by
    rw [u64w,u64w]; omega
   refine rG (lM I (lU (SU.negK I) (lA I (nL ?_))))
   exact ST.mid () ⟨rfl,rfl,by rw [← hw]; rfl,trivial⟩ rfl rfl trivial
  ·have hw : IntKind.u64.wrap n = (n.natAbs : Int):=by
    rw [u64w]; omega
   refine kP ?_
   exact ST.mid () ⟨rfl,rfl,by rw [← hw]; rfl,trivial⟩ rfl rfl trivial
 rintro _ -
 try dsimp only
 refine SC.sR (lM I (lU (SU.eq (v':=.int .u64 ((n.natAbs % 4294967296 : Nat) : Int)) (SU.and I I) (congrArg _ (mask32 _ oM))) (lM I (lU (SU.eq (v':=.int .u64 ((n.natAbs / 4294967296 : Nat) : Int)) (SU.shr I I dC) (congrArg _ (shr32 _))) (lW (bS sty144 I I I (szs_mk sB) dC) ?_)))))
 rintro _ _ _ ⟨b14,rfl,rfl,rfl⟩
 refine SL.freeze fun g1 hle1 hb=>?_
 refine lM I (lU (lS I I) (lW (cL call132 I (natWide_spec E g1 _ _ (words n) _ (SlA.lit hb I I) (by simp [words]))) ?_))
 rintro _ g2 _ ⟨rfl,rfl,hle2⟩
 refine SL.O2 (sK 0 zT94 I I I I I sB) ?_
 refine SL.nT (rE ?_)
 exact ST.retCD 0 s (.inl I) results127 I isAgg94 zT94 I I (.cons _ (.refl _)) ⟨I,I,hle1.trans hle2⟩
def hiB (x : Int) : Int:=IntKind.u8.wrap (IntKind.i64.wrap (x.tdiv 256))
def loB (x : Int) : Int:=IntKind.u8.wrap (x.tmod 256)
def bytesD : List Int → List Int
 | []=>[]
 | x :: D=>bytesD D ++ ((if decide (D ≠ []) || decide (x ≥ 256) then [hiB x] else []) ++ [loB x])
theorem bytesD_le : ∀ D : List Int,(bytesD D).length ≤ 2 * D.length
 | []=>by simp [bytesD]
 | x :: D=>by
  have:=bytesD_le D
  simp only [bytesD,List.length_append,List.length_cons,List.length_nil]
  split <;> simp <;> omega
theorem refWide_spec (E : World) (g : PH) (s : Own) (v : Value) (neg : Bool) (l : List Int) (hv : SlA encInt g v l) (hl : l.length < 1099511627776) :
  Ctr Tryz.prog E 177 #[vb neg,v] g s (fun r g' s'=>r = .agg #[vb (neg && decide (trimZ l ≠ [])),txt (byt (bytesD (trimZ l)))] ∧ s = s' ∧ Le g g'):=by
 have htl:=trimZ_le l
 refine Ctr.of (args:=[vb neg,v]) func177 I ntmps177 (bE I) ?_
 refine SC.sR (SL.bx (aL zeroValue94) fun b4=>?_)
 refine SL.nT (SC.sR (lM I (lW (cL call196 I (refTrim_spec E g _ v l hv hl)) ?_)))
 rintro v8 _ _ ⟨rfl,rfl,hm⟩
 obtain ⟨q,d,rfl⟩:=SlA.form hm
 refine lA I (SL.nT (sQ (SC.sR (lM I (lU (eN uT27 I) (lU (eQ I I) (SL.nT ?_)))))))
 generalize trimZ l = t at *
 refine iP I (fun hz=>?_) (fun hz=>?_)
 ·have ht0 : t = []:=List.eq_nil_of_length_eq_zero oM
  subst ht0
  refine SC.sR (lU (SU.build I (buildE94)) (SL.O2 (sK 0 zT94 I I I I I sB) ?_))
  refine SL.nT (rE (tR ?_))
  exact ST.retCD 0 s (.inl I) results177 I isAgg94 zT94 I I (.cons _ (.refl _)) ⟨by cases neg <;> rfl,I,Le.refl g⟩
 ·refine kP (tN (SC.sR (lA I (SL.nT (sQ (SC.sR (lM I (lU (eN uT27 I) (lU (sU I I oM) (lA I (SL.nT (bK (SC.nilRow 5 1 ?_)))))))))))))
  refine oP (ι:=Nat × Value) (fun i=>[(0,vb neg),(1,.slice q t.length d),(4,pp b4 0),(5,i.2),(6,vi ((i.1 : Int) - 1))]) (fun _=>g) (fun i=>rowA encB 5 i.2 (bytesD (t.drop i.1)) :: pt b4 (.cells #[vb false,txt []] 94 (0,0)) :: s) (fun i=>i.1 ≤ t.length) (fun i=>i.1) (t.length,.slice none 0 0)
   sB rfl (by dsimp only; rw [List.drop_length]; rfl) (lR _) ?_
  rintro ⟨n,bv⟩ hn
  dsimp only at hn ⊢
  refine sQ (SC.sR (lM I (lU (gQ I I) (SL.nT ?_))))
  refine iP I (fun hge=>?_) (fun hge=>?_)
  ·have hn1 : n - 1 < t.length:=oM
   have hb1:=SlA.based hm oM
   have hgx : t[((n : Int) - 1).toNat]? = some t[n - 1]:=by rw [show ((n : Int) - 1).toNat = n - 1 by omega]; exact gE hn1
   have hdr : t.drop (n - 1) = t[n - 1] :: t.drop n:=by
    have:=List.drop_eq_getElem_cons hn1
    rwa [show n - 1 + 1 = n by omega] at this
   have hne : decide (t.drop n ≠ []) = decide ((n : Int) - 1 < (t.length : Int) - 1):=by
    rw [decide_eq_decide]
    constructor
    ·intro h
     have:=List.length_pos_iff.2 h
     rw [List.length_drop] at this
     omega
    ·intro h e
     have:=congrArg List.length e
     rw [List.length_drop,List.length_nil] at this
     omega
   have hlb:=bytesD_le (t.drop n)
   rw [List.length_drop] at hlb
   generalize t[n - 1] = x at *
   have hst : bytesD (t.drop (n - 1)) = bytesD (t.drop n) ++ ((if decide ((n : Int) - 1 < (t.length : Int) - 1) || decide (x ≥ 256) then [hiB x] else []) ++ [loB x]):=by rw [hdr,bytesD,hne]
   generalize bytesD (t.drop n) = B at *
   have f1 : (n : Int) - 1 < (t.length : Int) - 1 → (decide ((n : Int) - 1 < (t.length : Int) - 1) || decide (x ≥ 256)) = true:=fun h=>by rw [decide_eq_true h,Bool.true_or]
   have f2 : ¬ (n : Int) - 1 < (t.length : Int) - 1 → (decide ((n : Int) - 1 < (t.length : Int) - 1) || decide (x ≥ 256)) = decide (x ≥ 256):=fun h=>by rw [decide_eq_false h,Bool.false_or]
   refine kP (tN (sQ (bK ?_)))
   refine SC.cut (ι:=Value) (fun i=>[(0,vb neg),(1,.slice q t.length d),(4,pp b4 0),(5,i),(6,vi ((n : Int) - 1))]) (fun _=>g) (fun i=>rowA encB 5 i (B ++ (if decide ((n : Int) - 1 < (t.length : Int) - 1) || decide (x ≥ 256) then [hiB x] else [])) :: pt b4 (.cells #[vb false,txt []] 94 (0,0)) :: s) (fun _=>True) ?_ ?_
   ·refine SC.cutB 31 ((decide ((n : Int) - 1 < (t.length : Int) - 1) || decide (x ≥ 256))) ?_ ?_
    ·refine rG (lM I (lM I (lU (eN uT27 I) (lU (sU I I oM) (lU (lS I I) (lM I ?_))))))
     refine sP ?_ ?_
     ·intro h25
      refine lZ I I I (lZ I I I (lZ I I I (lZ I I I (lZ I I I (lU (pT I I) (nL ?_))))))
      exact ST.mid1 (by (rw [f1 h25]; rfl)) mI
     ·intro h25
      refine lY I I I (mV I) (lY I I I (mV I) (lY I I I (iA uT27 zT3 I I hb1 oM sL) (SL.gq (gT I I I dC) (eB iT3 I (SlA.rd hm) hgx I) dC (lY I I I (gQ I I) (lU (pF I I) (nL ?_))))))
      exact ST.mid1 (by (rw [f2 h25]; rfl)) mI
    refine iQ I (fun hc=>?_) (fun hc=>?_)
    ·refine rG (lM I (lM I (lM I (lU (iA uT27 zT3 I I hb1 oM sL) (lK (eB iT3 I (SlA.rd hm) hgx I) (lU (SU.quo I I dC) (lU (SU.eq (v':=.int .u8 (hiB x)) (SU.convert uT3 uT5 I) I) (lW (bS sty161 I I I (szs_mk sB) dC) ?_))))))))
     rintro _ _ _ ⟨b39,rfl,rfl,rfl⟩
     refine lW (aP (e:=encB) 0 (hiB x) sty161 I I I I I oM oM) ?_
     rintro bv' _ _ ⟨rfl,rfl⟩
     refine lA I (nL ?_)
     exact ST.mid bv' sB rfl (by rw [if_pos hc]; rfl) trivial
    ·refine kP ?_
     exact ST.mid bv sB I (by rw [if_neg (by rw [hc]; simp),List.append_nil]) trivial
   rintro bv2 -
   try dsimp only
   have hB2 : (B ++ (if decide ((n : Int) - 1 < (t.length : Int) - 1) || decide (x ≥ 256) then [hiB x] else [])).length ≤ B.length + 1:=by
    rw [List.length_append]; split <;> simp
   rw [← List.append_assoc] at hst
   generalize (B ++ (if decide ((n : Int) - 1 < (t.length : Int) - 1) || decide (x ≥ 256) then [hiB x] else [])) = B2 at *
   refine rG (lM I (lM I (lM I (lU (iA uT27 zT3 I I hb1 oM sL) (lK (eB iT3 I (SlA.rd hm) hgx I) (lU (SU.rem I I dC) (lU (SU.eq (v':=.int .u8 (loB x)) (SU.convert uT3 uT5 I) I) (lW (bS sty161 I I I (szs_mk sB) dC) ?_))))))))
   rintro _ _ _ ⟨b48,rfl,rfl,rfl⟩
   refine lW (aP (e:=encB) 0 (loB x) sty161 I I I I I oM oM) ?_
   rintro bv3 _ _ ⟨rfl,rfl⟩
   refine lA I (nL (bN (tN (rG (lM I (lU (sU I I oM) (lA I (nL ?_))))))))
   exact gA (n - 1,bv3) ⟨rfl,rfl,rfl,rfl,getVi rfl oM,trivial⟩ rfl (by dsimp only; rw [hst]; rfl) (by dsimp only; omega) (by dsimp only; omega)
  ·have hn0 : n = 0:=oM
   subst hn0
   refine SC.facts fun ⟨w0,hw0⟩=>?_
   obtain ⟨q2,d2,rfl⟩:=rowA_form (i:=0) hw0 rfl
   clear hw0 w0
   rw [List.drop_zero] at *
   refine xI (tX (tX (bX (tN (SC.sR (lM I (lM I (lK (SQ.bytesText underlying161 uT5 uT9 I (Rd.rowA 0 I)) (lU (SU.build I (build94 _ _)) (SL.O2 (sK 1 zT94 I I I I I sB) ?_))))))))))
   refine SL.nT (rE ?_)
   exact ST.retCD 1 s (.inl rfl) results177 rfl isAgg94 zT94 rfl rfl (.cons _ (.cons _ (.refl _))) ⟨by rw [show decide (t ≠ []) = true from decide_eq_true (fun e : t = []=>hz (by rw [e]; rfl)),Bool.and_true]; rfl,rfl,Le.refl g⟩
def digs (m : Nat) : List Int:=if h : m = 0 then [] else ((m % 65536 : Nat) : Int) :: digs (m / 65536)
termination_by m
decreasing_by omega
theorem digs_zero : digs 0 = []:=by unfold digs; rfl
theorem digs_pos {m : Nat} (h : m ≠ 0) : digs m = ((m % 65536 : Nat) : Int) :: digs (m / 65536):=by rw [digs,dif_neg h]
theorem digs_length : ∀ (k m : Nat),m < 65536 ^ k → (digs m).length ≤ k
 | 0,m,h=>by
  have : m = 0:=by simpa using h
  subst this; rw [digs_zero]; simp
 | k + 1,m,h=>by
  by_cases h0 : m = 0
  ·subst h0; rw [digs_zero]; simp
  ·rw [digs_pos h0,List.length_cons]
   have:=digs_length k (m / 65536) (by rw [Nat.div_lt_iff_lt_mul dC]; rwa [Nat.pow_succ] at h)
   omega
theorem digs_trim (m : Nat) : trimZ (digs m) = digs m:=by
 have key : ∀ m,digs m = [] ∨ ∃ a x,digs m = a ++ [x] ∧ x ≠ 0:=by
  intro m
  induction m using Nat.strongRecOn with
  | _ m ih =>
   by_cases h0 : m = 0
   ·left; subst h0; exact digs_zero
   ·right
    rw [digs_pos h0]
    rcases ih (m / 65536) oM with h | ⟨a,x,h,hx⟩
    ·refine ⟨[],_,by rw [h]; rfl,?_⟩
     by_cases h1 : m / 65536 = 0
     ·omega
     ·rw [digs_pos h1] at h; cases h
    ·exact ⟨_ :: a,x,by rw [h]; rfl,hx⟩
 rcases key m with h | ⟨a,x,h,hx⟩
 ·rw [h]; rfl
 ·rw [h]; simp [trimZ,hx]
theorem refFrom_raw (E : World) (g : PH) (s : Own) (n : Int) (h0 : -9223372036854775808 ≤ n) (h1 : n < 9223372036854775808) :
  Ctr Tryz.prog E 148 #[vi n] g s (fun r g' s'=>r = .agg #[vb (decide (n < 0) && decide (digs n.natAbs ≠ [])),txt (byt (bytesD (digs n.natAbs)))] ∧ s = s' ∧ Le g g'):=by
 have hdl:=digs_length 4 n.natAbs oM
 refine Ctr.of (args:=[vi n]) func148 I ntmps148 (bE I) ?_
 refine SC.sR (SL.bx (aL zeroValue94) fun b2=>?_)
 refine SL.nT (SC.sR (lA I (SL.nT (SC.sR (lM I (lU (SU.convert uT3 uT158 I) (lA I (SL.nT ?_))))))))
 refine SC.cut (ι:=Unit) (fun _=>[(0,vi n),(2,pp b2 0),(3,.slice none 0 0),(4,.int .u64 (n.natAbs : Int))]) (fun _=>g) (fun _=>pt b2 (.cells #[vb false,txt []] 94 (0,0)) :: s) (fun _=>True) ?_ ?_
 ·refine SC.sR (lM I (lU (lS I I) (SL.nT ?_)))
  refine iP I (fun hn=>?_) (fun hn=>?_)
  ·have hw : IntKind.u64.wrap (0 - IntKind.u64.wrap n) = (n.natAbs : Int):=by
    rw [u64w,u64w]; omega
   refine rG (lM I (lU (SU.negK I) (lA I (nL ?_))))
   exact ST.mid () ⟨rfl,rfl,rfl,by rw [← hw]; rfl,trivial⟩ rfl rfl trivial
  ·have hw : IntKind.u64.wrap n = (n.natAbs : Int):=by
    rw [u64w]; omega
   refine kP ?_
   exact ST.mid () ⟨rfl,rfl,rfl,by rw [← hw]; rfl,trivial⟩ rfl rfl trivial
 rintro _ -
 try dsimp only
 refine sQ (bK (SC.nilRow 3 1 ?_))
 refine oP (ι:=Nat × Value × List Int) (fun i=>[(0,vi n),(2,pp b2 0),(3,i.2.1),(4,.int .u64 (i.1 : Int))]) (fun _=>g) (fun i=>rowA encInt 3 i.2.1 i.2.2 :: pt b2 (.cells #[vb false,txt []] 94 (0,0)) :: s) (fun i=>i.2.2 ++ digs i.1 = digs n.natAbs ∧ i.1 ≤ n.natAbs) (fun i=>i.1) (n.natAbs,.slice none 0 0,[])
  sB rfl rfl ⟨rfl,lR _⟩ ?_
 rintro ⟨m,bv,D⟩ ⟨hD,hm⟩
 dsimp only at hD hm ⊢
 have hDl : D.length ≤ 4:=by have:=congrArg List.length hD; rw [List.length_append] at this; omega
 refine sQ (SC.sR (lM I (lU (gR I I) (SL.nT ?_))))
 refine iP I (fun hpos=>?_) (fun hpos=>?_)
 ·have hm0 : m ≠ 0:=oM
  have hds:=digs_pos hm0
  refine kP (tN (bK (SC.sR (lM I (lM I (lU (SU.rem I I dC) (lU (SU.eq (v':=vi ((m % 65536 : Nat) : Int)) (SU.convert uT158 uT3 I) (congrArg vi (by rw [show ((m : Int)).tmod 65536 = ((m % 65536 : Nat) : Int) by rw [Int.tmod_eq_emod_of_nonneg oM]; omega]; exact IntWalk.i64_in _ oM))) ?_)))))))
  refine lW (bS sty27 I I I (szs_mk sB) dC) ?_
  rintro _ _ _ ⟨b17,rfl,rfl,rfl⟩
  refine lW (aP (e:=encInt) 0 ((m % 65536 : Nat) : Int) sty27 I I I I I oM oM) ?_
  rintro bv' _ _ ⟨rfl,rfl⟩
  refine lA I (SL.nT (rG (lM I (lU (SU.eq (v':=.int .u64 ((m / 65536 : Nat) : Int)) (SU.quo I I dC) (congrArg _ (by rw [show ((m : Int)).tdiv 65536 = ((m / 65536 : Nat) : Int) by rw [Int.tdiv_eq_ediv_of_nonneg oM]; omega]; exact IntWalk.u64_in _ oM))) ?_))))
  refine lA I (nL (bN ?_))
  exact gA (m / 65536,bv',D ++ [((m % 65536 : Nat) : Int)]) sB I I ⟨by dsimp only; rw [← hD,hds]; simp,by dsimp only; omega⟩ (by dsimp only; omega)
 ·have hm0 : m = 0:=oM
  subst hm0
  rw [digs_zero,List.append_nil] at hD
  subst hD
  refine xI (tX (tX (bX (tN (sQ (fS fun g1 hle1 hs1=>?_))))))
  refine rG (lM I (lU (lS I I) (lM I (lW (cL call177 I (refWide_spec E g1 _ bv _ (digs n.natAbs) hs1 oM)) ?_))))
  rintro _ g2 _ ⟨rfl,rfl,hle2⟩
  refine SL.O2 (sK 0 zT94 I I I I I sB) ?_
  refine SL.nT (rE ?_)
  exact ST.retCD 0 s (.inl rfl) results148 rfl isAgg94 zT94 rfl rfl (.cons _ (.refl _)) ⟨by rw [digs_trim]; rfl,rfl,hle1.trans hle2⟩
theorem ofNat_congr {a b : Nat} (h : a % 256 = b % 256) : UInt8.ofNat a = UInt8.ofNat b:=by
 apply UInt8.toNat.inj
 simpa using h
theorem u8w (k : Nat) : IntKind.u8.wrap (k : Int) = ((k % 256 : Nat) : Int):=by simp [IntKind.wrap,IntKind.bits,IntKind.signed]
theorem ofNat_u8 (k : Nat) : UInt8.ofNat (IntKind.u8.wrap (k : Int)).toNat = UInt8.ofNat k:=by
 rw [u8w,Int.toNat_natCast]; exact ofNat_congr oM
theorem fdiv_nat (k e : Nat) : (k : Int).fdiv ((e : Nat) : Int) = ((k / e : Nat) : Int):=by
 rw [Int.fdiv_eq_ediv_of_nonneg _ oM]; simp
theorem byt_by4 (k : Nat) : byt (by4 (k : Int)) = [UInt8.ofNat (k / 16777216),UInt8.ofNat (k / 65536),UInt8.ofNat (k / 256),UInt8.ofNat k]:=by
 have h1 : ((2 : Int) ^ min (24 : Int).toNat IntKind.u64.bits) = ((16777216 : Nat) : Int):=by decide
 have h2 : ((2 : Int) ^ min (16 : Int).toNat IntKind.u64.bits) = ((65536 : Nat) : Int):=by decide
 have h3 : ((2 : Int) ^ min (8 : Int).toNat IntKind.u64.bits) = ((256 : Nat) : Int):=by decide
 unfold by4
 rw [h1,h2,h3,fdiv_nat,fdiv_nat,fdiv_nat]
 simp only [byt,List.map_cons,List.map_nil,ofNat_u8]
def beK : Nat → Nat → List UInt8
 | 0,_=>[]
 | k + 1,m=>beK k (m / 65536) ++ [UInt8.ofNat (m / 256),UInt8.ofNat m]
def magB (m : Nat) : List UInt8:=dropZ (beK 4 m)
theorem beK_zero : ∀ k,dropZ (beK k 0) = []
 | 0=>rfl
 | k + 1=>by
  have ih:=beK_zero k
  unfold dropZ at *
  rw [beK,List.dropWhile_append,ih]
  rfl
theorem ofNat_ne {a : Nat} (h0 : a ≠ 0) (h : a < 256) : UInt8.ofNat a ≠ 0:=fun e=>by
 have:=congrArg UInt8.toNat e
 simp at this
 omega
theorem digs_bytes : ∀ (k m : Nat),m < 65536 ^ k → byt (bytesD (digs m)) = dropZ (beK k m)
 | 0,m,h=>by
  have : m = 0:=by simpa using h
  subst this; rw [digs_zero]; rfl
 | k + 1,m,h=>by
  by_cases h0 : m = 0
  ·subst h0; rw [digs_zero,beK_zero]; rfl
  ·have ih:=digs_bytes k (m / 65536) (by rw [Nat.div_lt_iff_lt_mul dC]; rwa [Nat.pow_succ] at h)
   rw [digs_pos h0,beK]
   have hlo : UInt8.ofNat (loB ((m % 65536 : Nat) : Int)).toNat = UInt8.ofNat m:=by
    unfold loB
    rw [show (((m % 65536 : Nat) : Int)).tmod 256 = ((m % 65536 % 256 : Nat) : Int) by rw [Int.tmod_eq_emod_of_nonneg oM]; omega,ofNat_u8]
    exact ofNat_congr oM
   have hhi : UInt8.ofNat (hiB ((m % 65536 : Nat) : Int)).toNat = UInt8.ofNat (m % 65536 / 256):=by
    unfold hiB
    rw [show (((m % 65536 : Nat) : Int)).tdiv 256 = ((m % 65536 / 256 : Nat) : Int) by rw [Int.tdiv_eq_ediv_of_nonneg oM]; omega,IntWalk.i64_in _ oM,ofNat_u8]
   by_cases h1 : m / 65536 = 0
   ·rw [h1,digs_zero]
    have hz:=beK_zero k
    unfold dropZ at *
    rw [List.dropWhile_append,hz]
    have hm : m % 65536 = m:=oM
    rw [hm] at hlo hhi ⊢
    simp only [bytesD,List.nil_append,ne_eq,not_true_eq_false,decide_false,Bool.false_or,List.isEmpty_nil,if_true]
    by_cases h2 : (m : Int) ≥ 256
    ·have hne : (UInt8.ofNat (m / 256) == 0) = false:=by simpa using ofNat_ne (a:=m / 256) oM oM
     rw [decide_eq_true h2,if_pos rfl,List.dropWhile_cons,hne]
     simp only [byt,List.map_append,List.map_cons,List.map_nil,hlo,hhi]
     rfl
    ·have hq : m / 256 = 0:=oM
     have hne : (UInt8.ofNat m == 0) = false:=by simpa using ofNat_ne (a:=m) h0 oM
     rw [decide_eq_false h2,if_neg (by simp),hq,List.dropWhile_cons,show (UInt8.ofNat 0 == 0) = true from rfl,if_pos rfl,List.dropWhile_cons,hne]
     simp only [byt,List.nil_append,List.map_cons,List.map_nil,hlo]
     rfl
   ·have hD : digs (m / 65536) ≠ []:=by rw [digs_pos h1]; simp
    have hne : byt (bytesD (digs (m / 65536))) ≠ []:=by
     rw [digs_pos h1]
     simp [byt,bytesD]
    have hq : UInt8.ofNat (m % 65536 / 256) = UInt8.ofNat (m / 256):=ofNat_congr oM
    rw [ih] at hne
    unfold dropZ at *
    rw [List.dropWhile_append]
    have he : (List.dropWhile (fun x=>x == 0) (beK k (m / 65536))).isEmpty = false:=by simpa using hne
    rw [he]
    simp only [bytesD,Bool.false_eq_true,if_false]
    rw [decide_eq_true hD,Bool.true_or,if_pos rfl]
    rw [← ih]
    simp only [byt,List.map_append,List.map_cons,List.map_nil,hlo,hhi,hq]
    rfl
theorem trimZ1 {a : Int} (h : a ≠ 0) : trimZ [a,0] = [a]:=by simp [trimZ,h]
theorem trimZ2 {a b : Int} (h : b ≠ 0) : trimZ [a,b] = [a,b]:=by simp [trimZ,h]
theorem words_bytes (n : Int) (h : n.natAbs < 18446744073709551616) : wordsT (words n) = magB n.natAbs:=by
 obtain ⟨m,hm⟩ : ∃ m,m = n.natAbs:=⟨_,rfl⟩
 unfold words
 rw [← hm] at h ⊢
 have hlo:=byt_by4 (m % 4294967296)
 have hhi:=byt_by4 (m / 4294967296)
 have hbe : beK 4 m = [UInt8.ofNat (m / 4294967296 / 16777216),UInt8.ofNat (m / 4294967296 / 65536),UInt8.ofNat (m / 4294967296 / 256),UInt8.ofNat (m / 4294967296),UInt8.ofNat (m % 4294967296 / 16777216),UInt8.ofNat (m % 4294967296 / 65536),UInt8.ofNat (m % 4294967296 / 256),UInt8.ofNat (m % 4294967296)]:=by
  simp only [beK,List.nil_append,List.cons_append]
  refine congr (congrArg List.cons ?_) (congr (congrArg List.cons ?_) (congr (congrArg List.cons ?_) (congr (congrArg List.cons ?_) (congr (congrArg List.cons ?_) (congr (congrArg List.cons ?_) (congr (congrArg List.cons ?_) (congr (congrArg List.cons ?_) I)))))))
  all_goals exact ofNat_congr oM
 unfold magB wordsT
 rw [hbe]
 by_cases h1 : m / 4294967296 = 0
 ·by_cases h2 : m % 4294967296 = 0
  ·rw [h1,h2]; rfl
  ·have ht : trimZ [((m % 4294967296 : Nat) : Int),((m / 4294967296 : Nat) : Int)] = [((m % 4294967296 : Nat) : Int)]:=by
    rw [h1]
    exact trimZ1 oM
   rw [ht]
   show dropZ (byt (by4 _ ++ [])) = _
   rw [List.append_nil,hlo,h1]
   rfl
 ·have ht : trimZ [((m % 4294967296 : Nat) : Int),((m / 4294967296 : Nat) : Int)] = [((m % 4294967296 : Nat) : Int),((m / 4294967296 : Nat) : Int)]:=by
   exact trimZ2 oM
  rw [ht]
  show dropZ (byt (by4 _ ++ (by4 _ ++ []))) = _
  rw [List.append_nil]
  have : byt (by4 ((m / 4294967296 : Nat) : Int) ++ by4 ((m % 4294967296 : Nat) : Int)) = byt (by4 ((m / 4294967296 : Nat) : Int)) ++ byt (by4 ((m % 4294967296 : Nat) : Int)):=by simp [byt]
  rw [this,hhi,hlo]
  rfl
def wideN (n : Int) : Value:=wideV (decide (n < 0)) (magB n.natAbs)
theorem from_spec (E : World) (g : PH) (s : Own) (n : Int) (h0 : -9223372036854775808 ≤ n) (h1 : n < 9223372036854775808) :
  Ctr Tryz.prog E 127 #[vi n] g s (fun r g' s'=>r = wideN n ∧ s = s' ∧ Le g g') :=
 (from_raw E g s n h0 h1).mono fun _ _ _ ⟨h2,h3⟩=>⟨by rw [h2,words_bytes _ oM]; rfl,h3⟩
theorem digs_nil (m : Nat) : decide (digs m ≠ []) = decide (m ≠ 0):=by
 rw [decide_eq_decide]
 by_cases h : m = 0
 ·subst h; rw [digs_zero]; simp
 ·rw [digs_pos h]; simp [h]
theorem magB_nil {m : Nat} (h : m < 18446744073709551616) : decide (magB m ≠ []) = decide (m ≠ 0):=by
 rw [show magB m = byt (bytesD (digs m)) from (digs_bytes 4 m oM).symm,decide_eq_decide]
 by_cases h0 : m = 0
 ·subst h0; rw [digs_zero]; simp [bytesD,byt]
 ·rw [digs_pos h0]; simp [h0,bytesD,byt]
theorem refFrom_spec (E : World) (g : PH) (s : Own) (n : Int) (h0 : -9223372036854775808 ≤ n) (h1 : n < 9223372036854775808) :
  Ctr Tryz.prog E 148 #[vi n] g s (fun r g' s'=>r = wideN n ∧ s = s' ∧ Le g g') :=
 (refFrom_raw E g s n h0 h1).mono fun _ _ _ ⟨h2,h3⟩=>⟨by
  rw [h2,digs_bytes 4 _ oM,digs_nil]
  unfold wideN wideV
  rw [magB_nil oM]
  rfl,h3⟩
def encW : Enc (Bool × List UInt8) 2:=⟨fun p=>[vb p.1,txt p.2],fun _=>rfl,fun _ u hu=>by simp at hu; rcases hu with rfl | rfl <;> rfl,by decide⟩
def wd (n : Int) : Bool × List UInt8:=(decide (n < 0) && decide (magB n.natAbs ≠ []),magB n.natAbs)
theorem Tryz.sty53 : STy Tryz.prog 53 94 2 24 (.agg #[vb false,txt []]):=⟨underlying53,⟨t94,by kernel_rfl,by kernel_rfl,by kernel_rfl,by kernel_rfl⟩,rfl,by decide⟩
def MatR (g : PH) (v : Value) (m : Nat × Nat × List Int) : Prop:=∃ p c,v = .agg #[vi m.1,vi m.2.1,.slice p m.2.2.length c] ∧ SlA encW g (.slice p m.2.2.length c) (m.2.2.map wd)
theorem MatR.mono {g g' : PH} {v : Value} {m : Nat × Nat × List Int} (h : MatR g v m) (hl : Le g g') : MatR g' v m:=by
 obtain ⟨p,c,h1,h2⟩:=h
 exact ⟨p,c,h1,SlA.mono h2 hl⟩
theorem SU.minI {P : Program} {N : Nat} {f : Fr} {dst : Option Tmp} {ty : TypeId} {pos : String} {af : Array Edge} {gd : Option (Nat × Bool)} {x y : Operand} {T U : TypeId} {m n : Int} (hx : ev f x = some (vi m)) (hy : ev f y = some (vi n)) :
  SU P N ⟨dst,.call ⟨.builtin .min,#[x,y],#[T,U]⟩,ty,pos,af,gd⟩ f (vi (min m n)):=fun a w ha=>by
 have h:=run_min_int2 (P:=P) (w:=w) #[T,U] ty .i64 .i64 m n
 have h2 : (if n < m then n else m) = min m n:=by split <;> omega
 rw [h2] at h
 simp [execOp,resolve,invoke,builtin,ha.ev hx,ha.ev hy,h]
theorem fits_spec (E : World) (g : PH) (s : Own) (r c : Nat) (hr : r ≤ 200) (hc : c ≤ 200) :
  Ctr Tryz.prog E 81 #[vi r,vi c] g s (fun x g' s'=>x = vb true ∧ g = g' ∧ s = s'):=by
 refine Ctr.of (args:=[vi r,vi c]) func81 I ntmps81 (bE I) ?_
 refine SC.sR (lA I (SL.nT (SC.sR (lM I (lM I (lU (SU.minI I I) (lU (SU.eq (v':=vb true) (gQ I I) (congrArg vb (decide_eq_true oM))) (lM I (lY I I I (mV I) (lY I I I (mV I) (lY I I I (SU.maxI I I) (lY I I I (SU.eq (v':=vb true) (SU.leq I I) (congrArg vb (decide_eq_true oM))) (lU (pT I I) (lA I (SL.nT (rE ?_))))))))))))))))
 exact ST.ret1 (.inl I) results81 I ⟨I,I,I⟩
theorem refFits_spec (E : World) (g : PH) (s : Own) (r c : Nat) (hr : r ≤ 200) (hc : c ≤ 200) :
  Ctr Tryz.prog E 123 #[vi r,vi c] g s (fun x g' s'=>x = vb true ∧ g = g' ∧ s = s'):=by
 refine Ctr.of (args:=[vi r,vi c]) func123 I ntmps123 (bE I) ?_
 refine SC.sR (lA I (SL.nT (SC.sR (lM I (lU (SU.eq (v':=vb true) (gQ I I) (congrArg vb (decide_eq_true oM))) (lM I (lY I I I (mV I) (lY I I I (SU.eq (v':=vb true) (gQ I I) (congrArg vb (decide_eq_true oM))) (lU (pT I I) (lM I (lY I I I (mV I) (lY I I I (SU.eq (v':=vb true) (SU.leq I I) (congrArg vb (decide_eq_true oM))) (lU (pT I I) (lM I (lY I I I (mV I) (lY I I I (SU.eq (v':=vb true) (SU.leq I I) (congrArg vb (decide_eq_true oM))) (lU (pT I I) (lA I (SL.nT (rE ?_))))))))))))))))))))
 exact ST.ret1 (.inl I) results123 I ⟨I,I,I⟩
theorem Tryz.build55 (r c : Int) (p : Option Addr) (n k : Nat) (w : World) : (Instr.build 55 #[(0,vi r),(1,vi c),(2,.slice p n k)]).run Tryz.prog w = .ok (.agg #[vi r,vi c,.slice p n k]) w:=by
 have h1 : ∀ n,(vi n).cells = #[vi n]:=fun _=>rfl
 have h2 : (Value.slice p n k).cells = #[.slice p n k]:=rfl
 simp [Instr.build,Instr.fill,h1,h2]
 rfl
theorem mul_le {r c : Nat} (hr : r ≤ 200) (hc : c ≤ 200) : r * c ≤ 40000:=Nat.mul_le_mul hr hc
theorem zero_own (E : World) (g : PH) (s : Own) (r c : Nat) (hr : r ≤ 200) (hc : c ≤ 200) :
  Ctr Tryz.prog E 25 #[vi r,vi c] g s (fun x g' s'=>g = g' ∧ ∃ p k,x = .agg #[vi r,vi c,.slice p (r * c) k] ∧ s' = rowA encW 94 (.slice p (r * c) k) (List.replicate (r * c) (wd 0)) :: s):=by
 have hm:=mul_le hr hc
 refine Ctr.of (args:=[vi r,vi c]) func25 I ntmps25 (bE I) ?_
 refine SC.sR (SL.bx (aL zeroValue55) fun b4=>?_)
 refine SL.nT (sQ (SC.sR (lM I (lM I (lW (cL call81 I (fits_spec E g _ r c hr hc)) ?_)))))
 rintro _ _ _ ⟨rfl,rfl,rfl⟩
 refine lU (SU.not I) (SL.nT (cF I (kP (tN (SC.sR (lM I (lM I (lM I (lM I (lU (SU.eq (v':=vi ((r * c : Nat))) (SU.mulW I I) (congrArg vi (by rw [← Int.natCast_mul]; exact IntWalk.i64_in _ oM))) ?_))))))))))
 refine lW (mK encW (wd 0) sty53 I I I oM oM) ?_
 rintro _ _ _ ⟨b15,rfl,rfl,rfl⟩
 refine lU (SU.build I (build55 _ _ _ _ _)) (SL.O2 (sK 1 zT55 I I I I I sB) ?_)
 refine SL.nT (rE ?_)
 exact ST.retCD 1 _ (.inl I) results25 I iT55 zT55 I I (.cons_cons _ (.cons _ (.refl _))) ⟨I,_,_,I,I⟩
theorem refZero_own (E : World) (g : PH) (s : Own) (r c : Nat) (hr : r ≤ 200) (hc : c ≤ 200) :
  Ctr Tryz.prog E 147 #[vi r,vi c] g s (fun x g' s'=>g = g' ∧ ∃ p k,x = .agg #[vi r,vi c,.slice p (r * c) k] ∧ s' = rowA encW 94 (.slice p (r * c) k) (List.replicate (r * c) (wd 0)) :: s):=by
 have hm:=mul_le hr hc
 refine Ctr.of (args:=[vi r,vi c]) func147 I ntmps147 (bE I) ?_
 refine SC.sR (SL.bx (aL zeroValue55) fun b4=>?_)
 refine SL.nT (SC.sR (lM I (lM I (lW (cL call123 I (refFits_spec E g _ r c hr hc)) ?_))))
 rintro _ _ _ ⟨rfl,rfl,rfl⟩
 refine lA I (SL.nT (sQ (SC.sR (lM I (lU (SU.not I) (SL.nT (cF I (kP (tN (SC.sR (lM I (lM I (lM I (lM I (lU (SU.eq (v':=vi ((r * c : Nat))) (SU.mulW I I) (congrArg vi (by rw [← Int.natCast_mul]; exact IntWalk.i64_in _ oM))) ?_)))))))))))))))
 refine lW (mK encW (wd 0) sty53 I I I oM oM) ?_
 rintro _ _ _ ⟨b17,rfl,rfl,rfl⟩
 refine lU (SU.build I (build55 _ _ _ _ _)) (SL.O2 (sK 1 zT55 I I I I I sB) ?_)
 refine SL.nT (rE ?_)
 exact ST.retCD 1 _ (.inl I) results147 I iT55 zT55 I I (.cons_cons _ (.cons _ (.refl _))) ⟨I,_,_,I,I⟩
theorem wideN_cells (z : Int) : (wideN z).cells.toList = encW.enc (wd z):=rfl
structure Rows (ls : List (List Int)) (C : Nat) : Prop where
 len : ∀ l ∈ ls,l.length = C
 small : ∀ l ∈ ls,∀ n ∈ l,-9223372036854775808 ≤ n ∧ n < 9223372036854775808
 pos : 0 < ls.length
 rows : ls.length ≤ 200
 cols : C ≤ 200
theorem flat_len {ls : List (List Int)} {C : Nat} (h : ∀ l ∈ ls,l.length = C) : ls.flatten.length = ls.length * C:=by
 induction ls with
 | nil=>simp
 | cons a t ih =>
  rw [List.flatten_cons,List.length_append,ih fun l hl=>h l (by simp [hl]),h a (by simp),List.length_cons,Nat.succ_mul,Nat.add_comm]
def partE (ls : List (List Int)) (C i j : Nat) (r : List Int) : List (Bool × List UInt8):=((ls.take i).flatten ++ r.take j).map wd ++ List.replicate (ls.length * C - (i * C + j)) (wd 0)
theorem partE_zero (ls : List (List Int)) (C : Nat) (r : List Int) : partE ls C 0 0 r = List.replicate (ls.length * C) (wd 0):=by simp [partE]
theorem take_len {ls : List (List Int)} {C i : Nat} (h : ∀ l ∈ ls,l.length = C) (hi : i ≤ ls.length) : (ls.take i).flatten.length = i * C:=by
 rw [flat_len (C:=C) fun l hl=>h l (List.mem_of_mem_take hl),List.length_take,Nat.min_eq_left hi]
theorem idx_lt {R C i j : Nat} (hi : i < R) (hj : j < C) : i * C + j < R * C:=by
 have : (i + 1) * C ≤ R * C:=Nat.mul_le_mul_right C hi
 rw [Nat.succ_mul] at this
 omega
theorem partE_length {ls : List (List Int)} {C i j : Nat} {r : List Int} (h : ∀ l ∈ ls,l.length = C) (hi : i < ls.length) (hr : r.length = C) (hj : j ≤ C) : (partE ls C i j r).length = ls.length * C:=by
 have h1:=take_len h (Nat.le_of_lt hi)
 have h2 : i * C + j ≤ ls.length * C:=by
  have : (i + 1) * C ≤ ls.length * C:=Nat.mul_le_mul_right C hi
  rw [Nat.succ_mul] at this
  omega
 unfold partE
 rw [List.length_append,List.length_map,List.length_append,h1,List.length_take,List.length_replicate,hr,Nat.min_eq_left hj]
 omega
theorem partE_set {ls : List (List Int)} {C i j : Nat} {r : List Int} (h : ∀ l ∈ ls,l.length = C) (hi : i < ls.length) (hr : r.length = C) (hj : j < C) : (partE ls C i j r).set (i * C + j) (wd (r[j]'oM)) = partE ls C i (j + 1) r:=by
 have h1:=take_len h (Nat.le_of_lt hi)
 have hlt:=idx_lt hi hj
 unfold partE
 rw [show ls.length * C - (i * C + j) = (ls.length * C - (i * C + (j + 1))) + 1 by omega,List.replicate_succ]
 rw [set_mid (by rw [List.length_map,List.length_append,h1,List.length_take,hr]; omega)]
 rw [tS (by omega : j < r.length)]
 simp only [List.map_append,List.map_cons,List.map_nil,List.append_assoc,List.cons_append,List.nil_append]
theorem partE_row {ls : List (List Int)} {C i : Nat} (h : ∀ l ∈ ls,l.length = C) (hi : i < ls.length) (r : List Int) : partE ls C i C ls[i] = partE ls C (i + 1) 0 r:=by
 unfold partE
 rw [tL (l:=ls[i]) (by rw [h _ (gM hi)]; exact lR _),tS hi,List.flatten_append]
 simp [Nat.succ_mul]
theorem partE_all {ls : List (List Int)} {C : Nat} (h : ∀ l ∈ ls,l.length = C) (r : List Int) : partE ls C ls.length 0 r = ls.flatten.map wd:=by
 unfold partE
 simp
theorem of_mat (E : World) (g : PH) (s : Own) (v : Value) (ls : List (List Int)) (C : Nat) (hv : Lists g v ls) (h : Rows ls C) :
  Ctr Tryz.prog E 72 #[v] g s (fun x g' s'=>s = s' ∧ Le g g' ∧ MatR g' x (ls.length,C,ls.flatten)):=by
 obtain ⟨rs,hrs,hall⟩:=hv
 have hrl:=hall.length
 have hpos:=h.pos
 have hR:=h.rows
 have hC:=h.cols
 have hm:=mul_le hR hC
 obtain ⟨p,c,rfl⟩:=SlA.form hrs
 rw [← hrl] at hrs ⊢
 refine Ctr.of (args:=[.slice p ls.length c]) func72 I ntmps72 (bE I) ?_
 refine SC.sR (SL.bx (aL zeroValue55) fun b2=>?_)
 refine SL.nT (SC.sR (lA I (SL.nT (sQ (SC.sR (lM I (lU (eN uT22 I) (lM I (SL.nT (bK ?_))))))))))
 refine oP (ι:=Nat) (fun i=>[(0,.slice p ls.length c),(2,pp b2 0),(3,vi (if i = 0 then 0 else (C : Int))),(11,.slice p ls.length c),(12,vi ls.length),(13,vi i)]) (fun _=>g) (fun _=>pt b2 (.cells #[vi 0,vi 0,.slice none 0 0] 55 (0,0)) :: s) (fun i=>i ≤ ls.length) (fun i=>ls.length - i) 0
  sB rfl rfl (Nat.zero_le _) ?_
 rintro i hi
 refine SC.sR (lU (lS I I) (SL.nT (sQ ?_)))
 refine iP I (fun hlt=>?_) (fun hlt=>?_)
 ·have hil : i < rs.length:=oM
  have hils : i < ls.length:=oM
  have hb1:=SlA.based hrs oM
  have hgx : rs[((i : Nat) : Int).toNat]? = some rs[i]:=gE hil
  have hrn : rs[i].n = C:=by rw [(hall.get (gE hils) (gE hil)).len]; exact h.len _ (gM hils)
  generalize rs[i] = r at *
  obtain ⟨rp,rn,rc⟩:=r
  dsimp only at hrn
  subst hrn
  refine kP (tN (sQ (bK (SC.sR (lU (iA uT22 zT27 I I hb1 oM sL) (lK (eB (u:=.slice rp rn rc) iT27 I (SlA.rd hrs) hgx I) (lA I (SL.nT (rG (lM I (lM I (lU (eN uT27 I) (lU (SU.eq (v':=vi (rn : Int)) (SU.maxI I I) (congrArg vi (by split <;> omega))) ?_)))))))))))))
  refine lA I (nL (bN (tN (rG (lU (aD I I oM) (lM I (nL ?_)))))))
  exact gA (i + 1) ⟨I,I,getVi I (by rw [if_neg oM]),I,I,I,trivial⟩ I I oM oM
 ·have hil : i = ls.length:=oM
  subst hil
  rw [if_neg (by omega : ¬ ls.length = 0)]
  refine xI (tX (tX (bX (tN (SC.sR (lM I (lU (eN uT22 I) (lM I (lW (cL call25 I (zero_own E g _ ls.length C hR hC)) ?_)))))))))
  rintro _ _ _ ⟨rfl,zp,zk,rfl,rfl⟩
  refine SL.bx (aL zeroValue55) fun b6=>?_
  refine SL.O2 (sK 0 zT55 I I I I I sB) ?_
  refine SL.nT (sQ (SC.sR (lU (fA uT55 I sizeOf53 I) (lK (qL isAgg53 I (cO 0 I I)) (lU (eN uT53 I) (lU (eQ I I) (SL.nT ?_)))))))
  refine iP I (fun hz=>?_) (fun hz=>?_)
  ·have hz0 : ls.length * C = 0:=oM
   have hfl:=flat_len h.len
   have hnil : ls.flatten = []:=List.eq_nil_of_length_eq_zero oM
   refine SC.to (fun w hw=>hw.perm (List.Perm.swap _ _ _)) (g':=g) (s':=rowA encW 94 (.slice zp (ls.length * C) zk) (List.replicate (ls.length * C) (wd 0)) :: pt b6 (.cells #[vi ls.length,vi C,.slice zp (ls.length * C) zk] 55 (0,0)) :: (pt b2 (.cells #[vi 0,vi 0,.slice none 0 0] 55 (0,0)) :: s)) ?_
   refine fS fun g1 hle1 hs1=>?_
   refine SC.sR (lK (qV 0 iT55 zT55 I I I) (SL.O2 (sK 1 zT55 I I I I I sB) ?_))
   refine SL.nT (rE (tR ?_))
   exact ST.retCD 1 s (.inl rfl) results72 rfl iT55 zT55 rfl rfl (.cons _ (.cons _ (.refl _))) ⟨rfl,hle1,zp,zk,by dsimp only; rw [hfl]; rfl,by
    dsimp only
    have : SlA encW g1 (.slice zp (ls.length * C) zk) (List.replicate (ls.length * C) (wd 0)):=hs1
    rw [hz0] at this
    rw [hnil]
    exact this⟩
  ·have hCp : 0 < C:=Nat.pos_of_ne_zero fun e=>hz (by rw [e]; simp)
   refine kP (tN (sQ (SC.sR (lM I (lU (eN uT22 I) (lM I (SL.nT (bK ?_))))))))
   refine SC.to (fun w hw=>hw.perm (List.Perm.swap _ _ _)) (g':=g) (s':=rowA encW 94 (.slice zp (ls.length * C) zk) (List.replicate (ls.length * C) (wd 0)) :: pt b6 (.cells #[vi ls.length,vi C,.slice zp (ls.length * C) zk] 55 (0,0)) :: (pt b2 (.cells #[vi 0,vi 0,.slice none 0 0] 55 (0,0)) :: s)) ?_
   refine oP (ι:=PH × Nat) (fun i=>[(0,.slice p ls.length c),(2,pp b2 0),(3,vi (C : Int)),(6,pp b6 0),(31,.slice p ls.length c),(32,vi ls.length),(33,vi i.2)]) (fun i=>i.1) (fun i=>rowA encW 94 (.slice zp (ls.length * C) zk) (partE ls C i.2 0 []) :: pt b6 (.cells #[vi ls.length,vi C,.slice zp (ls.length * C) zk] 55 (0,0)) :: (pt b2 (.cells #[vi 0,vi 0,.slice none 0 0] 55 (0,0)) :: s)) (fun i=>Le g i.1 ∧ i.2 ≤ ls.length) (fun i=>ls.length - i.2) (g,0)
    sB rfl (by dsimp only; rw [partE_zero]) ⟨Le.refl g,Nat.zero_le _⟩ ?_
   rintro ⟨g1,i⟩ ⟨hle1,hi1⟩
   dsimp only at hle1 hi1 ⊢
   refine SC.sR (lU (lS I I) (SL.nT (sQ ?_)))
   refine iP I (fun hlt2=>?_) (fun hlt2=>?_)
   ·have hils : i < ls.length:=oM
    have hil : i < rs.length:=oM
    have hb1:=SlA.based hrs oM
    have hgx : rs[((i : Nat) : Int).toNat]? = some rs[i]:=gE hil
    have hrow : ListR g ls[i] rs[i]:=hall.get (gE hils) (gE hil)
    have hrlen:=h.len _ (gM hils)
    have hsm:=h.small _ (gM hils)
    have hnext:=partE_row h.len hils []
    have hp0 : partE ls C i 0 [] = partE ls C i 0 ls[i]:=by simp [partE]
    rw [hp0]
    generalize hx : ls[i] = x at *
    generalize rs[i] = r at *
    obtain ⟨rp,rn,rc⟩:=r
    have hrn : rn = C:=by rw [← hrlen]; exact hrow.len
    subst hrn
    have hxs : Ints g (.slice rp rn rc) x:=hrow
    refine kP (tN (sQ (bK (SC.sR (lM I (lU (iA uT22 zT27 I I hb1 oM sL) (lK (eB (u:=.slice rp rn rc) iT27 I (SlA.rd (SlA.mono hrs hle1)) hgx I) (lA I (lA I (SL.nT (SC.sR (lM I (lU (eN uT27 I) (lM I (SL.nT (bK ?_))))))))))))))))
    refine oP (ι:=PH × Nat) (fun k=>[(2,pp b2 0),(3,vi (rn : Int)),(6,pp b6 0),(7,vi i),(0,.slice p ls.length c),(31,.slice p ls.length c),(32,vi ls.length),(33,vi i),(38,.slice rp rn rc),(39,vi rn),(40,vi k.2)]) (fun k=>k.1) (fun k=>rowA encW 94 (.slice zp (ls.length * rn) zk) (partE ls rn i k.2 x) :: pt b6 (.cells #[vi ls.length,vi rn,.slice zp (ls.length * rn) zk] 55 (0,0)) :: (pt b2 (.cells #[vi 0,vi 0,.slice none 0 0] 55 (0,0)) :: s)) (fun k=>Le g k.1 ∧ k.2 ≤ rn) (fun k=>rn - k.2) (g1,0)
     sB rfl rfl ⟨hle1,Nat.zero_le _⟩ ?_
    rintro ⟨g2,j⟩ ⟨hle2,hj⟩
    dsimp only at hle2 hj ⊢
    refine SC.sR (lU (lS I I) (SL.nT (sQ ?_)))
    refine iP I (fun hlt3=>?_) (fun hlt3=>?_)
    ·have hjl : j < rn:=oM
     have hjx : j < x.length:=oM
     have hb2:=SlA.based hxs oM
     have hgj : x[((j : Nat) : Int).toNat]? = some x[j]:=gE hjx
     have hbd:=hsm x[j] (gM hjx)
     have hset:=partE_set h.len hils hrlen hjl
     have hpl:=partE_length h.len hils hrlen (Nat.le_of_lt hjl)
     have hidx:=idx_lt hils hjl
     generalize x[j] = z at *
     refine SC.facts fun ⟨w0,hw0⟩=>?_
     have hbE : based (.slice zp (ls.length * rn) zk) = true:=by
      obtain ⟨b0,c0,he⟩:=rowA_based (i:=0) hw0 rfl oM
      rw [he]; rfl
     clear hw0 w0
     refine kP (tN (sQ (bK (SC.sR (lM I (lU (iA uT27 zT3 I I hb2 oM sL) (lK (eB iT3 I (SlA.rd (SlA.mono hxs hle2)) hgj I) (lA I (lA I (SL.nT ?_))))))))))
     refine dW [10] [(0,2),(1,1),(2,2),(3,2),(4,2),(5,2),(6,2),(7,2),(8,0),(9,2),(10,0)] Tryz.mixed (by kernel_rfl) ?_
     refine pU I (fA uT55 I sizeOf53 I) (pK I (qL (v:=.slice zp (ls.length * rn) zk) isAgg53 I (cO 1 I I)) (pU I (mV I) (pU I (mV I) (pU I (SU.eq (v':=vi ((i * rn : Nat))) (SU.mulW I I) (congrArg vi (by rw [← Int.natCast_mul]; exact IntWalk.i64_in _ (by have:=Nat.mul_le_mul (Nat.le_of_lt hils) (lR rn); omega)))) ?_))))
     refine pU I (mV I) (pU I (SU.eq (v':=vi ((i * rn + j : Nat))) (SU.addW I I) (congrArg vi (by rw [← Int.natCast_add]; exact IntWalk.i64_in _ oM))) ?_)
     refine pU rfl (mV rfl) (SP.o rfl (cL call127 rfl (from_spec E g2 _ z hbd.1 hbd.2)) dC (.inr (by rintro _ g3 _ ⟨rfl,rfl,hle3⟩; exact ⟨by assumption,(by exact .refl _)⟩)) ?_)
     rintro _ g3 _ ⟨rfl,rfl,hle3⟩
     refine pU I (iA uT53 zT94 I I hbE oM sL) (SP.on I (sT (a:=wd z) 0 zT94 I I I oM (wideN_cells z)) (.inl dC) ?_)
     rintro _ _ _ ⟨rfl,rfl⟩
     refine pN (bN (tN (rG (lU (aD I I oM) (lM I (nL ?_))))))
     exact gA (g3,j + 1) sB rfl (by dsimp only; rw [← hset]; rfl) ⟨hle2.trans hle3,by dsimp only; omega⟩ (by dsimp only; omega)
    ·have hjn : j = rn:=oM
     subst hjn
     rw [hnext]
     refine xI (tX (tX (bX (bN (tN (rG (lU (aD I I oM) (lM I (nL ?_)))))))))
     exact gA (g2,i + 1) sB I I ⟨hle2,by dsimp only; omega⟩ (by dsimp only; omega)
   ·have hin : i = ls.length:=oM
    subst hin
    rw [partE_all h.len]
    refine fS fun g2 hle2 hs2=>?_
    have hfl:=flat_len h.len
    refine xI (tX (tX (bX (tN (SC.sR (lK (qV 0 iT55 zT55 I I I) (SL.O2 (sK 1 zT55 I I I I I sB) ?_)))))))
    refine SL.nT (rE ?_)
    exact ST.retCD 1 s (.inl rfl) results72 rfl iT55 zT55 rfl rfl (.cons _ (.cons _ (.refl _))) ⟨rfl,hle1.trans hle2,zp,zk,by dsimp only; rw [hfl]; rfl,by dsimp only; rw [hfl]; exact hs2⟩
theorem refOf_mat (E : World) (g : PH) (s : Own) (v : Value) (ls : List (List Int)) (C : Nat) (hv : Lists g v ls) (h : Rows ls C) :
  Ctr Tryz.prog E 110 #[v] g s (fun x g' s'=>s = s' ∧ Le g g' ∧ MatR g' x (ls.length,C,ls.flatten)):=by
 obtain ⟨rs,hrs,hall⟩:=hv
 have hrl:=hall.length
 have hpos:=h.pos
 have hR:=h.rows
 have hC:=h.cols
 have hm:=mul_le hR hC
 obtain ⟨p,c,rfl⟩:=SlA.form hrs
 rw [← hrl] at hrs ⊢
 refine Ctr.of (args:=[.slice p ls.length c]) func110 I ntmps110 (bE I) ?_
 refine SC.sR (SL.bx (aL zeroValue55) fun b2=>?_)
 refine SL.nT (SC.sR (lA I (SL.nT (sQ (SC.sR (lA I (SL.nT (bK ?_))))))))
 refine oP (ι:=Nat) (fun i=>[(0,.slice p ls.length c),(2,pp b2 0),(3,vi (if i = 0 then 0 else (C : Int))),(4,vi i)]) (fun _=>g) (fun _=>pt b2 (.cells #[vi 0,vi 0,.slice none 0 0] 55 (0,0)) :: s) (fun i=>i ≤ ls.length) (fun i=>ls.length - i) 0
  sB rfl rfl (Nat.zero_le _) ?_
 rintro i hi
 refine sQ (SC.sR (lM I (lM I (lU (eN uT22 I) (lU (lS I I) (SL.nT ?_))))))
 refine iP I (fun hlt=>?_) (fun hlt=>?_)
 ·have hil : i < rs.length:=oM
  have hils : i < ls.length:=oM
  have hb1:=SlA.based hrs oM
  have hgx : rs[((i : Nat) : Int).toNat]? = some rs[i]:=gE hil
  have hrn : rs[i].n = C:=by rw [(hall.get (gE hils) (gE hil)).len]; exact h.len _ (gM hils)
  generalize rs[i] = r at *
  obtain ⟨rp,rn,rc⟩:=r
  dsimp only at hrn
  subst hrn
  refine kP (tN (sQ (bK (rG (lM I (lM I (lM I (lU (iA uT22 zT27 I I hb1 oM sL) (lK (eB (u:=.slice rp rn rc) iT27 I (SlA.rd hrs) hgx I) (lU (eN uT27 I) (lU (SU.eq (v':=vi (rn : Int)) (SU.maxI I I) (congrArg vi (by split <;> omega))) ?_)))))))))))
  refine lA I (nL (bN (tN (rG (lM I (lU (aD I I oM) (lA I (nL ?_))))))))
  exact gA (i + 1) ⟨I,I,getVi I (by rw [if_neg oM]),I,trivial⟩ I I oM oM
 ·have hil : i = ls.length:=oM
  subst hil
  rw [if_neg (by omega : ¬ ls.length = 0)]
  refine xI (tX (tX (bX (tN (SC.sR (lM I (lU (eN uT22 I) (lM I (lW (cL call147 I (refZero_own E g _ ls.length C hR hC)) ?_)))))))))
  rintro _ _ _ ⟨rfl,zp,zk,rfl,rfl⟩
  refine SL.bx (aL zeroValue55) fun b5=>?_
  refine SL.O2 (sK 0 zT55 I I I I I sB) ?_
  refine SL.nT (sQ (SC.sR (lA I (SL.nT (bK ?_)))))
  refine SC.to (fun w hw=>hw.perm (List.Perm.swap _ _ _)) (g':=g) (s':=rowA encW 94 (.slice zp (ls.length * C) zk) (List.replicate (ls.length * C) (wd 0)) :: pt b5 (.cells #[vi ls.length,vi C,.slice zp (ls.length * C) zk] 55 (0,0)) :: (pt b2 (.cells #[vi 0,vi 0,.slice none 0 0] 55 (0,0)) :: s)) ?_
  refine oP (ι:=PH × Nat) (fun i=>[(0,.slice p ls.length c),(2,pp b2 0),(3,vi (C : Int)),(5,pp b5 0),(6,vi i.2)]) (fun i=>i.1) (fun i=>rowA encW 94 (.slice zp (ls.length * C) zk) (partE ls C i.2 0 []) :: pt b5 (.cells #[vi ls.length,vi C,.slice zp (ls.length * C) zk] 55 (0,0)) :: (pt b2 (.cells #[vi 0,vi 0,.slice none 0 0] 55 (0,0)) :: s)) (fun i=>Le g i.1 ∧ i.2 ≤ ls.length) (fun i=>ls.length - i.2) (g,0)
   sB rfl (by dsimp only; rw [partE_zero]) ⟨Le.refl g,Nat.zero_le _⟩ ?_
  rintro ⟨g1,i⟩ ⟨hle1,hi1⟩
  dsimp only at hle1 hi1 ⊢
  refine sQ (SC.sR (lM I (lU (fA uT55 I zT3 I) (lK (qL (v:=vi ls.length) iT3 I (cO 1 I I)) (lU (lS I I) (SL.nT ?_))))))
  refine iP I (fun hlt2=>?_) (fun hlt2=>?_)
  ·have hils : i < ls.length:=oM
   have hil : i < rs.length:=oM
   have hb1:=SlA.based hrs oM
   have hgx : rs[((i : Nat) : Int).toNat]? = some rs[i]:=gE hil
   have hrow : ListR g ls[i] rs[i]:=hall.get (gE hils) (gE hil)
   have hrlen:=h.len _ (gM hils)
   have hsm:=h.small _ (gM hils)
   have hnext:=partE_row h.len hils []
   have hp0 : partE ls C i 0 [] = partE ls C i 0 ls[i]:=by simp [partE]
   rw [hp0]
   generalize hx : ls[i] = x at *
   generalize rs[i] = r at *
   obtain ⟨rp,rn,rc⟩:=r
   have hrn : rn = C:=by rw [← hrlen]; exact hrow.len
   subst hrn
   have hxs : Ints g (.slice rp rn rc) x:=hrow
   refine kP (tN (sQ (bK (SC.sR (lA I (SL.nT (bK ?_)))))))
   refine oP (ι:=PH × Nat) (fun k=>[(0,.slice p ls.length c),(2,pp b2 0),(3,vi (rn : Int)),(5,pp b5 0),(6,vi i),(7,vi k.2)]) (fun k=>k.1) (fun k=>rowA encW 94 (.slice zp (ls.length * rn) zk) (partE ls rn i k.2 x) :: pt b5 (.cells #[vi ls.length,vi rn,.slice zp (ls.length * rn) zk] 55 (0,0)) :: (pt b2 (.cells #[vi 0,vi 0,.slice none 0 0] 55 (0,0)) :: s)) (fun k=>Le g k.1 ∧ k.2 ≤ rn) (fun k=>rn - k.2) (g1,0)
    sB rfl rfl ⟨hle1,Nat.zero_le _⟩ ?_
   rintro ⟨g2,j⟩ ⟨hle2,hj⟩
   dsimp only at hle2 hj ⊢
   refine sQ (SC.sR (lM I (lM I (lM I (lU (iA uT22 zT27 I I hb1 oM sL) (lK (eB (u:=.slice rp rn rc) iT27 I (SlA.rd (SlA.mono hrs hle2)) hgx I) (lU (eN uT27 I) (lU (lS I I) (SL.nT ?_)))))))))
   refine iP I (fun hlt3=>?_) (fun hlt3=>?_)
   ·have hjl : j < rn:=oM
    have hjx : j < x.length:=oM
    have hb2:=SlA.based hxs oM
    have hgj : x[((j : Nat) : Int).toNat]? = some x[j]:=gE hjx
    have hbd:=hsm x[j] (gM hjx)
    have hset:=partE_set h.len hils hrlen hjl
    have hpl:=partE_length h.len hils hrlen (Nat.le_of_lt hjl)
    have hidx:=idx_lt hils hjl
    generalize x[j] = z at *
    refine SC.facts fun ⟨w0,hw0⟩=>?_
    have hbE : based (.slice zp (ls.length * rn) zk) = true:=by
     obtain ⟨b0,c0,he⟩:=rowA_based (i:=0) hw0 rfl oM
     rw [he]; rfl
    clear hw0 w0
    refine kP (tN (sQ (bK ?_)))
    refine dW [16] [(0,2),(1,1),(2,2),(3,2),(4,2),(5,2),(6,2),(7,2),(8,2),(9,2),(10,1),(11,2),(12,2),(13,1),(14,0),(15,2),(16,0)] Tryz.mixed (by kernel_rfl) ?_
    refine pU I (fA uT55 I sizeOf53 I) (pK I (qL (v:=.slice zp (ls.length * rn) zk) isAgg53 I (cO 1 I I)) (pU I (mV I) (pU I (mV I) (pU I (SU.eq (v':=vi ((i * rn : Nat))) (SU.mulW I I) (congrArg vi (by rw [← Int.natCast_mul]; exact IntWalk.i64_in _ (by have:=Nat.mul_le_mul (Nat.le_of_lt hils) (lR rn); omega)))) ?_))))
    refine pU I (mV I) (pU I (SU.eq (v':=vi ((i * rn + j : Nat))) (SU.addW I I) (congrArg vi (by rw [← Int.natCast_add]; exact IntWalk.i64_in _ oM))) ?_)
    refine pU rfl (mV rfl) (pU rfl (mV rfl) (pU rfl (iA uT22 zT27 rfl rfl hb1 oM sL) (pK rfl (eB (u:=.slice rp rn rc) iT27 rfl (SlA.rd (SlA.mono hrs hle2)) hgx rfl) (pU rfl (mV rfl) (pU rfl (iA uT27 zT3 rfl rfl hb2 oM sL) (pK rfl (eB iT3 rfl (SlA.rd (SlA.mono hxs hle2)) hgj rfl) (SP.o rfl (cL call148 rfl (refFrom_spec E g2 _ z hbd.1 hbd.2)) dC (.inr (by rintro _ g3 _ ⟨rfl,rfl,hle3⟩; exact ⟨by assumption,(by exact .refl _)⟩)) ?_)))))))
    rintro _ g3 _ ⟨rfl,rfl,hle3⟩
    refine pU I (iA uT53 zT94 I I hbE oM sL) (SP.on I (sT (a:=wd z) 0 zT94 I I I oM (wideN_cells z)) (.inl dC) ?_)
    rintro _ _ _ ⟨rfl,rfl⟩
    refine pN (bN (tN (rG (lM I (lU (aD I I oM) (lA I (nL ?_)))))))
    exact gA (g3,j + 1) sB rfl (by dsimp only; rw [← hset]; rfl) ⟨hle2.trans hle3,by dsimp only; omega⟩ (by dsimp only; omega)
   ·have hjn : j = rn:=oM
    subst hjn
    rw [hnext]
    refine xI (tX (tX (bX (bN (tN (rG (lM I (lU (aD I I oM) (lA I (nL ?_))))))))))
    exact gA (g2,i + 1) sB I I ⟨hle2,by dsimp only; omega⟩ (by dsimp only; omega)
  ·have hin : i = ls.length:=oM
   subst hin
   rw [partE_all h.len]
   refine fS fun g2 hle2 hs2=>?_
   have hfl:=flat_len h.len
   refine xI (tX (tX (bX (tN (SC.sR (lK (qV 0 iT55 zT55 I I I) (SL.O2 (sK 1 zT55 I I I I I sB) ?_)))))))
   refine SL.nT (rE ?_)
   exact ST.retCD 1 s (.inl rfl) results110 rfl iT55 zT55 rfl rfl (.cons _ (.cons _ (.refl _))) ⟨rfl,hle1.trans hle2,zp,zk,by dsimp only; rw [hfl]; rfl,by dsimp only; rw [hfl]; exact hs2⟩
theorem SU.idxT {P : Program} {N : Nat} {f : Fr} {dst : Option Tmp} {ty : TypeId} {pos : String} {af : Array Edge} {gd : Option (Nat × Bool)} {x : Operand} {T : TypeId} {b : UInt8} {r : List UInt8} (hT : P.underlying T = some .string) (hx : ev f x = some (txt (b :: r))) :
  SU P N ⟨dst,.index T x (.const (vi 0)),ty,pos,af,gd⟩ f (.int .u8 b.toNat):=fun a w ha=>by
 have h1 : (Instr.index T (txt (b :: r)) (vi 0)).run P w = .ok (.int .u8 b.toNat) w:=by
  unfold txt
  rw [run_index_string (w:=w) T _ .i64 0 hT]
  rw [dif_pos (by simp [ByteArray.size])]
  rfl
 have h2 : a.eval (.const (vi 0)) = vi 0:=rfl
 simp only [execOp,ha.ev hx,h2,Sem.run_bind,h1,Result.andThen_ok]
 rfl
def CanW (p : Bool × List UInt8) : Prop:=(p.2 = [] → p.1 = false) ∧ ∀ x r,p.2 = x :: r → x ≠ 0
theorem dropZ_head {l : List UInt8} {x : UInt8} {r : List UInt8} (h : dropZ l = x :: r) : x ≠ 0:=by
 induction l with
 | nil=>cases h
 | cons a t ih =>
  unfold dropZ at *
  rw [List.dropWhile_cons] at h
  by_cases ha : (a == 0) = true
  ·rw [if_pos ha] at h; exact ih h
  ·rw [if_neg ha] at h
   injection h with h1 h2
   subst h1
   simpa using ha
theorem can_wd (n : Int) : CanW (wd n):=⟨fun h=>by unfold wd at *; dsimp only at h ⊢; rw [h]; simp,fun _ _ h=>dropZ_head h⟩
theorem canonical_spec (E : World) (g : PH) (s : Own) (v : Value) (l : List (Bool × List UInt8)) (hv : SlA encW g v l) (hl : l.length < 1099511627776) (hc : ∀ p ∈ l,CanW p) :
  Ctr Tryz.prog E 124 #[v] g s (fun x g' s'=>x = vb true ∧ g = g' ∧ s = s'):=by
 obtain ⟨p,c,rfl⟩:=SlA.form hv
 refine Ctr.of (args:=[.slice p l.length c]) func124 I ntmps124 (bE I) ?_
 refine SC.sR (lA I (SL.nT (sQ (SC.sR (lA I (SL.nT (bK ?_)))))))
 refine oP (ι:=Nat) (fun k=>[(0,.slice p l.length c),(3,vi k)]) (fun _=>g) (fun _=>s) (fun k=>k ≤ l.length) (fun k=>l.length - k) 0 sB I I (Nat.zero_le _) ?_
 rintro k hk
 refine sQ (SC.sR (lM I (lM I (lU (eN uT53 I) (lU (lS I I) (SL.nT ?_))))))
 refine iP I (fun hlt=>?_) (fun hlt=>?_)
 ·have hkl : k < l.length:=oM
  have hb1:=SlA.based hv oM
  have hgx : l[((k : Nat) : Int).toNat]? = some l[k]:=gE hkl
  have hcw:=hc _ (gM hkl)
  generalize l[k] = w at *
  obtain ⟨b,mg⟩:=w
  cases mg with
  | nil =>
   have hb0 : b = false:=hcw.1 rfl
   subst hb0
   refine kP (tN (sQ (bK (SC.sR (lM I (lM I (lU (iA uT53 zT94 I I hb1 oM sL) (lU (fC underlying94 I sizeOf9 I hb1) (lK (pA (e:=encW) (o:=1) (u:=txt _) isAgg9 I (SlA.rd hv) hgx I) (lU (SU.eq (v':=vb true) (SU.eqlT I I) I) (lM I (lY I I I (mV I) (lY I I I (mV I) (lY I I I (iA uT53 zT94 I I hb1 oM sL) (lY I I I (fC underlying94 I zT4 I hb1) (SL.gq (gT I I I dC) (pA (e:=encW) (o:=0) (u:=vb _) isAgg4 I (SlA.rd hv) hgx I) dC (lU (pT I I) (lM I (lY I I I (mV I) (lY I I I (mV I) (lY I I I (iA uT53 zT94 I I hb1 oM sL) (lY I I I (fC underlying94 I sizeOf9 I hb1) (SL.gq (gT I I I dC) (pA (e:=encW) (o:=1) (u:=txt _) isAgg9 I (SlA.rd hv) hgx I) dC (lY I I I (SU.eq (v':=vb false) (SU.neqT I I) I) (lY I I I (mV I) (lZ I I I (lZ I I I (lZ I I I ?_))))))))))))))))))))))))))))
   refine lZ I I I (lZ I I I (lZ I I I (lZ I I I (lY I I I (pF I I) (lU (pF I I) (SL.nT (cF I (kP (bN (tN (rG (lM I (lU (aD I I oM) (lA I (nL ?_)))))))))))))))
   exact gA (k + 1) sB I I oM oM
  | cons x r =>
   have hx0 : x ≠ 0:=hcw.2 x r rfl
   have hxi : ¬ (x.toNat : Int) = 0:=fun e=>hx0 (UInt8.toNat.inj (by simpa using e))
   refine kP (tN (sQ (bK (SC.sR (lM I (lM I (lU (iA uT53 zT94 I I hb1 oM sL) (lU (fC underlying94 I sizeOf9 I hb1) (lK (pA (e:=encW) (o:=1) (u:=txt _) isAgg9 I (SlA.rd hv) hgx I) (lU (SU.eq (v':=vb false) (SU.eqlT I I) I) (lM I (lZ I I I (lZ I I I (lZ I I I (lZ I I I (lZ I I I (lU (pF I I) (lM I (lY I I I (mV I) (lY I I I (mV I) (lY I I I (iA uT53 zT94 I I hb1 oM sL) (lY I I I (fC underlying94 I sizeOf9 I hb1) (SL.gq (gT I I I dC) (pA (e:=encW) (o:=1) (u:=txt _) isAgg9 I (SlA.rd hv) hgx I) dC (lY I I I (SU.eq (v':=vb true) (SU.neqT I I) I) (lY I I I (mV I) (lY I I I (mV I) (lY I I I (mV I) (lY I I I (iA uT53 zT94 I I hb1 oM sL) ?_))))))))))))))))))))))))))))
   refine lY I I I (fC underlying94 I sizeOf9 I hb1) (SL.gq (gT I I I dC) (pA (e:=encW) (o:=1) (u:=txt _) isAgg9 I (SlA.rd hv) hgx I) dC (lY I I I (SU.idxT uT9 I) (lY I I I (SU.eq (v':=vb false) (eQ I I) (congrArg vb (decide_eq_false hxi))) (lY I I I (pT I I) (lU (pF I I) (SL.nT (cF I (kP (bN (tN (rG (lM I (lU (aD I I oM) (lA I (nL ?_)))))))))))))))
   exact gA (k + 1) sB I I oM oM
 ·refine xI (tX (tX (bX (tN (SC.sR (lA I (SL.nT (rE ?_))))))))
  exact ST.ret1 (.inl I) results124 I ⟨I,I,I⟩
def MatOk (m : Nat × Nat × List Int) : Prop:=m.1 ≤ 200 ∧ m.2.1 ≤ 200 ∧ m.2.2.length = m.1 * m.2.1
theorem matRight_spec (E : World) (g : PH) (s : Own) (v : Value) (m : Nat × Nat × List Int) (hv : MatR g v m) (hm : MatOk m) :
  Ctr Tryz.prog E 70 #[v] g s (fun x g' s'=>x = vb true ∧ g = g' ∧ s = s'):=by
 obtain ⟨R,C,l⟩:=m
 obtain ⟨p,c,rfl,hs⟩:=hv
 obtain ⟨h1,h2,h3⟩:=hm
 dsimp only at h1 h2 h3 hs ⊢
 have hml:=mul_le h1 h2
 refine Ctr.of (args:=[.agg #[vi R,vi C,.slice p l.length c]]) func70 I ntmps70 (bE I) ?_
 refine SC.sR (SL.bx (bO I) fun b1=>?_)
 refine lA I (SL.nT (SC.sR (lU (fA uT55 I zT3 I) (lK (qL iT3 I (cO 0 I I)) (lU (fA uT55 I zT3 I) (lK (qL iT3 I (cO 0 I I)) (lW (cL call123 I (refFits_spec E g _ R C h1 h2)) ?_)))))))
 rintro _ _ _ ⟨rfl,rfl,rfl⟩
 refine lA I (SL.nT (sQ (SC.sR (lM I (lU (SU.not I) (lM I (lY I I I (fA uT55 I sizeOf53 I) (SL.gq (gT I I I dC) (qL isAgg53 I (cO 0 I I)) dC (lY I I I (eN uT53 I) (lY I I I (fA uT55 I zT3 I) (SL.gq (gT I I I dC) (qL iT3 I (cO 0 I I)) dC (lY I I I (fA uT55 I zT3 I) (SL.gq (gT I I I dC) (qL iT3 I (cO 0 I I)) dC (lY I I I (SU.eq (v':=vi ((R * C : Nat))) (SU.mulW I I) (congrArg vi (by rw [← Int.natCast_mul]; exact IntWalk.i64_in _ oM))) ?_))))))))))))))
 refine lY I I I (SU.eq (v':=vb false) (nQ I I) (congrArg vb (decide_eq_false (by rw [h3]; simp)))) ?_
 refine lU (pF rfl rfl) (SL.nT (cF rfl (kP (tN (SC.sR (lU (fA uT55 rfl sizeOf53 rfl) (lK (qL isAgg53 rfl (cO 0 rfl rfl)) (lW (cL call124 rfl (canonical_spec E g _ (.slice p l.length c) (l.map wd) hs (by rw [List.length_map]; omega) (fun q hq=>by obtain ⟨n,_,rfl⟩:=List.mem_map.1 hq; exact can_wd n))) ?_))))))))
 rintro _ _ _ ⟨rfl,rfl,rfl⟩
 refine lA I (SL.nT (rE (dR (s':=s) (.cons _ (.refl _)) ?_)))
 exact ST.ret1 (.inl I) results70 I ⟨I,I,I⟩
theorem wideNeq (x y : Bool × List UInt8) (w : World) : (binOp .neq 94 (.agg (encW.enc x).toArray) (.agg (encW.enc y).toArray)).run Tryz.prog w = .ok (.bool (decide (x ≠ y))) w:=by
 have hu : Tryz.prog.underlying 94 = some (.struct (Tryz.prog.fieldsOf 94)):=by kernel_rfl
 rw [run_neq_struct,run_equalIn_agg w 9999 94 _ _ hu stoodInHeld94]
 have hfs : ∃ f1 f2,(Tryz.prog.fieldsOf 94).toList = [f1,f2] ∧ f1.name ≠ "_" ∧ f2.name ≠ "_" ∧ f1.type = 4 ∧ f2.type = 9 ∧ f1.offset = 0 ∧ f2.offset = 1:=⟨_,_,rfl,by decide,by decide,rfl,rfl,rfl,rfl⟩
 obtain ⟨f1,f2,e,n1,n2,t1,t2,o1,o2⟩:=hfs
 obtain ⟨a,b⟩:=x
 obtain ⟨c,d⟩:=y
 rw [e]
 have h1:=run_equalIn_bool (P:=Tryz.prog) w 9998 4 a c uT4
 have h2:=run_equalIn_string (P:=Tryz.prog) w 9998 9 ⟨b.toArray⟩ ⟨d.toArray⟩ uT9
 rw [txt_list,txt_list] at h2
 simp only [Op.eqFields,n1,n2,t1,t2,o1,o2,encW,txt,part,ne_eq,not_false_eq_true,if_true,Sem.run_bind,isAgg4,isAgg9,Result.andThen_ok]
 simp [h1,h2]
 by_cases hac : a = c <;> by_cases hbd : b = d <;> simp [hac,hbd]
theorem SU.neqW {N : Nat} {f : Fr} {dst : Option Tmp} {ty : TypeId} {pos : String} {af : Array Edge} {gd : Option (Nat × Bool)} {x y : Operand} {a b : Bool × List UInt8} {U : TypeId} (hx : ev f x = some (.agg (encW.enc a).toArray)) (hy : ev f y = some (.agg (encW.enc b).toArray)) :
  SU Tryz.prog N ⟨dst,.binOp .neq 94 x y U,ty,pos,af,gd⟩ f (.bool (decide (a ≠ b))):=fun ac w ha=>by
 have hg:=run_eqGuard_agg (P:=Tryz.prog) w .neq 94 x y (encW.enc a).toArray (encW.enc b).toArray eqGuardType94
 simp only [execOp,ha.ev hx,ha.ev hy,Sem.run_bind,hg,Result.andThen_ok,wideNeq]
 rfl
theorem matEqual_spec (E : World) (g : PH) (s : Own) (v u : Value) (m : Nat × Nat × List Int) (hv : MatR g v m) (hu : MatR g u m) (hm : MatOk m) :
  Ctr Tryz.prog E 20 #[v,u] g s (fun x g' s'=>x = vb true ∧ g = g' ∧ s = s'):=by
 have hv0:=hv
 have hu0:=hu
 have hm0:=hm
 obtain ⟨R,C,l⟩:=m
 obtain ⟨p,c,rfl,hs⟩:=hv
 obtain ⟨q,d,rfl,ht⟩:=hu
 obtain ⟨h1,h2,h3⟩:=hm
 dsimp only at h1 h2 h3 hs ht hv0 hu0 ⊢
 have hml:=mul_le h1 h2
 refine Ctr.of (args:=[.agg #[vi R,vi C,.slice p l.length c],.agg #[vi R,vi C,.slice q l.length d]]) func20 I ntmps20 (bE I) ?_
 refine SC.sR (SL.bx (bO I) fun b2=>?_)
 refine SL.bx (bO I) fun b3=>?_
 refine lA I (SL.nT (SC.sR (lK (qV 1 iT55 zT55 I I I) (lW (cL call70 I (matRight_spec E g _ _ (R,C,l) hv0 hm0)) ?_))))
 rintro _ _ _ ⟨rfl,rfl,rfl⟩
 refine lA I (SL.nT (SC.sR (lK (qV 0 iT55 zT55 I I I) (lW (cL call70 I (matRight_spec E g _ _ (R,C,l) hu0 hm0)) ?_))))
 rintro _ _ _ ⟨rfl,rfl,rfl⟩
 refine lA I (SL.nT (sQ (SC.sR (lM I (lU (SU.not I) (lM I (lY I I I (mV I) (lY I I I (SU.not I) (lU (pF I I) (lM I (lY I I I (fA uT55 I zT3 I) (SL.gq (gT I I I dC) (qL (v:=vi R) iT3 I (cO 1 I I)) dC (lY I I I (fA uT55 I zT3 I) (SL.gq (gT I I I dC) (qL (v:=vi R) iT3 I (cO 0 I I)) dC (lY I I I (SU.eq (v':=vb false) (nQ I I) (congrArg vb (decide_eq_false (by simp)))) ?_)))))))))))))))
 refine lU (pF I I) (lM I (lY I I I (fA uT55 I zT3 I) (SL.gq (gT I I I dC) (qL (v:=vi C) iT3 I (cO 1 I I)) dC (lY I I I (fA uT55 I zT3 I) (SL.gq (gT I I I dC) (qL (v:=vi C) iT3 I (cO 0 I I)) dC (lY I I I (SU.eq (v':=vb false) (nQ I I) (congrArg vb (decide_eq_false (by simp)))) ?_))))))
 refine lU (pF I I) (SL.nT (cF I (kP (tN (sQ (SC.sR (lA I (SL.nT (bK ?_)))))))))
 refine oP (ι:=Nat) (fun k=>[(2,pp b2 0),(3,pp b3 0),(7,vi k)]) (fun _=>g) (fun _=>pt b3 (.cells #[vi R,vi C,.slice q l.length d] 55 (0,0)) :: pt b2 (.cells #[vi R,vi C,.slice p l.length c] 55 (0,0)) :: s) (fun k=>k ≤ l.length) (fun k=>l.length - k) 0 sB I I (Nat.zero_le _) ?_
 rintro k hk
 refine sQ (SC.sR (lM I (lU (fA uT55 I sizeOf53 I) (lK (qL (v:=.slice p l.length c) isAgg53 I (cO 1 I I)) (lU (eN uT53 I) (lU (lS I I) (SL.nT ?_)))))))
 refine iP I (fun hlt=>?_) (fun hlt=>?_)
 ·have hkl : k < l.length:=oM
  have hkw : k < (l.map wd).length:=by rw [List.length_map]; omega
  have hb1:=SlA.based hs oM
  have hb2:=SlA.based ht oM
  have hgx : (l.map wd)[((k : Nat) : Int).toNat]? = some (l.map wd)[k]:=gE hkw
  generalize (l.map wd)[k] = w at *
  refine kP (tN (sQ (bK (sQ ?_))))
  refine dW [] [(0,2),(1,1),(2,2),(3,2),(4,1),(5,2),(6,1),(7,2),(8,2),(9,1),(10,2)] Tryz.mixed (by kernel_rfl) ?_
  refine pU I (fA uT55 I sizeOf53 I) (pK I (qL (v:=.slice p l.length c) isAgg53 I (cO 1 I I)) (pU I (mV I) (pU I (iA uT53 zT94 I I hb1 oM sL) (pK I (eA isAgg94 zT94 I (SlA.rd hs) hgx) (pU I (fA uT55 I sizeOf53 I) (pK I (qL (v:=.slice q l.length d) isAgg53 I (cO 0 I I)) (pU I (mV I) (pU I (iA uT53 zT94 I I hb2 oM sL) (pK I (eA isAgg94 zT94 I (SlA.rd ht) hgx) (pU I (SU.eq (v':=vb false) (SU.neqW I I) (congrArg vb (decide_eq_false (by simp)))) ?_))))))))))
  refine pN (tN (cF I (kP (bN (tN (rG (lM I (lU (aD I I oM) (lA I (nL ?_))))))))))
  exact gA (k + 1) sB I I oM oM
 ·refine xI (tX (tX (bX (tN (SC.sR (lA I (SL.nT (rE (dR (s':=s) (.cons _ (.cons _ (.refl _))) ?_)))))))))
  exact ST.ret1 (.inl I) results20 I ⟨I,I,I⟩
theorem idsP (E : World) (g : PH) (b : Nat) (d : Int) (tl : List Cl) (hb : g b = some (.cells #[vi d] 3 (0,0))) : PredOk E (.func (.func 78) #[] #[pp b 0]) (fun c=>decide (c.dim = d)) tl g:=by
 intro g s c r hle hm hc
 refine CallV.mk (cap:=[pp b 0]) call78 ?_
 have hb':=hle _ _ hb
 obtain ⟨ri,rd,rsv⟩:=r
 have hd : rd = c.dim:=hc.2.1
 subst hd
 refine Ctr.of (args:=[rcv ⟨ri,c.dim,rsv⟩,pp b 0]) func78 I ntmps78 (bE I) ?_
 refine SC.sR (SL.bx (bO I) fun b2=>?_)
 refine lA I (SL.nT (SC.sR (lU (fA uT40 I zT3 I) (lK (qL (v:=vi c.dim) iT3 I (cO 0 I I)) (lK (qL iT3 I (cK hb' I)) (lU (eQ I I) (lA I (SL.nT (rE (dR (s':=s) (.cons _ (.refl _)) ?_))))))))))
 exact ST.ret1 (.inl I) results78 I ⟨I,I,I⟩
theorem ids_spec (E : World) (g : PH) (s : Own) (v : Value) (l : List Cl) (d : Int) (hv : Cells g v l) (hf : Fits l) :
  Ctr Tryz.prog E 23 #[.agg #[v],vi d] g s (fun r g' s'=>s = s' ∧ Le g g' ∧ Ints g' r (idsC l d)):=by
 refine Ctr.of (args:=[.agg #[v],vi d]) func23 I ntmps23 (bE I) ?_
 refine SC.sR (SL.bx (bO I) fun b2=>?_)
 refine SL.bx (bO I) fun b3=>?_
 refine SL.freeze fun g1 hle hb=>?_
 refine lA I (SL.nT (SC.sR (lK (qV 0 iT31 zT31 I I I) (lW (cL kT56 I (of_spec E g1 _ v l (hv.mono hle) hf)) ?_))))
 rintro tv g2 _ ⟨rfl,hle2,ht⟩
 refine lU (SU.mkFunc I) (lW (cL call68 I (names_spec E g2 _ tv _ _ _ ht (tabC_nodup l) (tabC_fits hf) (idsP E g2 b3 d _ (hle2 _ _ hb)))) ?_)
 rintro r8 g3 _ ⟨rfl,hle3,hr⟩
 refine lA I (SL.nT (rE (dR (s':=s) (.cons _ (.refl _)) ?_)))
 exact ST.ret1 (.inl I) results23 I ⟨I,hle.trans (hle2.trans hle3),hr⟩
theorem tab_asc (l : List Cl) : ((tabC l).map Cl.id).Pairwise (· < ·):=by
 have h1:=tabC_sorted l
 have h2:=tabC_nodup l
 have h3:=h1.and h2
 exact h3.imp fun h=>by omega
theorem ids_asc (l : List Cl) (d : Int) : (idsC l d).Pairwise (· < ·):=(tab_asc l).sublist ((List.filter_sublist ..).map _)
theorem ids_le (l : List Cl) (d : Int) : (idsC l d).length ≤ (tabC l).length:=by
 unfold idsC
 rw [List.length_map]
 exact List.length_filter_le _ _
def idxI (l : List Int) (x : Int) : Int:=if l.contains x then (lbI l x : Int) else -1
theorem refIndex_spec (E : World) (g : PH) (s : Own) (v : Value) (l : List Int) (x : Int) (hv : Ints g v l) (hl : l.length < 1099511627776) (hs : l.Pairwise (· < ·)) :
  Ctr Tryz.prog E 109 #[v,vi x] g s (fun r g' s'=>r = vi (idxI l x) ∧ g = g' ∧ s = s'):=by
 obtain ⟨p,c,rfl⟩:=SlA.form hv
 refine Ctr.of (args:=[.slice p l.length c,vi x]) func109 I ntmps109 (bE I) ?_
 refine SC.sR (lA I (SL.nT (sQ (SC.sR (lA I (SL.nT (bK ?_)))))))
 refine oP (ι:=Nat) (fun k=>[(0,.slice p l.length c),(1,vi x),(5,vi k)]) (fun _=>g) (fun _=>s) (fun k=>k ≤ l.length ∧ x ∉ l.take k) (fun k=>l.length - k) 0 sB I I ⟨Nat.zero_le _,by simp⟩ ?_
 rintro k ⟨hk,hno⟩
 refine sQ (SC.sR (lM I (lM I (lU (eN uT27 I) (lU (lS I I) (SL.nT ?_))))))
 refine iP I (fun hlt=>?_) (fun hlt=>?_)
 ·have hkl : k < l.length:=oM
  have hb1:=SlA.based hv oM
  have hgx : l[((k : Nat) : Int).toNat]? = some l[k]:=gE hkl
  refine kP (tN (sQ (bK (SC.sR (lM I (lM I (lU (iA uT27 zT3 I I hb1 oM sL) (lK (eB iT3 I (SlA.rd hv) hgx I) (lM I (lU (eQ I I) (SL.nT ?_)))))))))))
  refine iP I (fun he=>?_) (fun he=>?_)
  ·refine SC.sR (lM I (lA I (SL.nT (rE (bR (tR (tR (bR (tR ?_)))))))))
   have hm : l.contains x = true:=by rw [List.contains_iff_mem,← he]; exact gM hkl
   have hlb : lbI l x = k:=by rw [← he]; exact lbI_self hkl hs
   exact ST.ret1 (.inl I) results109 I ⟨by unfold idxI; rw [if_pos hm,hlb],I,I⟩
  ·refine kP (bN (tN (rG (lM I (lU (aD I I oM) (lA I (nL ?_)))))))
   exact gA (k + 1) sB rfl rfl ⟨oM,by rw [tS hkl,List.mem_append]; rintro (h | h); exact hno h; simp at h; exact he h.symm⟩ oM
 ·have hkk : l.take k = l:=tL oM
  rw [hkk] at hno
  refine xI (tX (tX (bX (tN (SC.sR (lA I (SL.nT (rE ?_))))))))
  exact ST.ret1 (.inl I) results109 I ⟨by unfold idxI; rw [if_neg (by rw [List.contains_iff_mem]; exact hno)],I,I⟩
def addAt (M : List (List Int)) (i k : Nat) (z : Int) : List (List Int):=M.modify i fun r=>r.modify k fun a=>IntKind.i64.wrap (a + z)
def colStep (rows : List Int) (k : Nat) (M : List (List Int)) (x : Side) : List (List Int):=if rows.contains x.cell then addAt M (lbI rows x.cell) k x.sign else M
def cellAt (tab : List Cl) (id : Int) : Cl:=(findT tab id).getD zeroC
def matTo (tab : List Cl) (rows cols : List Int) : Nat → List (List Int)
 | 0=>List.replicate rows.length (List.replicate cols.length 0)
 | k + 1=>(cellAt tab (cols.getD k 0)).sides.foldl (colStep rows k) (matTo tab rows cols k)
def Shape (M : List (List Int)) (R C : Nat) : Prop:=M.length = R ∧ ∀ r ∈ M,r.length = C ∧ ∀ n ∈ r,-9223372036854775808 ≤ n ∧ n < 9223372036854775808
theorem wrap_range (n : Int) : -9223372036854775808 ≤ IntKind.i64.wrap n ∧ IntKind.i64.wrap n < 9223372036854775808:=by rw [IntKind.wrap_i64]; omega
theorem mem_modify {α : Type} {f : α → α} {x : α} : ∀ {l : List α} {i : Nat},x ∈ l.modify i f → x ∈ l ∨ ∃ y ∈ l,x = f y
 | [],_,h=>by simp at h
 | a :: t,0,h=>by
  simp only [List.modify_cons,if_true,List.mem_cons] at h
  rcases h with h | h
  ·exact .inr ⟨a,by simp,h⟩
  ·exact .inl (by simp [h])
 | a :: t,i + 1,h=>by
  simp only [List.modify_cons,Nat.add_one_ne_zero,if_false,Nat.add_sub_cancel,List.mem_cons] at h
  rcases h with h | h
  ·exact .inl (by simp [h])
  ·rcases mem_modify h with h | ⟨y,hy,e⟩
   ·exact .inl (by simp [h])
   ·exact .inr ⟨y,by simp [hy],e⟩
theorem Shape.addAt {M : List (List Int)} {R C : Nat} (h : Shape M R C) (i k : Nat) (z : Int) : Shape (addAt M i k z) R C:=by
 refine ⟨by unfold Go.Proofs.YtkdibcicncjpdaaGreatDoor.addAt; rw [List.length_modify]; exact h.1,fun r hr=>?_⟩
 rcases mem_modify hr with hr | ⟨r0,hr0,rfl⟩
 ·exact h.2 r hr
 ·refine ⟨by rw [List.length_modify]; exact (h.2 r0 hr0).1,fun n hn=>?_⟩
  rcases mem_modify hn with hn | ⟨m,hm,rfl⟩
  ·exact (h.2 r0 hr0).2 n hn
  ·exact wrap_range _
theorem Shape.step {M : List (List Int)} {R C : Nat} (h : Shape M R C) (rows : List Int) (k : Nat) (x : Side) : Shape (colStep rows k M x) R C:=by
 unfold colStep
 split
 ·exact h.addAt _ _ _
 ·exact h
theorem Shape.fold {R C : Nat} (rows : List Int) (k : Nat) : ∀ (l : List Side) {M : List (List Int)},Shape M R C → Shape (l.foldl (colStep rows k) M) R C
 | [],_,h=>h
 | x :: l,_,h=>Shape.fold rows k l (h.step rows k x)
theorem matTo_shape (tab : List Cl) (rows cols : List Int) : ∀ k,Shape (matTo tab rows cols k) rows.length cols.length
 | 0=>⟨by simp [matTo],fun r hr=>by
  simp only [matTo] at hr
  obtain ⟨_,rfl⟩:=List.mem_replicate.1 hr
  refine ⟨by simp,fun n hn=>?_⟩
  obtain ⟨_,rfl⟩:=List.mem_replicate.1 hn
  decide⟩
 | k + 1=>Shape.fold rows k _ (matTo_shape tab rows cols k)
def matRes (tab : List Cl) (rows cols : List Int) : Nat × Nat × List Int :=
 if decide ((rows.length : Int) > 200) || decide ((cols.length : Int) > 200) then (0,0,[]) else if rows.length = 0 then (0,cols.length,[]) else (rows.length,cols.length,(matTo tab rows cols cols.length).flatten)
theorem matRes_ok (tab : List Cl) (rows cols : List Int) : MatOk (matRes tab rows cols):=by
 unfold matRes
 split
 ·exact ⟨by decide,by decide,by decide⟩
 ·rename_i h
  rw [Bool.or_eq_true,decide_eq_true_iff,decide_eq_true_iff] at h
  split
  ·exact ⟨by dsimp only; omega,by dsimp only; omega,by simp⟩
  ·have hs:=matTo_shape tab rows cols cols.length
   refine ⟨by dsimp only; omega,by dsimp only; omega,?_⟩
   dsimp only
   rw [flat_len (C:=cols.length) fun r hr=>(hs.2 r hr).1,hs.1]
theorem Shape.rows {M : List (List Int)} {R C : Nat} (h : Shape M R C) (h0 : 0 < R) (h1 : R ≤ 200) (h2 : C ≤ 200) : Rows M C :=
 ⟨fun r hr=>(h.2 r hr).1,fun r hr=>(h.2 r hr).2,by rw [h.1]; exact h0,by rw [h.1]; exact h1,h2⟩
def rowI (v : Sv) (l : List Int) : Ent:=rowA encInt 3 (.slice v.p v.n v.c) l
def ownR : List Sv → List (List Int) → Own
 | v :: vs,l :: ls=>rowI v l :: ownR vs ls
 | _,_=>[]
theorem ownR_append : ∀ {vs : List Sv} {ls : List (List Int)} (v : Sv) (l : List Int),vs.length = ls.length → ownR (vs ++ [v]) (ls ++ [l]) = ownR vs ls ++ [rowI v l]
 | [],[],_,_,_=>rfl
 | x :: vs,y :: ls,v,l,h=>by
  simp only [List.cons_append,ownR]
  rw [ownR_append v l (by simpa using h)]
 | [],_ :: _,_,_,h=>by simp at h
 | _ :: _,[],_,_,h=>by simp at h
theorem ownR_get : ∀ {vs : List Sv} {ls : List (List Int)} {i : Nat} {v : Sv} {l : List Int},vs[i]? = some v → ls[i]? = some l → (ownR vs ls)[i]? = some (rowI v l)
 | x :: vs,y :: ls,0,v,l,h1,h2=>by simp at h1 h2; subst h1; subst h2; rfl
 | x :: vs,y :: ls,i + 1,v,l,h1,h2=>by simp at h1 h2; simpa [ownR] using ownR_get h1 h2
 | [],_,_,_,_,h1,_=>by simp at h1
 | _ :: _,[],_,_,_,_,h2=>by simp at h2
theorem ownR_length : ∀ {vs : List Sv} {ls : List (List Int)},vs.length = ls.length → (ownR vs ls).length = ls.length
 | [],[],_=>rfl
 | x :: vs,y :: ls,h=>by simp [ownR,ownR_length (vs:=vs) (ls:=ls) (by simpa using h)]
 | [],_ :: _,h=>by simp at h
 | _ :: _,[],h=>by simp at h
theorem ownR_set : ∀ {vs : List Sv} {ls : List (List Int)} {i : Nat} {v : Sv} (l : List Int),vs[i]? = some v → vs.length = ls.length → (ownR vs ls).set i (rowI v l) = ownR vs (ls.set i l)
 | x :: vs,y :: ls,0,v,l,h,_=>by simp at h; subst h; rfl
 | x :: vs,y :: ls,i + 1,v,l,h,hl=>by
  simp only [ownR,List.set_cons_succ]
  rw [ownR_set l (by simpa using h) (by simpa using hl)]
 | [],_,_,_,_,h,_=>by simp at h
 | _ :: _,[],_,_,_,_,h=>by simp at h
theorem freezeR {E : World} {s : Own} {w : World} : ∀ {vs : List Sv} {ls : List (List Int)} {g : PH},vs.length = ls.length → (∀ v ∈ vs,∀ l ∈ ls,v.n = l.length) → At E g (ownR vs ls ++ s) w → ∃ g',Le g g' ∧ At E g' s w ∧ All2 (ListR g') ls vs
 | [],[],g,_,_,h=>⟨g,Le.refl g,h,trivial⟩
 | v :: vs,l :: ls,g,h1,hn,h=>by
  obtain ⟨g1,hl1,ha1,hs1⟩:=At.freezeRow h
  obtain ⟨g2,hl2,ha2,hs2⟩:=freezeR (by simpa using h1) (fun v hv l hl=>hn v (by simp [hv]) l (by simp [hl])) ha1
  exact ⟨g2,hl1.trans hl2,ha2,SlA.mono hs1 hl2,hs2⟩
 | [],_ :: _,_,h1,_,_=>by simp at h1
 | _ :: _,[],_,h1,_,_=>by simp at h1
theorem freezeLs {E : World} {s : Own} {w : World} {vs : List Sv} {ls : List (List Int)} {g : PH} {u : Value} (h1 : vs.length = ls.length) (hn : ∀ v ∈ vs,∀ l ∈ ls,v.n = l.length) (h : At E g (rowA encSv 27 u vs :: (ownR vs ls ++ s)) w) : ∃ g',Le g g' ∧ At E g' s w ∧ Lists g' u ls:=by
 obtain ⟨g1,hl1,ha1,hs1⟩:=At.freezeRow h
 obtain ⟨g2,hl2,ha2,hs2⟩:=freezeR h1 hn ha1
 exact ⟨g2,hl1.trans hl2,ha2,vs,SlA.mono hs1 hl2,hs2⟩
theorem SC.freezeLs {P : Program} {N : Nat} {E : World} {Q : Exit → Act → World → Prop} {f : Fr} {g : PH} {s : Own} {o : Code} {vs : List Sv} {ls : List (List Int)} {u : Value} (h1 : vs.length = ls.length) (hn : ∀ v ∈ vs,∀ l ∈ ls,v.n = l.length) (h : ∀ g',Le g g' → Lists g' u ls → SC P N E o Q f g' s) : SC P N E o Q f g (rowA encSv 27 u vs :: (ownR vs ls ++ s)):=fun a w ha hw=>by
 obtain ⟨g',h2,h3,h4⟩:=Go.Proofs.YtkdibcicncjpdaaGreatDoor.freezeLs h1 hn hw
 exact h g' h2 h4 a w ha h3
end Go.Proofs.YtkdibcicncjpdaaGreatDoor
