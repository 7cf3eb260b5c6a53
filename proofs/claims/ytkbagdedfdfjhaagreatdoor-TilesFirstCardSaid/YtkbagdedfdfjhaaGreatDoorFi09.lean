/- 9 -/
import Derived.Test.YtkbagdedfdfjhaaGreatDoorFi08
import Derived.Test.YtkbagdedfdfjhaaGreatDoorFi03
import Derived.Test.YtkbagdedfdfjhaaGreatDoorFi05
import Derived.Test.YtkbagdedfdfjhaaGreatDoorFi07
import Derived.SizedLaws
import Derived.Test.YtkbagdedfdfjhaaGreatDoorFi06
set_option linter.unusedSimpArgs false
set_option linter.unusedVariables false
namespace Go.Proofs.YtkbagdedfdfjhaaGreatDoor
open _root_.Go.Proofs.Tryz _root_.Go.Proofs.YtkbagdedfdfjhaaGreatDoor.Tryz
open Go Go.Sy Go.Pl Go.Proofs
set_option maxRecDepth 100000
set_option maxHeartbeats 1000000
theorem Ef (E:World)(g0:PH)(bt bu:Nat)(tv uv:Value)(A B:List Cl)(hT:Tab g0 tv A)(hU:Tab g0 uv B)(hA:cZ A)(hnA:(A.map Cl.id).Nodup)(h1:g0 bt=some (.cells #[tv] 88 (0,0)))(h2:g0 bu=some (.cells #[uv] 88 (0,0))) :
  qr E (.func (.func 48) #[] #[pp bt 0,pp bu 0]) (ox A B) A g0:=by
 intro g s c r hle0 hmem hc;replace hT:=hT.mono hle0;replace hU:=hU.mono hle0;replace h1:=hle0 _ _ h1;replace h2:=hle0 _ _ h2;obtain ⟨rp,rcap,rfl,hcs⟩:=eo hc;refine cI.mk (cap:=[pp bt 0,pp bu 0]) call48 ?_;have hT0:=hT;obtain ⟨ba,ma,iva,ra,rfl,hba,hma,hIa,halla⟩:=hT;obtain ⟨bb,mb,ivb,rb,rfl,hbb,hmb,hIb,hallb⟩:=hU;have hcl:=fun id (h:id∈cu A [c.id])=>yw h;have hmp:ox A B c=(cu A [c.id]).all (sO A B):=rfl;generalize hC:cu A [c.id]=C at *;refine za9 (args:=[rcv ⟨c.id,c.dim,⟨rp,c.sides.length,rcap⟩⟩,pp bt 0,pp bu 0]) func48 I ntmps48 (bE I) ?_;refine rZ (bW (bO I) fun b3=>?_);refine aT I (sQ (rZ (lK (qL isAgg88 I (cK h1 I)) (lU (fA ar I zT3 I) (lK (qL (v:=vi c.id) iT3 I (cO 0 I I)) (lW (bS sty25 I I I (ae ⟨I,trivial⟩) dC) ?_))))));rintro _ _ _ ⟨b11,rfl,rfl,rfl⟩;refine zb3 fun g1 hle1 hb11=>?_;have hi1:bT g1 (.slice (some ⟨b11,0,none⟩) 1 1) [c.id]:=SlA.lit hb11 rfl rfl;refine lW (cL call49 I (jU E g1 _ _ _ A [c.id] (hT0.mono hle1) hA hi1 (by simp))) ?_;rintro _ g2 _ ⟨m,rfl,hle2,rfl⟩;rw[hC];refine SL.freezeMap fun g3 hle3 hm3=>?_;obtain ⟨es,clk,hes,hmi⟩:=hm3;refine lW (SO.range underlying97 I hes) ?_;rintro _ _ _ ⟨it,rfl,rfl,rfl⟩;refine tZ (bK ?_);have hle13:=hle1.trans (hle2.trans hle3);refine oP (ι:=List MapEntry×List (Int×Value)) (fun _=>[(1,pp bt 0),(2,pp bu 0),(13,pp it 0)]) (fun _=>g3)
  (fun i=>j6 it m es clk i.1::pt b3 (.cells #[vi c.id,vi c.dim,.slice rp c.sides.length rcap] 78 (0,0))::s)
  (fun i=>qz (ka C) es i.1 i.2∧∀ p∈i.2,sO A B p.1=true) (fun i=>C.length - i.2.length)
  ([],[]) sB rfl rfl ⟨qz.nil _ _,by simp⟩ ?_
 rintro ⟨vis,vl⟩ ⟨hrv,hgood⟩;dsimp only at hrv hgood ⊢;have hvle:=hrv.len hmi;simp only[ka,ze3] at hvle;refine rZ (lW (SO.nextP 0 I I hes hmi hrv) ?_);rintro _ _ _ ⟨rfl,hcase⟩
 rcases hcase with ⟨rfl,rfl,hperm⟩ | ⟨e,pr,he,hp1,hk1,hv1,hrv2,rfl,rfl⟩
 ·have hall:ox A B c=true:=by
   rw[hmp,zj6];intro id hid;have:(id,vb true)∈ka C:=ze8.2 ⟨id,hid,rfl⟩;exact hgood _ (hperm.symm.subset this)
  refine yX I (tZ (sQ (cF I (xI (tX (tX (bX (tN (rZ (aT I (rE ?_)))))))))));refine dR (s':=s) (.cons _ (.cons _ (.refl _))) (ST.less hle13 ?_);exact za6 (.inl I) results48 I ⟨by rw[hall],I,I⟩
 ·obtain ⟨id,hid,rfl⟩:=ze8.1 hp1;have hvl2:=hrv2.len hmi;simp only[ka,ze3,ze2,ze4] at hvl2;obtain ⟨x,hx⟩:=hcl id hid;obtain ⟨hxm,hxid⟩:=bF hx;have hxl:=hA.2 x hxm;obtain ⟨y,hy1,hy2,hy3⟩:=ie halla qn id;have hy3':au g ((az A id).getD gt) y:=hy3;rw[hx] at hy3';obtain ⟨yi,yd,yp,yn,yc⟩:=y;obtain ⟨z,hz1,hz2,hz3⟩:=ie hallb qn id;obtain ⟨zi,zd,zp,zn,zc⟩:=z;have hz2':(ft (rb.map c8) id).isSome=(az B id).isSome:=hz2;have hz3':au g ((az B id).getD gt) ⟨zi,zd,zp,zn,zc⟩:=hz3;cases hf0:az B id with
  | none =>
   have hbad:ox A B c=false:=by
    rw[hmp,List.all_eq_false];exact⟨id,hid,by unfold sO; rw[hf0]; simp⟩
   refine yX I (tZ (sQ (cT I (kP (tN (bK (rZ (lK (SQ.entryP 0 I I hes hmi he hk1 hv1) (yX I (aT I (rZ (lK (qL isAgg88 I (cK (hle13 _ _ h2) I)) (lU (nC I) (lU (fA qv I tu I) (lK (qL isAgg85 I (cK (hle13 _ _ hbb) I)) (lM I (lK (SQ.eq (v':=.tuple #[rcv ⟨zi,zd,zp,zn,zc⟩,vb false]) (SQ.lookupOk mty85 I I (cG.known (hmb.mono hle13))) (by rw[hz1,hz2',hf0]; rfl)) ?_)))))))))))))))));refine lM I (yX I (yX I (bW (aL zl1) fun b6=>?_)));refine oZ (sK 0 aK I I I I I sB) ?_;refine aT I (sQ ?_);refine dW [] [(0,2),(1,2),(2,2),(3,1),(4,2),(5,2),(6,1),(7,2),(8,1),(9,1),(10,0),(11,2),(12,2)] zd9 kR ?_;refine yM I (pU I (SU.not I) (yM I (yI I (yG I (yG I (yI I (yG I (yI I (yI I (fO I (gZ I I I dC) dC ⟨by exact zb7 _,(by exact .refl _)⟩ ?_))))))))));refine yG I (pU I (wT I I) (pN (tN (cT I (rZ (aT I (rE (bR (tR (bR (tR ?_)))))))))));refine dR (s':=s) (.cons _ (.cons _ (.cons _ (.refl _)))) (ST.less hle13 ?_);exact za6 (.inl I) results48 I ⟨by rw[hbad],I,I⟩
  | some w =>
   rw[hf0] at hz3';have hwr:au g w ⟨zi,zd,zp,zn,zc⟩:=hz3';have hmi0:sO A B id=decide (x=w):=by unfold sO; rw[hf0,hx]; rfl
   refine yX I (tZ (sQ (cT I (kP (tN (bK (rZ (lK (SQ.entryP 0 I I hes hmi he hk1 hv1) (yX I (aT I (rZ (lK (qL isAgg88 I (cK (hle13 _ _ h2) I)) (lU (nC I) (lU (fA qv I tu I) (lK (qL isAgg85 I (cK (hle13 _ _ hbb) I)) (lM I (lK (SQ.eq (v':=.tuple #[rcv ⟨zi,zd,zp,zn,zc⟩,vb true]) (SQ.lookupOk mty85 I I (cG.known (hmb.mono hle13))) (by rw[hz1,hz2',hf0]; rfl)) ?_)))))))))))))))));refine lM I (yX I (yX I (bW (aL zl1) fun b6=>?_)));refine oZ (sK 0 aK I I I I I sB) ?_;refine aT I (sQ ?_);refine dW [] [(0,2),(1,2),(2,2),(3,1),(4,2),(5,2),(6,1),(7,2),(8,1),(9,1),(10,0),(11,2),(12,2)] zd9 kR ?_;refine yM I (pU I (SU.not I) (yM I (SP.gq I (gT I I I dC) (qL isAgg88 I (cK (hle13 _ _ h1) I)) dC (zb1 I (gT I I I dC) (nC I) dC (zb1 I (gT I I I dC) (fA qv I tu I) dC (SP.gq I (gT I I I dC) (qL isAgg85 I (cK (hle13 _ _ hba) I)) dC (yJ I (SP.gq I (gT I I I dC) (SQ.eq (v':=rcv ⟨yi,yd,yp,yn,yc⟩) (SQ.lookup mty85 I I (cG.known (hma.mono hle13))) (by rw[hy1])) dC ?_))))))));refine SP.gq I (gT I I I dC) (qV 0 gJ aK I I I) dC (SP.go I (gT I I I dC) (cL call50 I (BV E g3 _ x w ⟨yi,yd,yp,yn,yc⟩ ⟨zi,zd,zp,zn,zc⟩ (hy3'.mono hle13) (hwr.mono hle13) hxl)) dC (.inr iR) ?_);rintro _ _ _ ⟨rfl,rfl,rfl⟩;refine zb1 I (gT I I I dC) (SU.notP I) dC (pU I (wF I I) (pN (tN ?_)));refine iP I (fun hne=>?_) (fun hne=>?_)
   ·have hbad:ox A B c=false:=by
     rw[hmp,List.all_eq_false];exact⟨id,hid,by rw[hmi0]; simpa using hne⟩
    refine rZ (aT I (rE (bR (tR (bR (tR ?_))))));refine dR (s':=s) (.cons _ (.cons _ (.cons _ (.refl _)))) (ST.less hle13 ?_);exact za6 (.inl I) results48 I ⟨by rw[hbad],I,I⟩
   ·have hxw:x=w:=zg6 hne;refine kP (bN (dR (s':=j6 it m es clk (vis++[e])::pt b3 (.cells #[vi c.id,vi c.dim,.slice rp c.sides.length rcap] 78 (0,0))::s) (.cons _ (.refl _)) ?_));exact gA (vis++[e],vl++[(id,vb true)]) sB I I ⟨hrv2,fun p hp=>by
     rcases ze9.1 hp with hp | hp
     ·exact hgood p hp
     ·simp at hp; subst hp; rw[hmi0]; simpa using hxw⟩ lN
theorem Ee (E:World)(g:PH)(s:Own)(v u:Value)(a b:List Cl)(hv:am g v a)(hu:am g u b)(ha:cZ a)(hb:cZ b) :
  Ctr Tryz.prog E 16 #[.agg #[v],.agg #[u]] g s (fun r g' s'=>s=s'∧Le g g'∧∃ x,r = .agg #[x]∧nn (mns g' g) x (An (ab a) (ab b))):=by
 obtain ⟨p1,c1,rfl⟩:=hv.form;obtain ⟨p2,c2,rfl⟩:=hu.form;have hfa:=e6 ha;have hnA:=eP a;refine za9 (args:=[.agg #[.slice p1 a.length c1],.agg #[.slice p2 b.length c2]]) func16 I ntmps16 (bE I) ?_;refine rZ (bW (bO I) fun b2=>?_);refine bW (bO I) fun b3=>?_;refine bW (aL zl4) fun b4=>?_;refine tZ ?_;refine SC.cut (ι:=Nat×Nat×Value×Value×PH) (fun i=>[(2,pp b2 0),(3,pp b3 0),(4,pp b4 0),(5,pp i.1 0),(6,pp i.2.1 0)]) (fun i=>i.2.2.2.2)
  (fun i=>pt i.2.1 (.cells #[i.2.2.2.1] 88 (0,0))::pt i.1 (.cells #[i.2.2.1] 88 (0,0))::pt b4 (.cells #[.slice none 0 0] 30 (0,0))::pt b3 (.cells #[.slice p2 b.length c2] 30 (0,0))::pt b2 (.cells #[.slice p1 a.length c1] 30 (0,0))::s)
  (fun i=>Le g i.2.2.2.2∧Dm (dB (mns i.2.2.2.2 g)) i.2.2.2.2 i.2.2.1 (ab a)∧Tab i.2.2.2.2 i.2.2.2.1 (ab b)) ?_ ?_
 ·refine SC.drawX [] zd9 kR ?_;refine SX.q (i:=0) I kR (qV 2 bq aw I I I) dC (SX.q (i:=2) I kR (qV 1 bq aw I I I) dC ?_)
  repeat' (first
   | ((with_reducible refine SB.k 7 ?_); first | (refine SB.on (i:=7) rfl (sK 0 sizeOf88 rfl rfl rfl rfl rfl sB) (.inr (by rintro _ _ _ ⟨rfl,rfl⟩; exact⟨by exact Le.trans (by assumption) (by assumption),(by exact .cons _ (.cons _ (.refl _)))⟩)) ?_; rintro _ _ _ ⟨rfl,rfl⟩) | (refine SB.on (i:=7) rfl (sK 1 sizeOf88 rfl rfl rfl rfl rfl sB) (.inr (by rintro _ _ _ ⟨rfl,rfl⟩; exact⟨by exact Le.trans (by assumption) (by assumption),(by exact .cons _ (.cons _ (.refl _)))⟩)) ?_; rintro _ _ _ ⟨rfl,rfl⟩))
   | ((with_reducible refine SB.k 6 ?_); first | (refine SB.on (i:=6) rfl (sK 1 sizeOf88 rfl rfl rfl rfl rfl sB) (.inr (by rintro _ _ _ ⟨rfl,rfl⟩; exact⟨by exact Le.trans (by assumption) (by assumption),(by exact .cons _ (.cons _ (.refl _)))⟩)) ?_; rintro _ _ _ ⟨rfl,rfl⟩) | (refine SB.on (i:=6) rfl (sK 0 sizeOf88 rfl rfl rfl rfl rfl sB) (.inr (by rintro _ _ _ ⟨rfl,rfl⟩; exact⟨by exact Le.trans (by assumption) (by assumption),(by exact .cons _ (.cons _ (.refl _)))⟩)) ?_; rintro _ _ _ ⟨rfl,rfl⟩))
   | ((with_reducible refine SB.k 5 ?_); first | (refine SB.o (i:=5) rfl (aL zl5) dC (.inr (by rintro _ _ _ ⟨b6,rfl,rfl,rfl⟩; exact⟨by assumption,(by exact .cons _ (.refl _))⟩)) ?_; rintro _ _ _ ⟨b6,rfl,rfl,rfl⟩) | (refine SB.o (i:=5) rfl (aL zl5) dC (.inr (by rintro _ _ _ ⟨b6,rfl,rfl,rfl⟩; exact⟨by exact zb7 _,(by exact .cons _ (.refl _))⟩)) ?_; rintro _ _ _ ⟨b6,rfl,rfl,rfl⟩) | (refine SB.o (i:=5) rfl (aL zl5) dC (.inr (by rintro _ _ _ ⟨b6,rfl,rfl,rfl⟩; exact⟨by assumption,(by exact .cons _ (.cons _ (.refl _)))⟩)) ?_; rintro _ _ _ ⟨b6,rfl,rfl,rfl⟩) | (refine SB.o (i:=5) rfl (aL zl5) dC (.inr (by rintro _ _ _ ⟨b6,rfl,rfl,rfl⟩; exact⟨by exact zb7 _,(by exact .cons _ (.cons _ (.refl _)))⟩)) ?_; rintro _ _ _ ⟨b6,rfl,rfl,rfl⟩) | (refine SB.o (i:=5) rfl (aL zl5) dC (.inr (by rintro _ _ _ ⟨b6,rfl,rfl,rfl⟩; exact⟨by exact Le.trans (by assumption) (by assumption),(by exact .cons _ (.refl _))⟩)) ?_; rintro _ _ _ ⟨b6,rfl,rfl,rfl⟩) | (refine SB.o (i:=5) rfl (aL zl5) dC (.inr (by rintro _ _ _ ⟨b6,rfl,rfl,rfl⟩; exact⟨by exact Le.trans (by assumption) (by assumption),(by exact .cons _ (.cons _ (.refl _)))⟩)) ?_; rintro _ _ _ ⟨b6,rfl,rfl,rfl⟩))
   | ((with_reducible refine SB.k 4 ?_); first | (refine SB.o (i:=4) rfl (aL zl5) dC (.inr (by rintro _ _ _ ⟨b5,rfl,rfl,rfl⟩; exact⟨by assumption,(by exact .cons _ (.refl _))⟩)) ?_; rintro _ _ _ ⟨b5,rfl,rfl,rfl⟩) | (refine SB.o (i:=4) rfl (aL zl5) dC (.inr (by rintro _ _ _ ⟨b5,rfl,rfl,rfl⟩; exact⟨by exact zb7 _,(by exact .cons _ (.refl _))⟩)) ?_; rintro _ _ _ ⟨b5,rfl,rfl,rfl⟩) | (refine SB.o (i:=4) rfl (aL zl5) dC (.inr (by rintro _ _ _ ⟨b5,rfl,rfl,rfl⟩; exact⟨by assumption,(by exact .cons _ (.cons _ (.refl _)))⟩)) ?_; rintro _ _ _ ⟨b5,rfl,rfl,rfl⟩) | (refine SB.o (i:=4) rfl (aL zl5) dC (.inr (by rintro _ _ _ ⟨b5,rfl,rfl,rfl⟩; exact⟨by exact zb7 _,(by exact .cons _ (.cons _ (.refl _)))⟩)) ?_; rintro _ _ _ ⟨b5,rfl,rfl,rfl⟩) | (refine SB.o (i:=4) rfl (aL zl5) dC (.inr (by rintro _ _ _ ⟨b5,rfl,rfl,rfl⟩; exact⟨by exact Le.trans (by assumption) (by assumption),(by exact .cons _ (.refl _))⟩)) ?_; rintro _ _ _ ⟨b5,rfl,rfl,rfl⟩) | (refine SB.o (i:=4) rfl (aL zl5) dC (.inr (by rintro _ _ _ ⟨b5,rfl,rfl,rfl⟩; exact⟨by exact Le.trans (by assumption) (by assumption),(by exact .cons _ (.cons _ (.refl _)))⟩)) ?_; rintro _ _ _ ⟨b5,rfl,rfl,rfl⟩))
   | ((with_reducible refine SB.k 3 ?_); first | (refine SB.o (i:=3) rfl (cL call42 rfl (jo E g1 _ _ b (hu.mono hle1) hb)) dC (.inr (by rintro uv g2 _ ⟨rfl,hle2,hut⟩; exact⟨by exact Le.trans (by assumption) (by assumption),(by exact .refl _)⟩)) ?_; rintro uv g2 _ ⟨rfl,hle2,hut⟩; obtain ⟨bu,rfl⟩:=hut.ptr) | (refine SB.o (i:=3) rfl (cL call42 rfl (jo E g1 _ _ b (hu.mono hle1) hb)) dC (.inr (by rintro uv g2 _ ⟨rfl,hle2,hut⟩; exact⟨by exact Le.trans (by assumption) (by assumption),(by exact .cons _ (.refl _))⟩)) ?_; rintro uv g2 _ ⟨rfl,hle2,hut⟩; obtain ⟨bu,rfl⟩:=hut.ptr) | (refine SB.o (i:=3) rfl (cL call42 rfl (jo E g1 _ _ b (hu.mono hle1) hb)) dC (.inr (by rintro uv g2 _ ⟨rfl,hle2,hut⟩; exact⟨by exact Le.trans (by assumption) (by assumption),(by exact .cons _ (.cons _ (.refl _)))⟩)) ?_; rintro uv g2 _ ⟨rfl,hle2,hut⟩; obtain ⟨bu,rfl⟩:=hut.ptr))
   | ((with_reducible refine SB.k 1 ?_); first | (refine SB.o (i:=1) rfl (cL call42 rfl (tq E g _ _ a hv ha)) dC (.inr (by rintro tv g1 _ ⟨rfl,hle1,htk⟩; exact⟨by assumption,(by exact .refl _)⟩)) ?_; rintro tv g1 _ ⟨rfl,hle1,htk⟩; have ht:Tab g1 tv (ab a):=htk.mono (zb7 _) fun _ _=>dB.cr (fv _ _); obtain ⟨bt,rfl⟩:=ht.ptr) | (refine SB.o (i:=1) rfl (cL call42 rfl (tq E g _ _ a hv ha)) dC (.inr (by rintro tv g1 _ ⟨rfl,hle1,htk⟩; exact⟨by assumption,(by exact .cons _ (.refl _))⟩)) ?_; rintro tv g1 _ ⟨rfl,hle1,htk⟩; have ht:Tab g1 tv (ab a):=htk.mono (zb7 _) fun _ _=>dB.cr (fv _ _); obtain ⟨bt,rfl⟩:=ht.ptr) | (refine SB.o (i:=1) rfl (cL call42 rfl (tq E g _ _ a hv ha)) dC (.inr (by rintro tv g1 _ ⟨rfl,hle1,htk⟩; exact⟨by assumption,(by exact .cons _ (.cons _ (.refl _)))⟩)) ?_; rintro tv g1 _ ⟨rfl,hle1,htk⟩; have ht:Tab g1 tv (ab a):=htk.mono (zb7 _) fun _ _=>dB.cr (fv _ _); obtain ⟨bt,rfl⟩:=ht.ptr))
   | ((with_reducible refine SX.k 5 ?_); first | refine zd3 1 5 kD ?_ ?_ | refine zd3 1 4 kD ?_ ?_ | refine SX.br3 3 4 5 kD ?_ ?_ ?_)
   | ((with_reducible refine SX.k 4 ?_); first | refine zd2 1 kD ?_ | refine zd3 4 5 kD ?_ ?_ | refine zd3 3 5 kD ?_ ?_ | refine zd3 3 4 kD ?_ ?_)
   | ((with_reducible refine SX.k 3 ?_); first | refine zd2 5 kD ?_ | refine zd2 4 kD ?_ | refine zd2 3 kD ?_)
   | ((with_reducible refine SX.k 2 ?_); refine zd2 6 kD ?_)
   | ((with_reducible refine SX.k 1 ?_); refine zd2 7 kD ?_)
   | ((with_reducible refine SX.k 0 ?_); refine SX.nil kD ?_; first | exact za7 (b5,b6,pp bt 0,pp bu 0,g2) sB rfl rfl ⟨hle1.trans hle2,htk.mono hle2 fun _ _=>dB.mono (iM hle2),hut⟩ | (refine ST.perm (zj7 _ _ _) ?_; exact za7 (b5,b6,pp bt 0,pp bu 0,g2) sB I I ⟨hle1.trans hle2,htk.mono hle2 fun _ _=>dB.mono (iM hle2),hut⟩))
   | (refine SX.k 6 ?_; refine SX.br3 1 4 5 kD ?_ ?_ ?_))
 rintro ⟨b5,b6,tv,uv,g2⟩ ⟨hle,htk,hut⟩;dsimp only at hle htk hut ⊢;have ht:Tab g2 tv (ab a):=htk.mono (zb7 _) fun _ _=>dB.cr (fv _ _);refine SC.freeze fun g3 hl3 hb6=>?_;refine SC.freeze fun g4 hl4 hb5=>?_;have hle4:=hle.trans (hl3.trans hl4);have ht4:=ht.mono (hl3.trans hl4);have hut4:=hut.mono (hl3.trans hl4);refine rZ (lK (qL isAgg88 I (cK hb5 I)) (lU (SU.mkFunc I) (lW (cL call47 I (se (dB (mns g2 g)) E g4 _ _ _ (ab a) (ox (ab a) (ab b)) (fun _ _ h=>dB.cr ((fv _ _).trans (hl3.trans hl4)) h) (htk.mono (hl3.trans hl4) fun _ _ h=>h) hnA hfa (Ef E g4 b5 b6 _ _ _ _ ht4 hut4 hfa hnA hb5 (hl4 _ _ hb6)))) ?_)));rintro _ g5 _ ⟨rfl,hle5,x,rs9,rfl,hx1,hx2⟩;have hx:nn (mns g5 g) x _:=⟨rs9,hx1.mono (nF hle4),hx2.mono fun _ _=>dB.mono (iM ((hl3.trans hl4).trans hle5))⟩;obtain ⟨q,d,rfl⟩:=hx1.form;refine oZ (sK 0 aw I I I I I sB) ?_;refine tZ (rE ?_);exact ST.retCD 0 s (.inl I) results16 I bq aw I I uR ⟨I,hle4.trans hle5,_,I,hx⟩
theorem Cm (E:World)(g:PH)(s:Own)(v u:Value)(a b:List Cl)(hv:am g v a)(hu:am g u b)(ha:cZ a)(hb:cZ b) :
  Ctr Tryz.prog E 16 #[.agg #[v],.agg #[u]] g s (fun r g' s'=>s=s'∧Le g g'∧∃ x,r = .agg #[x]∧am g' x (An (ab a) (ab b))) :=
 (Ee E g s v u a b hv hu ha hb).mono fun _ _ _ ⟨h1,h2,x,h3,h4⟩=>⟨h1,h2,x,h3,h4.cells (fv _ _)⟩
theorem Tryz.sty114:STy Tryz.prog 114 4 1 1 (vb false):=⟨underlying114,⟨t4,by kernel_rfl,by kernel_rfl,by kernel_rfl,by kernel_rfl⟩,rfl,by decide⟩
def iE:Enc Bool 1:=⟨fun n=>[vb n],fun _=>rfl,fun _ u hu=>by simp at hu; subst hu; rfl,by decide⟩
def fJ (A:List Cl)(m:List Int):List Bool:=A.map fun c=>m.contains c.id
theorem CH (A:List Cl):fJ A []=List.replicate A.length false:=by
 unfold fJ;induction A with
 | nil=>rfl
 | cons d t ih=>simp[List.replicate_succ] at ih ⊢; exact ih
theorem CI {A:List Cl}{m:List Int}{k:Nat}{c:Cl}(h:A[k]?=some c):(fJ A m)[k]?=some (m.contains c.id):=by simp[fJ,h]
theorem CG {A:List Cl}{m:List Int}{k:Nat}{c:Cl}(hn:(A.map Cl.id).Nodup)(h:A[k]?=some c):(fJ A m).set k true=fJ A (m++[c.id]):=by
 obtain ⟨hk,hc⟩:=zf2.1 h;apply List.ext_getElem?;intro q;rw[List.getElem?_set];unfold fJ;simp only[zh6,ze3];split
 ·rename_i e;subst e;simp[hk,hc]
 ·rename_i hne;cases hq:A[q]? with
  | none=>rfl
  | some d =>
   obtain ⟨hq1,hq2⟩:=zf2.1 hq;have hd:¬ d.id=c.id:=fun e=>by
    have h1:(A.map Cl.id)[q]?=some c.id:=by simp[hq,e]
    have h2:(A.map Cl.id)[k]?=some c.id:=by simp[h]
    obtain ⟨i1,e1⟩:=zf2.1 h1;obtain ⟨i2,e2⟩:=zf2.1 h2
    rcases Nat.lt_or_gt_of_ne hne with h3 | h3
    ·exact zc6.1 hn k q i2 i1 h3 (e2.trans e1.symm)
    ·exact zc6.1 hn q k i1 i2 h3 (e1.trans e2.symm)
   simp[hd]
def Al (L:List (Int×List ai)):List (Int×Int):=L.foldl (fun zl p=>p.2.foldl (fun zl r=>gL zl r.cell (p.1 * r.sign)) zl) []
def Fz (L:List (Int×List ai)):List (Int×List Int):=L.zipIdx.foldl (fun ml p=>p.1.2.foldl (ew p.2) ml) []
def l7 (L:List (Int×List ai)):Int :=
 if (Al L).any (fun p=>decide (p.2≠0)) then 24
 else if (Fz L).any (fun p=>decide ((p.2.length:Int)≠2)) then 25
 else if ((ji (c4 (Fz L))).length:Int)≠L.length then 25 else 0
def oy (tl:List Cl)(c:Cl):List (Int×List ai):=c.sides.map fun x=>(x.sign,ao tl x)
theorem o9 (tl:List Cl)(c:Cl):cC tl c=l7 (oy tl c):=by
 have h1:gS tl c.sides=Al (oy tl c):=by
  unfold gS Al oy;rw[List.foldl_map];rfl
 have h2:er tl c.sides=Fz (oy tl c):=by
  unfold er Fz oy;rw[List.zipIdx_map,List.foldl_map];rfl
 have h3:(oy tl c).length=c.sides.length:=by simp[oy]
 unfold cC l7;rw[h1,h2,h3]
def Dj (φ:Int→Int)(r:ai):ai:=⟨φ r.cell,r.sign⟩
def xl (φ:Int→Int)(L:List (Int×List ai)):List (Int×List ai):=L.map fun p=>(p.1,p.2.map (Dj φ))
def Ax (L:List (Int×List ai)):List Int:=L.flatMap fun p=>p.2.map ai.cell
def lr {α:Type}(φ:Int→Int)(zl:List (Int×α)):List (Int×α):=zl.map fun p=>(φ p.1,p.2)
section
variable {φ:Int→Int}{K:Int→Prop}(hφ:∀ a b,K a→K b→φ a=φ b→a=b)
include hφ
theorem EW {zl:List (Int×Int)}{k:Int}(x:Int)(hz:∀ p∈zl,K p.1)(hk:K k):gL (lr φ zl) (φ k) x=lr φ (gL zl k x):=by
 induction zl with
 | nil=>rfl
 | cons p r ih =>
  obtain ⟨a,z⟩:=p;have ha:=hz (a,z) (by simp);simp only[lr,zg1,gL] at ih ⊢;by_cases h:k=a
  ·subst h; simp
  ·rw[zf6 h,zf6 fun e=>h (hφ k a hk ha e)];simp only[zg1];rw[ih fun p hp=>hz p (by simp[hp])]
theorem E1 {zl:List (Int×List Int)}{k:Int}(x:Int)(hz:∀ p∈zl,K p.1)(hk:K k):fE (lr φ zl) (φ k) x=lr φ (fE zl k x):=by
 induction zl with
 | nil=>rfl
 | cons p r ih =>
  obtain ⟨a,z⟩:=p;have ha:=hz (a,z) (by simp);simp only[lr,zg1,fE] at ih ⊢;by_cases h:k=a
  ·subst h; simp
  ·rw[zf6 h,zf6 fun e=>h (hφ k a hk ha e)];simp only[zg1];rw[ih fun p hp=>hz p (by simp[hp])]
omit hφ in
theorem EY {zl:List (Int×Int)}{k x:Int}(hz:∀ p∈zl,K p.1)(hk:K k):∀ p∈gL zl k x,K p.1:=by
 induction zl with
 | nil=>intro p hp; simp[gL] at hp; subst hp; exact hk
 | cons q r ih =>
  obtain ⟨a,z⟩:=q;have ha:=hz (a,z) (by simp);intro p hp;simp only[gL] at hp;split at hp
  ·rcases ze7.1 hp with rfl | hp
   ·exact ha
   ·exact hz p (by simp[hp])
  ·rcases ze7.1 hp with rfl | hp
   ·exact ha
   ·exact ih (fun p hp=>hz p (by simp[hp])) p hp
omit hφ in
theorem E2 {zl:List (Int×List Int)}{k x:Int}(hz:∀ p∈zl,K p.1)(hk:K k):∀ p∈fE zl k x,K p.1:=by
 induction zl with
 | nil=>intro p hp; simp[fE] at hp; subst hp; exact hk
 | cons q r ih =>
  obtain ⟨a,z⟩:=q;have ha:=hz (a,z) (by simp);intro p hp;simp only[fE] at hp;split at hp
  ·rcases ze7.1 hp with rfl | hp
   ·exact ha
   ·exact hz p (by simp[hp])
  ·rcases ze7.1 hp with rfl | hp
   ·exact ha
   ·exact ih (fun p hp=>hz p (by simp[hp])) p hp
theorem tI (t:Int):∀ (l:List ai) (zl:List (Int×Int)),(∀ r∈l,K r.cell)→(∀ p∈zl,K p.1) →
  (l.map (Dj φ)).foldl (fun zl r=>gL zl r.cell (t * r.sign)) (lr φ zl)=lr φ (l.foldl (fun zl r=>gL zl r.cell (t * r.sign)) zl)∧∀ p∈l.foldl (fun zl r=>gL zl r.cell (t * r.sign)) zl,K p.1
 | [],zl,_,hz=>⟨rfl,hz⟩
 | r::l,zl,hl,hz=>by
  have hr:=hl r (by simp);have:=tI t l (gL zl r.cell (t * r.sign)) (fun q hq=>hl q (by simp[hq])) (EY hz hr);simp only[zg1,zi5];rw[show (Dj φ r).cell=φ r.cell from rfl,show (Dj φ r).sign=r.sign from rfl,EW hφ _ hz hr];exact this
theorem xX (t:Int):∀ (l:List ai) (zl:List (Int×List Int)),(∀ r∈l,K r.cell)→(∀ p∈zl,K p.1) →
  (l.map (Dj φ)).foldl (ew t) (lr φ zl)=lr φ (l.foldl (ew t) zl)∧∀ p∈l.foldl (ew t) zl,K p.1
 | [],zl,_,hz=>⟨rfl,hz⟩
 | r::l,zl,hl,hz=>by
  have hr:=hl r (by simp);have:=xX t l (fE zl r.cell t) (fun q hq=>hl q (by simp[hq])) (E2 hz hr);simp only[zg1,zi5];rw[show ew t (lr φ zl) (Dj φ r)=lr φ (fE zl r.cell t) from E1 hφ _ hz hr];exact this
theorem xE:∀ (L:List (Int×List ai)) (zl:List (Int×Int)),(∀ k∈Ax L,K k)→(∀ p∈zl,K p.1) →
  (xl φ L).foldl (fun zl p=>p.2.foldl (fun zl r=>gL zl r.cell (p.1 * r.sign)) zl) (lr φ zl)=lr φ (L.foldl (fun zl p=>p.2.foldl (fun zl r=>gL zl r.cell (p.1 * r.sign)) zl) zl)
 | [],_,_,_=>rfl
 | p::L,zl,hl,hz=>by
  obtain ⟨h1,h2⟩:=tI hφ p.1 p.2 zl (fun r hr=>hl _ (List.mem_flatMap.2 ⟨p,by simp,ze8.2 ⟨r,hr,rfl⟩⟩)) hz;simp only[xl,zg1,zi5] at h1 ⊢;rw[h1];exact xE L _ (fun k hk=>hl k (by simp only[Ax,zh2,ze9]; exact .inr hk)) h2
theorem A9:∀ (L:List (Int×List ai)) (i:Nat) (zl:List (Int×List Int)),(∀ k∈Ax L,K k)→(∀ p∈zl,K p.1) →
  ((xl φ L).zipIdx i).foldl (fun ml p=>p.1.2.foldl (ew p.2) ml) (lr φ zl)=lr φ ((L.zipIdx i).foldl (fun ml p=>p.1.2.foldl (ew p.2) ml) zl)
 | [],_,_,_,_=>rfl
 | p::L,i,zl,hl,hz=>by
  obtain ⟨h1,h2⟩:=xX hφ i p.2 zl (fun r hr=>hl _ (List.mem_flatMap.2 ⟨p,by simp,ze8.2 ⟨r,hr,rfl⟩⟩)) hz;simp only[xl,zg1,List.zipIdx_cons,zi5] at h1 ⊢;rw[h1];exact A9 L (i+1) _ (fun k hk=>hl k (by simp only[Ax,zh2,ze9]; exact .inr hk)) h2
end
theorem BD {α:Type}(φ:Int→Int)(zl:List (Int×α))(q:α→Bool):(lr φ zl).any (fun p=>q p.2)=zl.any (fun p=>q p.2):=by
 simp only[lr,List.any_map];rfl
theorem Em (φ:Int→Int)(ml:List (Int×List Int)):c4 (lr φ ml)=c4 ml:=by
 simp only[c4,lr,List.foldl_map];rfl
theorem xb {φ:Int→Int}{L:List (Int×List ai)}(hφ:∀ a∈Ax L,∀ b∈Ax L,φ a=φ b→a=b):l7 (xl φ L)=l7 L:=by
 have h1:Al (xl φ L)=lr φ (Al L):=xE (K:=fun k=>k∈Ax L) (fun a b ha hb=>hφ a ha b hb) L [] (fun _ h=>h) (by simp);have h2:Fz (xl φ L)=lr φ (Fz L):=A9 (K:=fun k=>k∈Ax L) (fun a b ha hb=>hφ a ha b hb) L 0 [] (fun _ h=>h) (by simp);unfold l7;rw[h1,h2,BD φ _ fun z=>decide (z≠0),BD φ _ fun l:List Int=>decide ((l.length:Int)≠2),Em];have h3:(xl φ L).length=L.length:=by simp[xl]
 rw[h3]
def code (k q:Nat):Int:=if q<k then ((q * 16+k:Nat):Int) else ((k * 16+(q+1):Nat):Int)
def G2 (n:Nat):List (Int×List ai):=(List.range n).reverse.map fun k:Nat=>(cH k,(List.range (n - 1)).reverse.map fun q:Nat=>⟨code k q,cH q⟩)
theorem Ge:∀ n,n<10→2<n→l7 (G2 n)=0:=by decide +kernel
theorem iq (b:Nat)(a:Int)(l:List Int):ef b (a::l)=(if b % 2=1 then [a] else [])++ef (b / 2) l:=by
 unfold ef;have hz:∀ (l:List Int) (i:Nat),((l.zipIdx (i+1)).filter fun p=>b / 2 ^ p.2 % 2 == 1).map (·.1)=((l.zipIdx i).filter fun p=>b / 2 / 2 ^ p.2 % 2 == 1).map (·.1):=by
  intro l;induction l with
  | nil=>intro i; rfl
  | cons x r ih =>
   intro i;have hp:b / 2 ^ (i+1)=b / 2 / 2 ^ i:=by rw[Nat.pow_succ,Nat.mul_comm,Nat.div_div_eq_div_mul]
   simp only[List.zipIdx_cons,zi4,hp];have:=ih (i+1);split
   ·simp only[zg1,this]
   ·exact this
 simp only[List.zipIdx_cons,zi4,Nat.pow_zero,Nat.div_one];by_cases h:b % 2=1
 ·simp only[h,if_true,beq_self_eq_true,zg1];rw[hz l 0];rfl
 ·have h2:(b % 2 == 1)=false:=by simpa using h
  simp only[h,h2,if_false,Bool.false_eq_true];rw[hz l 0];rfl
theorem B9 (l:List Int):∀ b,(ef b l).Sublist l:=by
 induction l with
 | nil=>intro b; exact .slnil
 | cons a r ih =>
  intro b;rw[iq];split
  ·exact (ih _).cons_cons a
  ·exact (ih _).cons a
theorem DZ (l:List Int):∀ b,b≠0→b<2 ^ l.length→ef b l≠[]:=by
 induction l with
 | nil=>intro b h0 h; simp at h; exact absurd h h0
 | cons a r ih =>
  intro b h0 h;rw[iq];split
  ·simp
  ·rename_i h1;rw[ze5,Nat.pow_succ] at h;simpa using ih (b / 2) oM oM
theorem wt {x l:List Int}(h:x.Sublist l):∃ b,b<2 ^ l.length∧ef b l=x:=by
 induction h with
 | slnil=>exact⟨0,by simp,rfl⟩
 | cons a _ ih =>
  obtain ⟨b,hb,e⟩:=ih;refine⟨2 * b,by rw[ze5,Nat.pow_succ]; omega,?_⟩;rw[iq,zf6 oM,show 2 * b / 2=b by omega,e];rfl
 | cons_cons a _ ih =>
  obtain ⟨b,hb,e⟩:=ih;refine⟨2 * b+1,by rw[ze5,Nat.pow_succ]; omega,?_⟩;rw[iq,zf7 oM,show (2 * b+1) / 2=b by omega,e];rfl
theorem gD (t x:List Int):x∈bI t↔x.Sublist t∧x≠[]:=by
 unfold bI;constructor
 ·intro h;obtain ⟨i,hi,rfl⟩:=ze8.1 h;have:=List.mem_range.1 hi;exact⟨B9 _ _,DZ _ _ oM oM⟩
 ·rintro ⟨h,hne⟩;obtain ⟨b,hb,rfl⟩:=wt h;have h0:b≠0:=fun e=>by
   subst e;apply hne;have:∀ l:List Int,ef 0 l=[]:=by
    intro l;induction l with
    | nil=>rfl
    | cons a r ih=>rw[iq]; simpa using ih
   exact this t
  exact ze8.2 ⟨b - 1,List.mem_range.2 oM,by rw[show b - 1+1=b by omega]⟩
structure gN (all:List (List Int)):Prop where
 strict:ep all
 form:∀ s∈all,s≠[]∧dw s∧s.length≤9
 faces:∀ s∈all,2≤s.length→∀ k,k<s.length→s.eraseIdx k∈all
theorem gN.nil:gN []:=⟨List.Pairwise.nil,by simp,by simp⟩
theorem gN.add {all:List (List Int)}{t:List Int}(h:gN all)(ht:dw t)(hl:t.length≤9):gN (dT all t):=by
 refine⟨kA all t,fun s hs=>?_,fun s hs h2 k hk=>?_⟩
 ·rcases (gr all t s).1 hs with h1 | h1
  ·exact h.form s h1
  ·obtain ⟨h2,h3⟩:=(gD t s).1 h1;exact⟨h3,ht.sublist h2,zk6 h2.length_le hl⟩
 ·refine (gr all t _).2 ?_
  rcases (gr all t s).1 hs with h1 | h1
  ·exact .inl (h.faces s h1 h2 k hk)
  ·refine .inr ((gD t _).2 ⟨(List.eraseIdx_sublist s k).trans ((gD t s).1 h1).1,fun e=>?_⟩);have:=zd8 List.length e;rw[List.length_eraseIdx] at this;simp[hk] at this;omega
theorem gF:∀ (ls acc:List (List Int)) {all:List (List Int)},aG acc ls=some all→gN acc→acc.length≤4000→gN all∧all.length≤4000
 | [],acc,all,h,hg,hl=>by cases h; exact⟨hg,hl⟩
 | s::r,acc,all,h,hg,hl=>by
  unfold aG at h;split at h
  ·exact gF r acc h hg hl
  ·rename_i hb;split at h
   ·cases h
   ·rename_i hlen;refine gF r _ h (hg.add (kI s) ?_) oM;cases hc:ce s with
    | nil=>simp
    | cons a q =>
     rw[hc] at hb;simp[jk] at hb;simp;omega
section
variable {all:List (List Int)}(hg:gN all)
include hg
theorem gN.get_lb {t:List Int}(ht:t∈all):all[lbL all t]?=some t:=by
 obtain ⟨h1,h2⟩:=oL t hg.strict.srt;have hs:ep (all.take (lbL all t)++all.drop (lbL all t)):=by rw[zi8]; exact hg.strict
 have hd:=(List.pairwise_append.1 hs).2.1;have hm:t∈all.drop (lbL all t):=by
  have:t∈all.take (lbL all t)++all.drop (lbL all t):=by rw[zi8]; exact ht
  rcases ze9.1 this with h | h
  ·have:=h1 t h;rw[cj] at this;exact absurd this dC
  ·exact h
 have e:all[lbL all t]?=(all.drop (lbL all t))[0]?:=by simp
 rw[e];cases hc:all.drop (lbL all t) with
 | nil=>rw[hc] at hm; simp at hm
 | cons y r =>
  rw[hc] at hm hd h2
  rcases ze7.1 hm with rfl | hm
  ·rfl
  ·exact absurd ((zj9.1 hd).1 t hm) (h2 y (by simp))
theorem gN.lb_get {k:Nat}(hk:k<all.length):lbL all all[k]=k:=by
 have h1:=hg.get_lb (gM hk);obtain ⟨h2,h3⟩:=zf2.1 h1;have hself:¬ aj all[k] all[k]<0:=by rw[cj]; decide
 rcases Nat.lt_trichotomy (lbL all all[k]) k with h | h | h
 ·have:=zc6.1 hg.strict _ _ h2 hk h;rw[h3] at this;exact absurd this hself
 ·exact h
 ·have:=zc6.1 hg.strict _ _ hk h2 h;rw[h3] at this;exact absurd this hself
end
def ixC (all:List (List Int))(t:List Int):Int:=((lbL all t:Nat):Int)+1
theorem gN.inj {all:List (List Int)}(hg:gN all){t u:List Int}(ht:t∈all)(hu:u∈all)(h:ixC all t=ixC all u):t=u:=by
 have h1:=hg.get_lb ht;have h2:=hg.get_lb hu;have:lbL all t=lbL all u:=by unfold ixC at h; omega
 rw[this,h2] at h1;injection h1 with h1
 exact h1.symm
theorem gN.lt {all:List (List Int)}(hg:gN all){t u:List Int}(ht:t∈all)(hu:u∈all)(h:aj t u<0):ixC all t<ixC all u:=by
 obtain ⟨i1,e1⟩:=zf2.1 (hg.get_lb ht);obtain ⟨i2,e2⟩:=zf2.1 (hg.get_lb hu);unfold ixC
 rcases Nat.lt_trichotomy (lbL all t) (lbL all u) with h1 | h1 | h1
 ·omega
 ·have:t=u:=hg.inj ht hu (by unfold ixC; omega);subst this;rw[cj] at h;exact absurd h dC
 ·have:=zc6.1 hg.strict _ _ i2 i1 h1;rw[e1,e2] at this;exact absurd h (gW this)
def eY (all:List (List Int))(s:List Int):List ai:=if s.length≤1 then [] else (List.range s.length).reverse.map fun k:Nat=>⟨ixC all (s.eraseIdx k),cH k⟩
def iK (all:List (List Int))(s:List Int):Cl:=⟨ixC all s,(s.length:Int) - 1,eY all s⟩
theorem yq {s:List Int}(hs:dw s):∀ {i j:Nat},i<j→j<s.length→aj (s.eraseIdx j) (s.eraseIdx i)<0:=by
 induction s with
 | nil=>intro i j _ h; simp at h
 | cons a r ih =>
  intro i j hij hj;obtain ⟨h1,h2⟩:=zj9.1 hs;cases j with
  | zero=>omega
  | succ j =>
   simp only[ze5] at hj;cases i with
   | zero =>
    cases r with
    | nil=>simp at hj
    | cons b q =>
     have hab:=h1 b (by simp);have hl:((a::b::q).eraseIdx (j+1)).length=((a::b::q).eraseIdx 0).length:=by
      simp[List.length_eraseIdx] at hj ⊢;omega
     rw[fU hl];simp only[List.eraseIdx_cons_succ,List.eraseIdx_cons_zero,gx];have:mU a b = -1:=by unfold mU; rw[zf7 hab]
     simp[this]
   | succ i =>
    have h3:=ih h2 (i:=i) (j:=j) oM oM;have hl:(r.eraseIdx j).length=(r.eraseIdx i).length:=by
     rw[List.length_eraseIdx,List.length_eraseIdx,zf7 oM,zf7 oM]
    have hl2:((a::r).eraseIdx (j+1)).length=((a::r).eraseIdx (i+1)).length:=by simp[hl]
    rw[fU hl] at h3;rw[fU hl2];simp only[List.eraseIdx_cons_succ,gx];have:mU a a=0:=by unfold mU; rw[zf6 oM,zf6 oM]
    simpa [this] using h3
theorem nK {A:List Cl}(h:(A.map Cl.id).Nodup){x:Cl}(hx:x∈A):az A x.id=some x:=by
 induction A with
 | nil=>simp at hx
 | cons c t ih =>
  simp only[zg1,zj8] at h;unfold az
  rcases ze7.1 hx with rfl | hx
  ·simp
  ·have hne:¬ c.id=x.id:=fun e=>h.1 (by rw[e]; exact ze8.2 ⟨x,hx,I⟩);rw[zi3];simp only[hne,decide_false];exact ih h.2 hx
theorem zK (c:Cl):ay (ay c)=ay c:=by
 unfold ay;rw[← dS (dH c.sides) (aJ.refl _)]
theorem gp (l:List Cl):aa (aa l)=aa l:=by
 have h1:sortBy Cl.id (aa l)=aa l:=(dS (iu l) (aJ.refl _)).symm;show (sortBy Cl.id (aa l)).map ay=aa l;rw[h1];unfold aa;rw[zi2];exact zc5 fun c _=>zK c
theorem DB {α:Type}{key:α→Int}{l:List α}(h:l.Pairwise fun a b=>key b<key a):sortBy key l=l.reverse:=by
 refine (dS ?_ ⟨by simp,fun c=>?_⟩).symm
 ·unfold Srt;rw[List.pairwise_reverse];exact h.imp fun h=>by omega
 ·rw[List.filter_reverse];have:∀ m:List α,m.Pairwise (fun a b=>key b<key a)→(∀ a∈m,(key a == c)=true)→m.reverse=m:=by
   intro m hm hc
   match m,hm,hc with
   | [],_,_=>rfl
   | [_],_,_=>rfl
   | a::b::r,hm,hc =>
    have h1:=(zj9.1 hm).1 b (by simp);have h2:=hc a (by simp);have h3:=hc b (by simp);simp at h2 h3;omega
  exact this _ (h.sublist List.filter_sublist) fun a ha=>(zh1.1 ha).2
section
variable {all:List (List Int)}(hg:gN all)
include hg
theorem gN.face {s:List Int}(hs:s∈all){k:Nat}(hk:k<s.length)(h2:2≤s.length):s.eraseIdx k∈all∧(s.eraseIdx k).length=s.length - 1 :=
 ⟨hg.faces s hs h2 k hk,by rw[List.length_eraseIdx,zf7 hk]⟩
theorem gN.sides {s:List Int}(hs:s∈all):sortBy ai.cell (aM all s s.length)=eY all s:=by
 have hne:=(hg.form s hs).1;have hst:=(hg.form s hs).2.1;by_cases h1:s.length≤1
 ·have h0:s.length=1:=by have:=List.length_pos_iff.2 hne; omega
  unfold eY;rw[zf7 h1,h0];have:eX all s 0=[]:=by
   unfold eX;have h3:(s.eraseIdx 0).length=0:=by rw[List.length_eraseIdx,zf7 oM]; omega
   rw[zf6 oM]
  simp[aM,List.range_succ,this,sortBy]
 ·have h2:2≤s.length:=oM;have e:aM all s s.length=(List.range s.length).map fun k:Nat=>(⟨ixC all (s.eraseIdx k),cH k⟩:ai):=by
   unfold aM;rw[List.flatMap_def];have:(List.range s.length).map (eX all s)=(List.range s.length).map fun k:Nat=>[(⟨ixC all (s.eraseIdx k),cH k⟩:ai)]:=zc5 fun k hk=>by
    have hk:=List.mem_range.1 hk;unfold eX;rw[(hg.face hs hk h2).2,zf7 oM];rfl
   rw[this];generalize List.range s.length=R;induction R with
   | nil=>rfl
   | cons x r ih=>simp only[zg1,List.flatten_cons,ih]; rfl
  unfold eY;rw[zf6 h1,e,List.map_reverse];refine DB ?_;rw[zk1];refine List.Pairwise.imp_of_mem ?_ (List.pairwise_lt_range (n:=s.length));intro i j hi hj hij;have hi:=List.mem_range.1 hi;have hj:=List.mem_range.1 hj;exact hg.lt (hg.face hs hj h2).1 (hg.face hs hi h2).1 (yq hst hij hj)
theorem gN.cells:aa (aU all)=all.map (iK all):=by
 rw[rF];apply List.ext_getElem?;intro k;simp only[zh6];by_cases hk:k<all.length
 ·rw[ja hk,gE hk];simp only[Option.map_some,zg4];unfold ay nt iK;simp only[hg.sides (gM hk),ixC,hg.lb_get hk]
 ·rw[List.getElem?_eq_none (by rw[bG]; omega),List.getElem?_eq_none oM];rfl
theorem gN.ids:((all.map (iK all)).map Cl.id).Pairwise (· < ·):=by
 rw[zi2,zk1];refine List.Pairwise.imp_of_mem ?_ hg.strict;intro a b ha hb h;exact hg.lt ha hb h
theorem gN.find {s:List Int}(hs:s∈all):az (all.map (iK all)) (ixC all s)=some (iK all s) :=
 nK (x:=iK all s) (hg.ids.imp fun h=>by omega) (ze8.2 ⟨s,hs,rfl⟩)
end
theorem BT (k:Nat):cH k=1∨cH k = -1:=by unfold cH; omega
theorem ry {all:List (List Int)}{s:List Int}(h:2≤s.length){i:Nat}(hi:i<s.length):(eY all s)[i]?=some ⟨ixC all (s.eraseIdx (s.length - 1 - i)),cH ((s.length - 1 - i:Nat):Int)⟩:=by
 unfold eY;rw[zf6 oM,zh6,List.getElem?_reverse (by simpa using hi)];simp only[zi1];rw[List.getElem?_range oM];rfl
theorem te {all:List (List Int)}{s:List Int}:(eY all s).length=if s.length≤1 then 0 else s.length:=by
 unfold eY;split <;> simp
section
variable {all:List (List Int)}(hg:gN all)
include hg
theorem gN.formOk {s:List Int}(hs:s∈all):ct (all.map (iK all)) (iK all s)=0:=by
 obtain ⟨hne,hst,h9⟩:=hg.form s hs;have hp:=List.length_pos_iff.2 hne;have hlen:(iK all s).sides.length=if s.length≤1 then 0 else s.length:=te
 have hdim:(iK all s).dim=(s.length:Int) - 1:=rfl;have h1:eZ (iK all s)=false:=by unfold eZ; rw[hdim]; simp; omega
 have h2:ax (iK all s)=false:=by
  unfold ax;rw[hdim,hlen];split
  ·simp; omega
  ·simp; omega
 have h3:(List.range (iK all s).sides.length).any (iY (all.map (iK all)) (iK all s))=false:=by
  rw[zk2];intro i hi;have hi:=List.mem_range.1 hi;rw[hlen] at hi;split at hi
  ·omega
  ·rename_i hl;have h2:2≤s.length:=oM;have hgi:=ry (all:=all) h2 hi;have hf:=hg.face hs (k:=s.length - 1 - i) oM h2;unfold iY;rw[show (iK all s).sides[i]?=_ from hgi];show ¬ cf _ _ i ⟨ixC all (s.eraseIdx (s.length - 1 - i)),_⟩=true;unfold cf;dsimp only;rw[hg.find hf.1];have hd:(iK all (s.eraseIdx (s.length - 1 - i))).dim=(iK all s).dim - 1:=by
    show ((s.eraseIdx (s.length - 1 - i)).length:Int) - 1=(s.length:Int) - 1 - 1;rw[hf.2];omega
   simp only[Option.isSome_some,Bool.not_true,Bool.false_or,Option.getD_some,hd,ne_eq,not_true_eq_false,decide_false];by_cases hi0:i>0
   ·have hgp:=ry (all:=all) h2 (i:=i - 1) oM;rw[show (iK all s).sides[i - 1]?=_ from hgp];have hf2:=hg.face hs (k:=s.length - 1 - (i - 1)) oM h2;have:=hg.lt hf2.1 hf.1 (yq hst oM oM);simp;omega
   ·simp[hi0]
 have h4:(iK all s).sides.any bL=false:=by
  rw[zk2];intro x hx;show ¬ bL x=true;have hx:x∈eY all s:=hx;unfold eY at hx;split at hx
  ·simp at hx
  ·obtain ⟨k,_,rfl⟩:=ze8.1 hx
   rcases BT k with h | h <;> simp[bL,h]
 have h5:(decide ((iK all s).dim=1)&&decide (l8 (iK all s).sides≠0))=false:=by
  by_cases hd:(iK all s).dim=1
  ·rw[hdim] at hd;have hl2:s.length=2:=oM;have:l8 (iK all s).sides=0:=by
    show l8 (eY all s)=0;unfold eY;rw[zf6 oM,hl2];simp[List.range_succ,l8,cH]
   rw[this];simp
  ·simp[hd]
 unfold ct;rw[h1,h2,h3,h4,h5];rfl
end
theorem zW (s:List Int):∀ {k q:Nat},k≤q→(s.eraseIdx k).eraseIdx q=(s.eraseIdx (q+1)).eraseIdx k:=by
 induction s with
 | nil=>intro k q _; rfl
 | cons a r ih =>
  intro k q h;cases k with
  | zero=>simp
  | succ k =>
   cases q with
   | zero=>omega
   | succ q =>
    simp only[List.eraseIdx_cons_succ];rw[ih oM]
theorem qZ {s:List Int}(hs:s.Nodup){a b i:Nat}(hab:a<b)(hb:b<s.length)(hi:i<s.length):s[i]∈(s.eraseIdx b).eraseIdx a↔i≠a∧i≠b:=by
 have hinj:∀ {j k:Nat} (hj:j<s.length) (hk:k<s.length),s[j]=s[k]→j=k:=fun {j k} hj hk e=>by
  rcases Nat.lt_trichotomy j k with h | h | h
  ·exact absurd e (zc6.1 hs j k hj hk h)
  ·exact h
  ·exact absurd e.symm (zc6.1 hs k j hk hj h)
 rw[List.mem_eraseIdx_iff_getElem];constructor
 ·rintro ⟨j,hj1,hj2,e⟩;have hj1':=hj1;rw[List.length_eraseIdx,zf7 hb] at hj1';rw[List.getElem_eraseIdx] at e;split at e
  ·have:=hinj _ _ e;omega
  ·have:=hinj _ _ e;omega
 ·rintro ⟨h1,h2⟩
  rcases Nat.lt_or_ge i b with h | h
  ·refine⟨i,by rw[List.length_eraseIdx,zf7 hb]; omega,h1,?_⟩;rw[List.getElem_eraseIdx,dif_pos h]
  ·refine⟨i - 1,by rw[List.length_eraseIdx,zf7 hb]; omega,oM,?_⟩;rw[List.getElem_eraseIdx,dif_neg oM];congr 1;omega
theorem zX {s:List Int}(hs:s.Nodup){a b c d:Nat}(hab:a<b)(hb:b<s.length)(hcd:c<d)(hd:d<s.length)(h:(s.eraseIdx b).eraseIdx a=(s.eraseIdx d).eraseIdx c):a=c∧b=d:=by
 have key:∀ i,i<s.length→((i≠a∧i≠b)↔(i≠c∧i≠d)):=fun i hi=>by
  rw[← qZ hs hab hb hi,← qZ hs hcd hd hi,h]
 have ha:=key a oM;have hb':=key b hb;have hc:=key c oM;have hd':=key d hd;omega
def Hy (all:List (List Int))(s:List Int)(c:Int):Int:=ixC all ((s.eraseIdx (c % 16).toNat).eraseIdx (c / 16).toNat)
theorem Br {n k q:Nat}(hk:k<n)(hq:q<n - 1):∃ a b:Nat,a<b∧b<n∧code k q=((a * 16+b:Nat):Int)∧((q<k∧a=q∧b=k)∨(k≤q∧a=k∧b=q+1)):=by
 unfold code;by_cases h:q<k
 ·rw[zf7 h]; exact⟨q,k,h,hk,I,.inl ⟨h,I,I⟩⟩
 ·rw[zf6 h]; exact⟨k,q+1,oM,oM,I,.inr ⟨oM,I,I⟩⟩
theorem jK {a b:Nat}(h:b<16):((((a * 16+b:Nat):Int) % 16).toNat=b)∧((((a * 16+b:Nat):Int) / 16).toNat=a):=oM
section
variable {all:List (List Int)}(hg:gN all)
include hg
theorem gN.aroundOk {s:List Int}(hs:s∈all)(h3:2<s.length):cC (all.map (iK all)) (iK all s)=0:=by
 obtain ⟨hne,hst,h9⟩:=hg.form s hs;have hnd:s.Nodup:=hst.imp fun h=>by omega
 have hE:∀ a b,a<b→b<s.length→(s.eraseIdx b).eraseIdx a∈all:=fun a b hab hb=>by
  have h1:=hg.face hs (k:=b) hb oM;exact (hg.face h1.1 (k:=a) (by rw[h1.2]; omega) (by rw[h1.2]; omega)).1
 have hlook:oy (all.map (iK all)) (iK all s)=xl (Hy all s) (G2 s.length):=by
  unfold oy xl G2;show (eY all s).map _=_;unfold eY;rw[zf6 oM,zi2,zi2];refine zc5 fun k hk=>?_;have hk:k<s.length:=by simpa using hk
  have hf:=hg.face hs hk oM;simp only[Function.comp_def];congr 1;unfold ao;rw[hg.find hf.1];show eY all (s.eraseIdx k)=_;unfold eY;rw[hf.2,zf6 oM,zi2];refine zc5 fun q hq=>?_;have hq:q<s.length - 1:=by simpa using hq
  obtain ⟨a,b,hab,hb,hc,hcase⟩:=Br hk hq;simp only[Function.comp_def,Dj];congr 1;unfold Hy;rw[hc,(jK (a:=a) (b:=b) oM).1,(jK (a:=a) (b:=b) oM).2]
  rcases hcase with ⟨_,rfl,rfl⟩ | ⟨h,rfl,rfl⟩
  ·rfl
  ·rw[zW s h]
 rw[o9,hlook,xb,Ge _ oM h3];have hkey:∀ x∈Ax (G2 s.length),∃ a b:Nat,a<b∧b<s.length∧x=((a * 16+b:Nat):Int):=by
  intro x hx;obtain ⟨p,hp,hx⟩:=List.mem_flatMap.1 hx;obtain ⟨k,hk,rfl⟩:=ze8.1 hp;obtain ⟨r,hr,rfl⟩:=ze8.1 hx;obtain ⟨q,hq,rfl⟩:=ze8.1 hr;obtain ⟨a,b,hab,hb,hc,_⟩:=Br (n:=s.length) (k:=k) (q:=q) (by simpa using hk) (by simpa using hq);exact⟨a,b,hab,hb,hc⟩
 intro x hx y hy h;obtain ⟨a,b,hab,hb,rfl⟩:=hkey x hx;obtain ⟨c,d,hcd,hd,rfl⟩:=hkey y hy;unfold Hy at h;rw[(jK (a:=a) (b:=b) oM).1,(jK (a:=a) (b:=b) oM).2,(jK (a:=c) (b:=d) oM).1,(jK (a:=c) (b:=d) oM).2] at h;obtain ⟨rfl,rfl⟩:=zX hnd hab hb hcd hd (hg.inj (hE a b hab hb) (hE c d hcd hd) h);rfl
end
theorem uC {tl:List Cl}:∀ {l:List Cl} {n:Int},(∀ x∈l,n<x.id)→l.Pairwise (fun a b=>a.id<b.id)→(∀ x∈l,ct tl x=0)→gK tl l n=none
 | [],_,_,_,_=>rfl
 | x::r,n,h1,h2,h3=>by
  have hx:=h1 x (by simp);obtain ⟨h4,h5⟩:=zj9.1 h2;unfold gK;rw[zf6 oM,zf6 (by rw[h3 x (by simp)]; simp)];exact uC h4 h5 fun y hy=>h3 y (by simp[hy])
theorem uA {tl:List Cl}:∀ {l:List Cl},(∀ x∈l,x.dim>1→cC tl x=0)→n5 tl l=none
 | [],_=>rfl
 | x::r,h=>by
  unfold n5;rw[zf6 fun ⟨h1,h2⟩=>h2 (h x (by simp) h1)];exact uA fun y hy=>h y (by simp[hy])
theorem yx {l:List Cl}(h0:l.length≤4000)(h1:∀ x∈aa l,0<x.id)(h2:(aa l).Pairwise fun a b=>a.id<b.id)(h3:∀ x∈aa l,ct (aa l) x=0)(h4:∀ x∈aa l,x.dim>1→cC (aa l) x=0):bg l=(0,0):=by
 unfold bg;rw[zf6 oM,bA h2,uC h1 h2 h3,uA h4];rfl
theorem py (ls:List (List Int)):bg (bQ ls)=(0,0):=by
 unfold bQ;cases h:aG [] ls with
 | none=>rfl
 | some all =>
  obtain ⟨hg,hl⟩:=gF ls [] h gN.nil (by simp);dsimp only;have hc:aa (aa (aU all))=all.map (iK all):=by rw[gp,hg.cells]
  have hi:=hg.ids;rw[zk1] at hi;refine yx (by rw[hg.cells]; simpa using hl) ?_ ?_ ?_ ?_ <;> rw[hc]
  ·intro x hx;obtain ⟨s,_,rfl⟩:=ze8.1 hx;show 0<ixC all s;unfold ixC;omega
  ·exact hi
  ·intro x hx;obtain ⟨s,hs,rfl⟩:=ze8.1 hx;exact hg.formOk hs
  ·intro x hx hd;obtain ⟨s,hs,rfl⟩:=ze8.1 hx;refine hg.aroundOk hs ?_;have:(s.length:Int) - 1>1:=hd;omega
open Go.ChangeShapes Go.WideShapes Go.ChangeAt Go.RowKit
set_option maxRecDepth 100000
section
variable {H:Type}{enc:TypeId×Value→H}{W:World}{base:Nat}{spare:Nat→Bool}{hd:Bool}
end
inductive Cn (E:Int→Int→Prop):Int→Int→Prop
 | refl (a:Int):Cn E a a
 | step {a b c:Int} (h:E a b∨E b a) (r:Cn E b c):Cn E a c
theorem Cn.trans {E:Int→Int→Prop}{a b c:Int}(h:Cn E a b)(k:Cn E b c):Cn E a c:=by
 induction h with
 | refl _=>exact k
 | step h _ ih=>exact .step h (ih k)
theorem Cn.one {E:Int→Int→Prop}{a b:Int}(h:E a b):Cn E a b:=.step (.inl h) (.refl b)
theorem Cn.symm {E:Int→Int→Prop}{a b:Int}(h:Cn E a b):Cn E b a:=by
 induction h with
 | refl _=>exact .refl _
 | step h _ ih=>exact ih.trans (.step h.symm (.refl _))
theorem Cn.mono {E E':Int→Int→Prop}(h:∀ a b,E a b→Cn E' a b){a b:Int}(hc:Cn E a b):Cn E' a b:=by
 induction hc with
 | refl _=>exact .refl _
 | step e _ ih =>
  rcases e with e | e
  ·exact (h _ _ e).trans ih
  ·exact (h _ _ e).symm.trans ih
theorem Cn.iso {E:Int→Int→Prop}{a b:Int}(h:∀ b,¬ E a b∧¬ E b a)(hc:Cn E a b):a=b:=by
 cases hc with
 | refl _=>rfl
 | step e _ =>
  rcases e with e | e
  ·exact absurd e (h _).1
  ·exact absurd e (h _).2
theorem Cn.add {E E':Int→Int→Prop}{x y:Int}(h:∀ a b,E' a b↔E a b∨(a=x∧b=y))(a b:Int):Cn E' a b↔Cn E a b∨(Cn E a x∧Cn E y b)∨(Cn E a y∧Cn E x b):=by
 have hxy:Cn E' x y:=.one ((h x y).2 (.inr ⟨rfl,rfl⟩));have hm:∀ {a b:Int},Cn E a b→Cn E' a b:=fun hc=>hc.mono fun a b e=>.one ((h a b).2 (.inl e));constructor
 ·intro hc;induction hc with
  | refl _=>exact .inl (.refl _)
  | step e _ ih =>
   have key:∀ {p q r:Int},Cn E p q→(Cn E q r∨(Cn E q x∧Cn E y r)∨(Cn E q y∧Cn E x r))→Cn E p r∨(Cn E p x∧Cn E y r)∨(Cn E p y∧Cn E x r):=by
    rintro p q r h1 (h2 | ⟨h2,h3⟩ | ⟨h2,h3⟩)
    ·exact .inl (h1.trans h2)
    ·exact .inr (.inl ⟨h1.trans h2,h3⟩)
    ·exact .inr (.inr ⟨h1.trans h2,h3⟩)
   rcases e with e | e
   ·rcases (h _ _).1 e with e | ⟨rfl,rfl⟩
    ·exact key (.one e) ih
    ·rcases ih with h2 | ⟨_,h3⟩ | ⟨_,h3⟩
     ·exact .inr (.inl ⟨.refl _,h2⟩)
     ·exact .inr (.inl ⟨.refl _,h3⟩)
     ·exact .inl h3
   ·rcases (h _ _).1 e with e | ⟨rfl,rfl⟩
    ·exact key (Cn.one e).symm ih
    ·rcases ih with h2 | ⟨_,h3⟩ | ⟨_,h3⟩
     ·exact .inr (.inr ⟨.refl _,h2⟩)
     ·exact .inl h3
     ·exact .inr (.inr ⟨.refl _,h3⟩)
 ·rintro (h1 | ⟨h1,h2⟩ | ⟨h1,h2⟩)
  ·exact hm h1
  ·exact (hm h1).trans (hxy.trans (hm h2))
  ·exact (hm h1).trans (hxy.symm.trans (hm h2))
def dM (ml:List (Int×List Int))(a b:Int):Prop:=∃ p∈ml,p.2.head?=some a∧b∈p.2
def RZ (e:En)(z:Int×Int):Prop:=e.id=z.1∧e.sum=z.2
def RM (e:En)(p:Int×List Int):Prop:=e.id=p.1∧e.many=p.2.length∧p.2.head?=some (e.fst:Int)
theorem sI {x:Int}(h : -9223372036854775808≤x∧x<9223372036854775808):wr x=x:=zk8 _ oM
theorem Fs {i:Nat}{c p:Int}:∀ {es:List En} {zl:List (Int×Int)},aB RZ es zl→(∀ e∈es,wr (e.sum+p)=e.sum+p)→wr (0+p)=p→aB RZ (lc i c p es) (gL zl c p)
 | [],[],_,_,hp=>⟨⟨rfl,hp⟩,trivial⟩
 | e::es,(a,z)::zl,h,hb,hp=>by
  obtain ⟨⟨h1,h2⟩,h3⟩:=h;have h1:e.id=a:=h1;have h2:e.sum=z:=h2;simp only[lc,gL];by_cases hc:e.id=c
  ·rw[zf7 hc,zf7 (by rw[← h1,hc])];exact⟨⟨h1,by show wr (e.sum+p)=z+p; rw[hb e (by simp),h2]⟩,h3⟩
  ·rw[zf6 hc,zf6 (by rw[← h1]; exact fun e=>hc e.symm)];exact⟨⟨h1,h2⟩,Fs h3 (fun x hx=>hb x (by simp[hx])) hp⟩
 | [],_::_,h,_,_=>h.elim
 | _::_,[],h,_,_=>h.elim
theorem Ft {i:Nat}{c p:Int}:∀ {es:List En} {ml:List (Int×List Int)},aB RM es ml→(∀ e∈es,wr (e.many+1)=e.many+1)→aB RM (lc i c p es) (fE ml c i) ∧
  ∀ a b,dM (fE ml c i) a b↔dM ml a b∨(a=jE i c es∧b=i)
 | [],[],_,_=>by
  refine⟨⟨⟨rfl,by rfl,rfl⟩,trivial⟩,fun a b=>?_⟩;constructor
  ·rintro ⟨q,hq,h1,h2⟩;simp[fE] at hq;subst hq;simp at h1 h2;exact .inr ⟨h1.symm,h2⟩
  ·rintro (⟨q,hq,_⟩ | ⟨rfl,rfl⟩)
   ·simp at hq
   ·exact⟨(c,[(i:Int)]),by simp[fE],I,by simp⟩
 | e::es,(k,l)::ml,h,hb=>by
  obtain ⟨⟨h1,h2,h4⟩,h3⟩:=h;have h1:e.id=k:=h1;have h2:e.many=l.length:=h2;have h4:l.head?=some (e.fst:Int):=h4;simp only[lc,fE,jE];by_cases hc:e.id=c
  ·rw[zf7 hc,zf7 (by rw[← h1,hc]),zf7 hc];have hh:(l++[(i:Int)]).head?=some (e.fst:Int):=by
    cases l with
    | nil=>simp at h4
    | cons x r=>simpa using h4
   refine⟨⟨⟨h1,by show wr (e.many+1)=_; rw[hb e (by simp),h2]; simp,hh⟩,h3⟩,fun a b=>?_⟩;constructor
   ·rintro ⟨q,hq,h5,h6⟩
    rcases ze7.1 hq with rfl | hq
    ·dsimp only at h5 h6;rw[hh] at h5
     rcases ze9.1 h6 with h6 | h6
     ·exact .inl ⟨(k,l),by simp,by rw[h4,h5],h6⟩
     ·simp at h6;injection h5 with h5
      exact .inr ⟨h5.symm,h6⟩
    ·exact .inl ⟨q,by simp[hq],h5,h6⟩
   ·rintro (⟨q,hq,h5,h6⟩ | ⟨rfl,rfl⟩)
    ·rcases ze7.1 hq with rfl | hq
     ·exact⟨(k,l++[(i:Int)]),by simp,by rw[hh,← h4,h5],by simp[h6]⟩
     ·exact⟨q,by simp[hq],h5,h6⟩
    ·exact⟨(k,l++[(i:Int)]),by simp,hh,by simp⟩
  ·rw[zf6 hc,zf6 (by rw[← h1]; exact fun e=>hc e.symm),zf6 hc];obtain ⟨i1,i2⟩:=Ft (i:=i) (c:=c) (p:=p) h3 fun x hx=>hb x (by simp[hx]);refine⟨⟨⟨h1,h2,h4⟩,i1⟩,fun a b=>?_⟩;have e1:∀ L,dM ((k,l)::L) a b↔(l.head?=some a∧b∈l)∨dM L a b:=fun L=>by
    unfold dM;simp
   rw[e1,e1,i2,or_assoc]
 | [],_::_,h,_=>h.elim
 | _::_,[],h,_=>h.elim
structure Sd (n t k:Nat)(es:List En)(part:List Int)(zl:List (Int×Int))(ml:List (Int×List Int)):Prop where
 z:aB RZ es zl
 m:aB RM es ml
 bz:∀ e∈es,-(t:Int)≤e.sum∧e.sum≤t∧0≤e.many∧e.many≤t
 bf:∀ e∈es,e.fst<k
 bm:∀ p∈ml,∀ x∈p.2,0≤x∧x<k
 len:part.length=n
 bp:∀ a,a<k→0≤part.getD a 0∧part.getD a 0<k
 cn:∀ a b:Nat,a<k→b<k→(part.getD a 0=part.getD b 0↔Cn (dM ml) a b)
theorem ib {ml:List (Int×List Int)}{k:Nat}(h:∀ p∈ml,∀ x∈p.2,0≤x∧x<(k:Int)){a b:Int}(hl:dM ml a b):(0≤a∧a<k)∧(0≤b∧b<k):=by
 obtain ⟨p,hp,h1,h2⟩:=hl;exact⟨h p hp a (List.mem_of_head? h1),h p hp b h2⟩
theorem Sd.open {n t k:Nat}{es:List En}{part:List Int}{zl:List (Int×Int)}{ml:List (Int×List Int)}(h:Sd n t k es part zl ml)(hk:k<n):Sd n t (k+1) es (part.set k k) zl ml:=by
 have hl:=h.len;have g1:(part.set k (k:Int)).getD k 0=k:=by rw[zg7,List.getElem?_set]; simp[hl,hk]
 have g2:∀ a,a≠k→(part.set k (k:Int)).getD a 0=part.getD a 0:=fun a ha=>by
  rw[zg7,zg7,List.getElem?_set,zf6 fun e=>ha e.symm]
 have iso:∀ b,¬ dM ml k b∧¬ dM ml b k:=fun b=>⟨fun e=>by have:=ib h.bm e; omega,fun e=>by have:=ib h.bm e; omega⟩;refine⟨h.z,h.m,h.bz,fun e he=>by have:=h.bf e he; omega,fun p hp x hx=>by have:=h.bm p hp x hx; omega,by simp[hl],fun a ha=>?_,fun a b ha hb=>?_⟩
 ·by_cases e:a=k
  ·subst e; rw[g1]; omega
  ·rw[g2 a e]; have:=h.bp a oM; omega
 ·by_cases e:a=k <;> by_cases e2:b=k
  ·subst e; subst e2; exact⟨fun _=>.refl _,fun _=>I⟩
  ·subst e;rw[g1,g2 b e2];have:=h.bp b oM;exact⟨fun h=>by omega,fun hc=>by have:=hc.iso iso; omega⟩
  ·subst e2;rw[g1,g2 a e];have:=h.bp a oM;exact⟨fun h=>by omega,fun hc=>by have:=hc.symm.iso iso; omega⟩
  ·rw[g2 a e,g2 b e2];exact h.cn a b oM oM
theorem kL {m:Nat}{old now:Int}{p:List Int}{a:Nat}(h:a<p.length)(hm:a<m):(dL m old now p).getD a 0=if p.getD a 0=now then old else p.getD a 0:=by
 rw[zg7,zg7];simp only[dL,List.getElem?_mapIdx,gE h,Option.map_some,Option.getD_some,hm,true_and]
theorem Es {i:Nat}{c:Int}{es:List En}(h:∀ e∈es,e.fst<i+1):jE i c es<i+1:=by
 induction es with
 | nil=>exact Nat.lt_succ_self i
 | cons e r ih =>
  unfold jE;split
  ·exact h e (by simp)
  ·exact ih fun x hx=>h x (by simp[hx])
theorem yz {P:En→Prop}{i:Nat}{c p:Int}(hn:P (En.up ⟨c,0,0,i⟩ p))(hu:∀ e,P e→P (e.up p))(ho:∀ e,P e→P e):∀ {es:List En},(∀ e∈es,P e)→∀ e∈lc i c p es,P e
 | [],_,e,he=>by simp[lc] at he; subst he; exact hn
 | x::r,h,e,he=>by
  unfold lc at he;split at he
  ·rcases ze7.1 he with rfl | he
   ·exact hu x (h x (by simp))
   ·exact h e (by simp[he])
  ·rcases ze7.1 he with rfl | he
   ·exact h e (by simp)
   ·exact yz hn hu ho (fun y hy=>h y (by simp[hy])) e he
theorem yT {P:Int→Prop}{c:Int}{i:Int}(hi:P i):∀ {ml:List (Int×List Int)},(∀ p∈ml,∀ x∈p.2,P x)→∀ p∈fE ml c i,∀ x∈p.2,P x
 | [],_,p,hp,x,hx=>by simp[fE] at hp; subst hp; simp at hx; subst hx; exact hi
 | (k,l)::r,h,p,hp,x,hx=>by
  unfold fE at hp;split at hp
  ·rcases ze7.1 hp with rfl | hp
   ·rcases ze9.1 hx with hx | hx
    ·exact h (k,l) (by simp) x hx
    ·simp at hx; subst hx; exact hi
   ·exact h p (by simp[hp]) x hx
  ·rcases ze7.1 hp with rfl | hp
   ·exact h (k,l) (by simp) x hx
   ·exact yT hi (fun q hq=>h q (by simp[hq])) p hp x hx
theorem Sd.next {n t i:Nat}{es:List En}{part:List Int}{zl:List (Int×Int)}{ml:List (Int×List Int)}{x r:ai}(h:Sd n t (i+1) es part zl ml)(hi:i<n)(ht:t<1000000)(hx:x.sign=1∨x.sign = -1)(hr:r.sign=1∨r.sign = -1) :
  Sd n (t+1) (i+1) (lX i x.sign (es,part) r).1 (lX i x.sign (es,part) r).2 (lV x zl r) (ew i ml r):=by
 have hp:=xJ hx hr;have hw:wr (x.sign * r.sign)=x.sign * r.sign:=sI oM;unfold lX lV ew;dsimp only;rw[hw];generalize x.sign * r.sign=p at *;have hl:=h.len;have hbm:=Ft (i:=i) (c:=r.cell) (p:=p) h.m fun e he=>by have:=h.bz e he; exact sI oM
 have hf:=Es (c:=r.cell) h.bf;refine⟨Fs h.z (fun e he=>by have:=h.bz e he; exact sI oM) (by rw[Int.zero_add]; exact sI oM),hbm.1,?_,?_,?_,by rw[lP]; exact hl,fun a ha=>?_,fun a b ha hb=>?_⟩
 ·have:∀ e∈lc i r.cell p es,(-(t:Int)≤e.sum∧e.sum≤t∧0≤e.many∧e.many≤t)∨(-((t+1:Nat):Int)≤e.sum∧e.sum≤((t+1:Nat):Int)∧0≤e.many∧e.many≤((t+1:Nat):Int)):=by
   have h0:=h.bz;clear h hbm hf hl;generalize hes:lc i r.cell p es=fs;intro e he;subst hes;induction es with
   | nil =>
    simp[lc] at he;subst he;right;simp only[En.up];rw[sI oM,sI oM];omega
   | cons y q ih =>
    unfold lc at he;split at he
    ·rcases ze7.1 he with rfl | he
     ·right;have:=h0 y (by simp);simp only[En.up];rw[sI oM,sI oM];omega
     ·exact .inl (h0 e (by simp[he]))
    ·rcases ze7.1 he with rfl | he
     ·exact .inl (h0 e (by simp))
     ·exact ih (fun z hz=>h0 z (by simp[hz])) he
  intro e he
  rcases this e he with h1 | h1 <;> omega
 ·exact yz (P:=fun e=>e.fst<i+1) (Nat.lt_succ_self i) (fun e he=>he) (fun e he=>he) h.bf
 ·exact yT (P:=fun x=>0≤x∧x<((i+1:Nat):Int)) oM h.bm
 ·rw[kL oM ha];split
  ·exact h.bp _ hf
  ·exact h.bp a ha
 ·rw[kL oM ha,kL oM hb,Cn.add (x:=(jE i r.cell es:Int)) (y:=(i:Int)) hbm.2 a b];rw[← h.cn a b ha hb,← h.cn a _ ha hf,← h.cn i b oM hb,← h.cn a i ha oM,← h.cn _ b hf hb];generalize part.getD a 0=pa;generalize part.getD b 0=pb;generalize part.getD i 0=pi;generalize part.getD (jE i r.cell es) 0=pf;by_cases h1:pa=pi <;> by_cases h2:pb=pi <;> simp[h1,h2] <;> omega
theorem Sd.inner {n i:Nat}{x:ai}(hi:i<n)(hx:x.sign=1∨x.sign = -1):∀ (l:List ai) {t:Nat} {es:List En} {part:List Int} {zl:List (Int×Int)} {ml:List (Int×List Int)},Sd n t (i+1) es part zl ml→t+l.length<1000000→(∀ r∈l,r.sign=1∨r.sign = -1) →
  Sd n (t+l.length) (i+1) (l.foldl (lX i x.sign) (es,part)).1 (l.foldl (lX i x.sign) (es,part)).2 (l.foldl (lV x) zl) (l.foldl (ew i) ml)
 | [],_,_,_,_,_,h,_,_=>h
 | r::l,t,es,part,zl,ml,h,ht,hr=>by
  simp only[ze5] at ht;have h1:=h.next (x:=x) (r:=r) hi oM hx (hr r (by simp));have:=Sd.inner hi hx l h1 oM (fun q hq=>hr q (by simp[hq]));simp only[zi5,ze5];rw[show t+(l.length+1)=t+1+l.length by omega];exact this
theorem Sd.outer {tl:List Cl}{n:Nat}:∀ (l:List ai) {t k:Nat} {es:List En} {part:List Int} {zl:List (Int×Int)} {ml:List (Int×List Int)},Sd n t k es part zl ml→k+l.length≤n→t+64 * l.length<1000000→(∀ x∈l,x.sign=1∨x.sign = -1)→(∀ x∈l,(ao tl x).length≤64∧∀ r∈ao tl x,r.sign=1∨r.sign = -1) →
  ∃ t',Sd n t' (k+l.length) ((l.zipIdx k).foldl (om tl) (es,part)).1 ((l.zipIdx k).foldl (om tl) (es,part)).2 (l.foldl (fun zl x=>(ao tl x).foldl (lV x) zl) zl) ((l.zipIdx k).foldl (fun ml p=>(ao tl p.1).foldl (ew p.2) ml) ml)
 | [],t,_,_,_,_,_,h,_,_,_,_=>⟨t,h⟩
 | x::l,t,k,es,part,zl,ml,h,hk,ht,hs,hq=>by
  simp only[ze5] at hk ht;have h0:=hq x (by simp);have h1:=(h.open oM).inner (x:=x) oM (hs x (by simp)) (ao tl x) oM h0.2;obtain ⟨t',h2⟩:=Sd.outer l h1 oM oM (fun y hy=>hs y (by simp[hy])) (fun y hy=>hq y (by simp[hy]));refine⟨t',?_⟩;simp only[List.zipIdx_cons,zi5,ze5];rw[show k+(l.length+1)=k+1+l.length by omega];exact h2
theorem pd {α β:Type}{R:α→β→Prop}{p:α→Bool}{q:β→Bool}(h:∀ a b,R a b→p a=q b):∀ {l:List α} {m:List β},aB R l m→l.any p=m.any q
 | [],[],_=>rfl
 | a::l,b::m,hr=>by simp only[List.any_cons,h a b hr.1,pd h hr.2]
 | [],_::_,hr=>hr.elim
 | _::_,[],hr=>hr.elim
theorem tm {ml:List (Int×List Int)}(h2:∀ p∈ml,p.2.length=2)(a b:Int):Rch (jM (c4 ml)) a b↔Cn (dM ml) a b:=by
 have hstep:∀ x y,y∈ez (c4 ml) x→Cn (dM ml) x y:=fun x y hy=>by
  obtain ⟨p,hp,h⟩:=(lg ml x y).1 hy
  rcases h with h | h
  ·exact .one ⟨p,hp,by rw[h]; rfl,by rw[h]; simp⟩
  ·exact (Cn.one (E:=dM ml) ⟨p,hp,by rw[h]; rfl,by rw[h]; simp⟩).symm
 have hadj:∀ x,jM (c4 ml) x≠none:=fun x=>by simp[jM]
 constructor
 ·intro h;induction h with
  | refl _ _=>exact .refl _
  | step x y _ l hl hy _ ih =>
   simp only[jM,zg4] at hl;subst hl;exact (hstep x y hy).trans ih
 ·intro h;induction h with
  | refl a=>exact .refl a (hadj a)
  | @step x y z e _ ih =>
   have key:∀ u v,dM ml u v→v=u∨v∈ez (c4 ml) u:=fun u v ⟨p,hp,h3,h4⟩=>by
    have:=h2 p hp
    match hq:p.2,this with
    | [c,d],_ =>
     rw[hq] at h3 h4;simp at h3 h4;subst h3
     rcases h4 with h4 | h4
     ·exact .inl h4
     ·exact .inr ((lg ml c v).2 ⟨p,hp,.inl (by rw[hq,h4])⟩)
   rcases e with e | e
   ·rcases key x y e with rfl | h5
    ·exact ih
    ·exact .step x y z _ I h5 ih
   ·rcases key y x e with rfl | h5
    ·exact ih
    ·refine .step x y z _ I ?_ ih;obtain ⟨p,hp,h6⟩:=(lg ml y x).1 h5;exact (lg ml x y).2 ⟨p,hp,h6.symm⟩
theorem oI {l:List Int}(hn:l.Nodup)(hb:∀ x∈l,0≤x):(l.map Int.toNat).Nodup:=by
 rw[List.Nodup,zk1];refine List.Pairwise.imp_of_mem ?_ hn;intro a b ha hb' hne e;have:=hb a ha;have:=hb b hb';omega
theorem lF {l:List Int}{n:Nat}(hn:l.Nodup)(hb:∀ x∈l,0≤x∧x<(n:Int)):l.length≤n:=by
 have h1:=oI hn fun x hx=>(hb x hx).1;have:=dz (l:=List.range n) h1 List.nodup_range fun x hx=>by
  obtain ⟨y,hy,rfl⟩:=ze8.1 hx;have:=hb y hy;exact List.mem_range.2 oM
 simpa using this
theorem s5 {tl:List Cl}{c:Cl}(hok:AOk tl c)(h0:0<c.sides.length):iD tl c=cC tl c:=by
 obtain ⟨h64,hs,hq⟩:=hok;have start:Sd c.sides.length 0 0 [] (List.replicate c.sides.length 0) [] []:=⟨trivial,trivial,by simp,by simp,by simp,by simp,by simp,fun a b ha=>by omega⟩;obtain ⟨t,hd⟩:=start.outer c.sides (tl:=tl) oM oM hs hq;have e1:((c.sides.zipIdx 0).foldl (om tl) ([],List.replicate c.sides.length 0))=m4 tl c.sides c.sides.length:=rfl;rw[e1] at hd;have hz:aB RZ (m4 tl c.sides c.sides.length).1 (gS tl c.sides):=hd.z;have hm:aB RM (m4 tl c.sides c.sides.length).1 (er tl c.sides):=hd.m;unfold iD cC;rw[pd (p:=fun e=>decide (e.sum≠0)) (q:=fun p:Int×Int=>decide (p.2≠0)) (fun a b h=>by rw[h.2]) hz];rw[pd (p:=fun e=>decide (e.many≠2)) (q:=fun p:Int×List Int=>decide ((p.2.length:Int)≠2)) (fun a b h=>by rw[h.2.1]) hm];split
 ·rfl
 ·split
  ·rfl
  ·rename_i hno;have h2:∀ p∈er tl c.sides,p.2.length=2:=fun p hp=>by
    have:=zk2.1 ((zj4 _).mp hno) p hp;simp at this;omega
   have hbm:∀ p∈er tl c.sides,∀ x∈p.2,0≤x∧x<((0+c.sides.length:Nat):Int):=hd.bm;rw[Nat.zero_add] at hbm;have hcn:∀ a b:Nat,a<c.sides.length→b<c.sides.length→((m4 tl c.sides c.sides.length).2.getD a 0=(m4 tl c.sides c.sides.length).2.getD b 0↔Rch (jM (c4 (er tl c.sides))) a b):=fun a b ha hb=>by
    rw[tm h2];exact hd.cn a b oM oM
   have hln:=hd.len;have hmem:∀ x:Int,x∈ji (c4 (er tl c.sides))↔Rch (jM (c4 (er tl c.sides))) 0 x:=fun x=>vF (cnt:=nZ (c4 (er tl c.sides))) (fun v v' h=>jB h) (kU _) (zk7 (zc2 _ _)) (by simp[jM]) x;have hnd:(ji (c4 (er tl c.sides))).Nodup:=jA _ _ _ _ (by simp);have hin:∀ x∈ji (c4 (er tl c.sides)),0≤x∧x<(c.sides.length:Int):=fun x hx=>by
    have hr:=(tm h2 0 x).1 ((hmem x).1 hx);have:∀ a b,Cn (dM (er tl c.sides)) a b→(0≤a∧a<(c.sides.length:Int))→(0≤b∧b<(c.sides.length:Int)):=by
     intro a b h;induction h with
     | refl _=>exact fun h=>h
     | step e _ ih =>
      intro _
      rcases e with e | e
      ·exact ih (ib hbm e).2
      ·exact ih (ib hbm e).1
    exact this 0 x hr oM
   generalize (m4 tl c.sides c.sides.length).2=part at *;generalize ji (c4 (er tl c.sides))=seen at *;by_cases hall:∀ a,a<c.sides.length→part.getD a 0=part.getD 0 0
   ·have hf:part.any (fun x=>decide (x≠part.getD 0 0))=false:=by
     rw[zk2];intro x hx;obtain ⟨i,hi,rfl⟩:=zc4 hx;have:=hall i oM;rw[zg7,gE hi] at this;simpa using this
    have hlen:seen.length=c.sides.length:=by
     refine Nat.le_antisymm (lF hnd hin) ?_;have h3:=dz (m:=List.range c.sides.length) (l:=seen.map Int.toNat) List.nodup_range (oI hnd fun x hx=>(hin x hx).1) fun i hi=>by
      have hi:=List.mem_range.1 hi;exact ze8.2 ⟨(i:Int),(hmem i).2 ((hcn 0 i h0 hi).1 (hall i hi).symm),by simp⟩
     simpa using h3
    rw[hf,hlen];simp
   ·have ht:part.any (fun x=>decide (x≠part.getD 0 0))=true:=by
     simp only[Classical.not_forall] at hall;obtain ⟨a,ha,hne⟩:=hall;rw[zj5];refine⟨part.getD a 0,?_,by simpa using hne⟩;rw[zg7,gE oM];exact gM _
    have hlen:(seen.length:Int)≠c.sides.length:=by
     simp only[Classical.not_forall] at hall;obtain ⟨a,ha,hne⟩:=hall;have hna:(a:Int) ∉ seen:=fun h=>hne ((hcn 0 a h0 ha).2 ((hmem a).1 h)).symm;have:=lF (l:=(a:Int)::seen) (n:=c.sides.length) (zj8.2 ⟨hna,hnd⟩) fun x hx=>by
      rcases ze7.1 hx with rfl | hx
      ·omega
      ·exact hin x hx
     simp at this;omega
    rw[ht,zf7 rfl,zf7 hlen]
theorem cU {tl:List Cl}:∀ {l:List Cl} {n:Int},gK tl l n=none→l.Pairwise (fun a b=>a.id<b.id)∧(∀ x∈l,n<x.id)∧∀ x∈l,ct tl x=0
 | [],_,_=>⟨List.Pairwise.nil,by simp,by simp⟩
 | x::r,n,h=>by
  unfold gK at h;split at h
  ·cases h
  ·rename_i hid;split at h
   ·cases h
   ·rename_i hf;obtain ⟨h1,h2,h3⟩:=cU h;refine⟨zj9.2 ⟨h2,h1⟩,fun y hy=>?_,fun y hy=>?_⟩
    ·rcases ze7.1 hy with rfl | hy
     ·omega
     ·have:=h2 y hy; omega
    ·rcases ze7.1 hy with rfl | hy
     ·exact zg6 hf
     ·exact h3 y hy
theorem jP (l:List Cl):aC l=bg l:=by
 unfold aC bg;split
 ·rfl
 ·cases h:gK (ab l) (aa l) 0 with
  | some p=>rfl
  | none =>
   obtain ⟨h1,_,h3⟩:=cU h;have ht:=bA h1;have key:∀ m:List Cl,(∀ x∈m,x∈aa l)→m8 (aa l) m=n5 (ab l) m:=by
    intro m;induction m with
    | nil=>intro _; rfl
    | cons x r ih =>
     intro hm;have hx:=hm x (by simp);unfold m8 n5;rw[ih fun y hy=>hm y (by simp[hy])];by_cases hd:x.dim>1
     ·have hok:=AI h3 hx;have hn:0<x.sides.length:=by
       have hf:=h3 x hx;unfold ct at hf;split at hf
       ·cases hf
       ·split at hf
        ·cases hf
        ·rename_i hc;simp[ax] at hc;have:=hc.2 hd;omega
      rw[ht] at hok ⊢;rw[s5 hok hn]
     ·simp[hd]
   rw[key _ fun x hx=>hx]
set_option maxRecDepth 10000
theorem lm {l:List Cl}(h:(bg l).2=0):gK (ab l) (aa l) 0=none:=by
 unfold bg at h;split at h
 ·simp at h
 ·cases h1:gK (ab l) (aa l) 0 with
  | none=>rfl
  | some p=>rw[h1] at h; exact absurd h (vK h1)
theorem DX (a b:List Cl):bM a b=FI a b:=by
 have hb:cm a b=n8 a b:=by
  unfold cm n8;rw[jP,jP];by_cases h1:(bg a).2=0
  ·by_cases h2:(bg b).2=0
   ·rw[bA (cU (lm h1)).1,bA (cU (lm h2)).1,aq,aq]
   ·simp[h2]
  ·simp[h1]
 unfold bM FI;rw[hb,jP]
section
variable {A:List (List Int)}(hA:gN A)
include hA
end
theorem D0 {N i k i' k':Nat}(hk:k<N)(hk':k'<N)(h:i * N+k=i' * N+k'):i=i'∧k=k':=by
 have e:∀ {i k:Nat},k<N→(i * N+k) / N=i:=fun {i k} hk=>by rw[Nat.add_comm,Nat.add_mul_div_right _ _ oM,Nat.div_eq_of_lt hk,Nat.zero_add]
 have h1:=e (i:=i) hk;rw[h,e hk'] at h1;subst h1;exact⟨I,oM⟩
theorem Gg {N i k i' k':Nat}(hk:k<N)(h:i<i'):i * N+k<i' * N+k':=by
 have:(i+1) * N≤i' * N:=Nat.mul_le_mul_right N h;rw[Nat.succ_mul] at this;omega
theorem Gw {tl:List Cl}{c:Cl}(h1:0≤c.dim∧c.dim≤8)(h2:ax c=false)(h3:∀ x∈c.sides,∃ d,az tl x.cell=some d∧d.dim=c.dim - 1)(h4:c.sides.Pairwise fun a b=>a.cell<b.cell)(h5:∀ x∈c.sides,x.sign=1∨x.sign = -1)(h6:c.dim=1→l8 c.sides=0):ct tl c=0:=by
 have e1:eZ c=false:=by unfold eZ; simp; omega
 have e3:(List.range c.sides.length).any (iY tl c)=false:=by
  rw[zk2];intro i hi;have hi:=List.mem_range.1 hi;obtain ⟨d,hd1,hd2⟩:=h3 _ (gM hi);unfold iY;rw[gE hi];show ¬ cf _ _ i c.sides[i]=true;unfold cf;rw[hd1];simp only[Option.isSome_some,Bool.not_true,Bool.false_or,Option.getD_some,hd2,ne_eq,not_true_eq_false,decide_false];by_cases hi0:i>0
  ·have hlt:=zc6.1 h4 (i - 1) i oM hi oM;rw[gE oM];simp;omega
  ·simp[hi0]
 have e4:c.sides.any bL=false:=by
  rw[zk2];intro x hx
  rcases h5 x hx with h | h <;> simp[bL,h]
 have e5:(decide (c.dim=1)&&decide (l8 c.sides≠0))=false:=by
  by_cases hd:c.dim=1
  ·rw[h6 hd]; simp
  ·simp[hd]
 unfold ct;rw[e1,h2,e3,e4,e5];rfl
section
variable {A B:List (List Int)}(hA:gN A)(hB:gN B)
include hA hB
end
section
variable {A B:List (List Int)}(hA:gN A)(hB:gN B)
include hA hB
end
structure Few (a:List Cl)(A:List (List Int)):Prop where
 good:gN A
 cells:a=A.map (iK A)
 small:∀ s∈A,s.length≤3
 few:A.length≤14
def sumR (tl:List Cl)(l:List ai)(r:Int):Int:=(l.flatMap fun x=>(ao tl x).map fun q=>if q.cell=r then x.sign * q.sign else 0).sum
def hits (tl:List Cl)(x:ai)(r:Int):Nat:=((ao tl x).filter fun q=>decide (q.cell=r)).length
def cntR (tl:List Cl)(l:List ai)(r:Int):Nat:=(l.map fun x=>hits tl x r).sum
def qh (tl:List Cl)(l:List ai)(a b:Int):Prop:=∃ x∈l,∃ y∈l,x.cell=a∧y.cell=b∧∃ r,0<hits tl x r∧0<hits tl y r
theorem CA (zl:List (Int×Int))(k x r:Int):iJ (gL zl k x) r=iJ zl r+if r=k then x else 0:=by
 induction zl with
 | nil =>
  simp only[gL,iJ];split <;> simp
 | cons p q ih =>
  obtain ⟨a,z⟩:=p;simp only[gL];by_cases h:k=a
  ·subst h;simp only[if_true,iJ];split <;> simp
  ·rw[zf6 h];simp only[iJ,ih];by_cases hr:r=a
   ·subst hr;rw[zf7 rfl,zf7 rfl,zf6 fun e=>h e.symm];omega
   ·rw[zf6 hr,zf6 hr]
theorem rm (x:ai)(r:Int):∀ (l:List ai) (zl:List (Int×Int)),iJ (l.foldl (lV x) zl) r=iJ zl r+(l.map fun q=>if q.cell=r then x.sign * q.sign else 0).sum
 | [],zl=>by simp
 | q::l,zl=>by
  simp only[zi5,zg1,List.sum_cons];rw[rm x r l,lV,CA];by_cases h:r=q.cell
  ·rw[zf7 h,zf7 h.symm]; omega
  ·rw[zf6 h,zf6 fun e=>h e.symm]; omega
theorem uh (tl:List Cl)(l:List ai)(r:Int):iJ (gS tl l) r=sumR tl l r:=by
 have:∀ (l:List ai) (zl:List (Int×Int)),iJ (l.foldl (fun zl x=>(ao tl x).foldl (lV x) zl) zl) r=iJ zl r+sumR tl l r:=by
  intro l;induction l with
  | nil=>intro zl; simp[sumR]
  | cons x q ih =>
   intro zl;simp only[zi5];rw[ih,rm];simp only[sumR,zh2,List.sum_append];omega
 have h:=this l [];simpa [gS,iJ] using h
theorem C8 (ml:List (Int×Int))(k x:Int):(gL ml k x).map Prod.fst=if ml.any (fun p=>decide (p.1=k)) then ml.map Prod.fst else ml.map Prod.fst++[k]:=by
 induction ml with
 | nil=>simp[gL]
 | cons p r ih =>
  obtain ⟨a,l⟩:=p;simp only[gL];by_cases h:k=a
  ·subst h;simp
  ·have h2:¬ a=k:=fun e=>h e.symm;rw[zf6 h];simp only[zg1,ih,List.any_cons,h2,decide_false,Bool.false_or];split <;> simp
theorem Ai {ml:List (Int×Int)}(h:(ml.map Prod.fst).Nodup)(k x:Int):((gL ml k x).map Prod.fst).Nodup:=by
 rw[C8];split
 ·exact h
 ·rename_i hk;rw[List.nodup_append];refine⟨h,by simp,fun a ha b hb e=>hk ?_⟩;simp at hb;subst hb;obtain ⟨p,hp,hpe⟩:=ze8.1 ha;rw[zj5];exact⟨p,hp,by simp[hpe,e]⟩
theorem wb (tl:List Cl)(l:List ai):((gS tl l).map Prod.fst).Nodup:=by
 have h1:∀ (x:ai) (q:List ai) (zl:List (Int×Int)),(zl.map Prod.fst).Nodup→((q.foldl (lV x) zl).map Prod.fst).Nodup:=by
  intro x q;induction q with
  | nil=>intro zl h; exact h
  | cons r t ih=>intro zl h; exact ih _ (Ai h _ _)
 have h2:∀ (q:List ai) (zl:List (Int×Int)),(zl.map Prod.fst).Nodup→((q.foldl (fun zl x=>(ao tl x).foldl (lV x) zl) zl).map Prod.fst).Nodup:=by
  intro q;induction q with
  | nil=>intro zl h; exact h
  | cons x t ih=>intro zl h; exact ih _ (h1 _ _ _ h)
 exact h2 _ _ (by simp)
theorem x7:∀ {zl:List (Int×Int)},(zl.map Prod.fst).Nodup→∀ p∈zl,iJ zl p.1=p.2
 | [],_,p,hp=>by simp at hp
 | (a,z)::r,h,p,hp=>by
  simp only[zg1,zj8] at h
  rcases ze7.1 hp with rfl | hp
  ·simp[iJ]
  ·simp only[iJ];rw[zf6 fun e=>h.1 (ze8.2 ⟨p,hp,e⟩)];exact x7 h.2 p hp
theorem ui:∀ {zl:List (Int×Int)} {k:Int},iJ zl k≠0→∃ p∈zl,p.1=k∧p.2=iJ zl k
 | [],_,h=>by simp[iJ] at h
 | (a,z)::r,k,h=>by
  simp only[iJ] at h ⊢;split
  ·rename_i e;exact⟨(a,z),by simp,e.symm,I⟩
  ·rename_i e;rw[zf6 e] at h;obtain ⟨p,hp,h1,h2⟩:=ui h;exact⟨p,by simp[hp],h1,h2⟩
theorem tH (tl:List Cl)(l:List ai):(gS tl l).any (fun p=>decide (p.2≠0))=false↔∀ r,sumR tl l r=0:=by
 rw[zk2];constructor
 ·intro h r;rw[← uh];refine zg6 fun hne=>?_;obtain ⟨p,hp,_,h2⟩:=ui hne;exact h p hp (by simpa [h2] using hne)
 ·intro h p hp;have:=x7 (wb tl l) p hp;rw[uh,h] at this;simp[← this]
theorem rq (i r:Int):∀ (l:List ai) (ml:List (Int×List Int)),ez (l.foldl (ew i) ml) r=ez ml r++List.replicate (l.filter fun q=>decide (q.cell=r)).length i
 | [],ml=>by simp
 | q::l,ml=>by
  simp only[zi5];rw[rq i r l,ew,uk,zi4];by_cases h:r=q.cell
  ·rw[zf7 h,zf7 (by simp[h])];simp[List.replicate_succ]
  ·rw[zf6 h,zf6 (by simp; exact fun e=>h e.symm)]
theorem x9 (tl:List Cl)(l:List ai)(r:Int):ez (er tl l) r=l.zipIdx.flatMap fun p=>List.replicate (hits tl p.1 r) (p.2:Int):=by
 have:∀ (q:List (ai×Nat)) (ml:List (Int×List Int)),ez (q.foldl (fun ml p=>(ao tl p.1).foldl (ew p.2) ml) ml) r=ez ml r++q.flatMap fun p=>List.replicate (hits tl p.1 r) (p.2:Int):=by
  intro q;induction q with
  | nil=>intro ml; simp
  | cons p t ih =>
   intro ml;simp only[zi5];rw[ih,rq];simp[hits]
 have h:=this l.zipIdx [];simpa [er,ez] using h
theorem Ba (tl:List Cl)(l:List ai)(r:Int):(ez (er tl l) r).length=cntR tl l r:=by
 rw[x9];have:∀ (l:List ai) (k:Nat),((l.zipIdx k).flatMap fun p=>List.replicate (hits tl p.1 r) (p.2:Int)).length=cntR tl l r:=by
  intro l;induction l with
  | nil=>intro k; rfl
  | cons x q ih=>intro k; simp only[List.zipIdx_cons,zh2,ze2,List.length_replicate,ih,cntR,zg1,List.sum_cons]
 exact this l 0
theorem ob (tl:List Cl)(l:List ai)(r i:Int):i∈ez (er tl l) r↔∃ k:Nat,i=k∧∃ x,l[k]?=some x∧0<hits tl x r:=by
 rw[x9,List.mem_flatMap];constructor
 ·rintro ⟨⟨x,k⟩,hp,hi⟩;obtain ⟨h1,rfl⟩:=List.mem_replicate.1 hi;refine⟨k,I,x,?_,Nat.pos_of_ne_zero h1⟩;simpa using List.mem_zipIdx_iff_getElem?.1 hp
 ·rintro ⟨k,rfl,x,hx,hh⟩;exact⟨(x,k),List.mem_zipIdx_iff_getElem?.2 (by simpa using hx),List.mem_replicate.2 ⟨Nat.ne_of_gt hh,I⟩⟩
theorem nI:∀ {ml:List (Int×List Int)},(ml.map Prod.fst).Nodup→∀ p∈ml,ez ml p.1=p.2
 | [],_,p,hp=>by simp at hp
 | (a,z)::r,h,p,hp=>by
  simp only[zg1,zj8] at h
  rcases ze7.1 hp with rfl | hp
  ·simp[ez]
  ·simp only[ez];rw[zf6 fun e=>h.1 (ze8.2 ⟨p,hp,e⟩)];exact nI h.2 p hp
theorem oO:∀ {ml:List (Int×List Int)} {k:Int},ez ml k≠[]→∃ p∈ml,p.1=k∧p.2=ez ml k
 | [],_,h=>by simp[ez] at h
 | (a,z)::r,k,h=>by
  simp only[ez] at h ⊢;split
  ·rename_i e;exact⟨(a,z),by simp,e.symm,I⟩
  ·rename_i e;rw[zf6 e] at h;obtain ⟨p,hp,h1,h2⟩:=oO h;exact⟨p,by simp[hp],h1,h2⟩
theorem BE:∀ {ml:List (Int×List Int)} {k x:Int},(∀ p∈ml,p.2≠[])→∀ p∈fE ml k x,p.2≠[]
 | [],_,_,_,p,hp=>by simp[fE] at hp; subst hp; simp
 | (a,l)::r,k,x,h,p,hp=>by
  unfold fE at hp;split at hp
  ·rcases ze7.1 hp with rfl | hp
   ·simp
   ·exact h p (by simp[hp])
  ·rcases ze7.1 hp with rfl | hp
   ·exact h _ (by simp)
   ·exact BE (fun q hq=>h q (by simp[hq])) p hp
theorem Hh (tl:List Cl)(l:List ai):∀ p∈er tl l,p.2≠[]:=by
 have h1:∀ (i:Int) (q:List ai) (ml:List (Int×List Int)),(∀ p∈ml,p.2≠[])→∀ p∈q.foldl (ew i) ml,p.2≠[]:=by
  intro i q;induction q with
  | nil=>intro ml h; exact h
  | cons r t ih=>intro ml h; exact ih _ (BE h)
 have h2:∀ (q:List (ai×Nat)) (ml:List (Int×List Int)),(∀ p∈ml,p.2≠[])→∀ p∈q.foldl (fun ml p=>(ao tl p.1).foldl (ew p.2) ml) ml,p.2≠[]:=by
  intro q;induction q with
  | nil=>intro ml h; exact h
  | cons x t ih=>intro ml h; exact ih _ (h1 _ _ _ h)
 exact h2 _ _ (by simp)
theorem xW (tl:List Cl)(l:List ai):(er tl l).any (fun p=>decide ((p.2.length:Int)≠2))=false↔∀ r,cntR tl l r=0∨cntR tl l r=2:=by
 rw[zk2];constructor
 ·intro h r;rw[← Ba];by_cases hne:ez (er tl l) r=[]
  ·left; rw[hne]; rfl
  ·right;obtain ⟨p,hp,_,h2⟩:=oO hne;have:=h p hp;rw[h2] at this;simp at this;omega
 ·intro h p hp;have h1:=nI (j2 tl l) p hp;have h2:=h p.1;rw[← Ba,h1] at h2;have h3:=List.length_pos_iff.2 (Hh tl l p hp);simp;omega
theorem Hi (tl:List Cl)(l:List ai):∀ p∈er tl l,∀ x∈p.2,0≤x∧x<(l.length:Int):=fun p hp x hx=>by
 rw[← nI (j2 tl l) p hp] at hx;obtain ⟨k,rfl,y,hy,_⟩:=(ob tl l p.1 x).1 hx;have:=(zf2.1 hy).1;omega
theorem DK {ml:List (Int×List Int)}{n:Nat}(h2:∀ p∈ml,p.2.length=2)(hb:∀ p∈ml,∀ x∈p.2,0≤x∧x<(n:Int))(h0:0<n):(ji (c4 ml)).length=n↔∀ a:Nat,a<n→Cn (dM ml) 0 a:=by
 have hmem:∀ x:Int,x∈ji (c4 ml)↔Rch (jM (c4 ml)) 0 x:=fun x=>vF (cnt:=nZ (c4 ml)) (fun v v' h=>jB h) (kU _) (zk7 (zc2 _ _)) (by simp[jM]) x;have hnd:(ji (c4 ml)).Nodup:=jA _ _ _ _ (by simp);have hin:∀ x∈ji (c4 ml),0≤x∧x<(n:Int):=fun x hx=>by
  have hr:=(tm h2 0 x).1 ((hmem x).1 hx);have:∀ a b,Cn (dM ml) a b→(0≤a∧a<(n:Int))→(0≤b∧b<(n:Int)):=by
   intro a b h;induction h with
   | refl _=>exact fun h=>h
   | step e _ ih =>
    intro _
    rcases e with e | e
    ·exact ih (ib hb e).2
    ·exact ih (ib hb e).1
  exact this 0 x hr oM
 generalize ji (c4 ml)=seen at *;constructor
 ·intro hl a ha;refine Classical.byContradiction fun hne=>?_;have hna:(a:Int) ∉ seen:=fun h=>hne ((tm h2 0 a).1 ((hmem a).1 h));have:=lF (l:=(a:Int)::seen) (n:=n) (zj8.2 ⟨hna,hnd⟩) fun x hx=>by
   rcases ze7.1 hx with rfl | hx
   ·omega
   ·exact hin x hx
  simp at this;omega
 ·intro hall;refine Nat.le_antisymm (lF hnd hin) ?_;have h3:=dz (m:=List.range n) (l:=seen.map Int.toNat) List.nodup_range (oI hnd fun x hx=>(hin x hx).1) fun i hi=>by
   have hi:=List.mem_range.1 hi;exact ze8.2 ⟨(i:Int),(hmem i).2 ((tm h2 0 i).2 (hall i hi)),by simp⟩
  simpa using h3
theorem Cn.map {E E':Int→Int→Prop}{f:Int→Int}(h:∀ a b,E a b→Cn E' (f a) (f b)){a b:Int}(hc:Cn E a b):Cn E' (f a) (f b):=by
 induction hc with
 | refl _=>exact .refl _
 | step e _ ih =>
  rcases e with e | e
  ·exact (h _ _ e).trans ih
  ·exact (h _ _ e).symm.trans ih
theorem eS {tl:List Cl}{c:Cl}(h0:0<c.sides.length)(hnd:(c.sides.map ai.cell).Nodup) :
  cC tl c=0↔(∀ r,sumR tl c.sides r=0)∧(∀ r,cntR tl c.sides r=0∨cntR tl c.sides r=2)∧∀ x∈c.sides,∀ y∈c.sides,Cn (qh tl c.sides) x.cell y.cell:=by
 unfold cC;generalize c.sides=l at *;by_cases hs:(gS tl l).any (fun p=>decide (p.2≠0))=false
 ·rw[zf6 (by rw[hs]; simp)];by_cases hm:(er tl l).any (fun p=>decide ((p.2.length:Int)≠2))=false
  ·rw[zf6 (by rw[hm]; simp)];have h2:∀ p∈er tl l,p.2.length=2:=fun p hp=>by
    have:=zk2.1 hm p hp;simp at this;omega
   have hsa:=DK h2 (Hi tl l) h0;have hinj:∀ {i j:Nat} {x y:ai},l[i]?=some x→l[j]?=some y→x.cell=y.cell→i=j:=fun {i j x y} hi hj e=>by
    obtain ⟨i1,e1⟩:=zf2.1 hi;obtain ⟨i2,e2⟩:=zf2.1 hj;have key:∀ {a b:Nat} (ha:a<l.length) (hb:b<l.length),a<b→l[a].cell≠l[b].cell:=fun {a b} ha hb h=>by
     have:=zc6.1 hnd a b (by simpa using ha) (by simpa using hb) h;simpa using this
    rcases Nat.lt_trichotomy i j with h | h | h
    ·exact absurd (by rw[e1,e2]; exact e) (key i1 i2 h)
    ·exact h
    ·exact absurd (by rw[e1,e2]; exact e.symm) (key i2 i1 h)
   have hconn:(∀ a:Nat,a<l.length→Cn (dM (er tl l)) 0 a)↔∀ x∈l,∀ y∈l,Cn (qh tl l) x.cell y.cell:=by
    constructor
    ·intro hall x hx y hy;obtain ⟨i,hi,rfl⟩:=zc4 hx;obtain ⟨j,hj,rfl⟩:=zc4 hy;have hc:=(hall i hi).symm.trans (hall j hj);have:=hc.map (f:=fun a=>(l.getD a.toNat ⟨0,0⟩).cell) (E':=qh tl l) fun a b hl=>by
      obtain ⟨p,hp,h3,h4⟩:=hl;rw[← nI (j2 tl l) p hp] at h3 h4;obtain ⟨k,rfl,x,hx,hh⟩:=(ob tl l p.1 a).1 (List.mem_of_head? h3);obtain ⟨m,rfl,y,hy,hh2⟩:=(ob tl l p.1 b).1 h4;refine .one ⟨x,zf8 hx,y,zf8 hy,?_,?_,p.1,hh,hh2⟩
      ·simp[zg7,hx]
      ·simp[zg7,hy]
     simpa [zg7,hi,hj] using this
    ·intro hall;have key:∀ a b,Cn (qh tl l) a b→∀ (i:Nat) (x:ai),l[i]?=some x→x.cell=a→∀ (j:Nat) (y:ai),l[j]?=some y→y.cell=b→Cn (dM (er tl l)) (i:Int) (j:Int):=by
      have one:∀ {a b:Int},qh tl l a b→∀ (i:Nat) (x:ai),l[i]?=some x→x.cell=a→∃ (j:Nat) (y:ai),l[j]?=some y∧y.cell=b∧Cn (dM (er tl l)) (i:Int) (j:Int):=by
       rintro a b ⟨x',hx',y,hy,rfl,rfl,r,h3,h4⟩ i x hi he;obtain ⟨i',hi',rfl⟩:=zc4 hx';obtain ⟨j,hj,rfl⟩:=zc4 hy;have hii:=hinj hi (gE hi') he;subst hii;refine⟨j,l[j],gE hj,I,?_⟩;have m1:=(ob tl l r i).2 ⟨i,rfl,l[i],gE hi',h3⟩;have m2:=(ob tl l r j).2 ⟨j,rfl,l[j],gE hj,h4⟩;obtain ⟨p,hp,_,hp2⟩:=oO (ml:=er tl l) (k:=r) fun e=>by rw[e] at m1; simp at m1
       rw[← hp2] at m1 m2;cases hh:p.2 with
       | nil=>rw[hh] at m1; simp at m1
       | cons u q =>
        have hu:∀ v∈p.2,dM (er tl l) u v:=fun v hv=>⟨p,hp,by rw[hh]; rfl,hv⟩;exact (Cn.one (hu _ m1)).symm.trans (Cn.one (hu _ m2))
      intro a b hc;induction hc with
      | refl a =>
       intro i x hi he j y hj he2;have:=hinj hi hj (he.trans he2.symm);subst this;exact .refl _
      | step e _ ih =>
       intro i x hi he j y hj he2;have e':qh tl l _ _:=e.elim (fun e=>e) fun ⟨x,hx,y,hy,h1,h2,r,h3,h4⟩=>⟨y,hy,x,hx,h2,h1,r,h4,h3⟩;obtain ⟨k,z,hk,hz,hc⟩:=one e' i x hi he;exact hc.trans (ih k z hk hz j y hj he2)
     intro a ha;exact key _ _ (hall _ (gM h0) _ (gM ha)) 0 _ (gE h0) I a _ (gE ha) I
   rw[← hconn,← hsa];constructor
   ·intro h;refine⟨(tH tl l).1 hs,(xW tl l).1 hm,?_⟩;refine zg6 fun hne=>?_;rw[zf7 oM] at h;exact absurd h dC
   ·rintro ⟨_,_,h⟩;rw[zf6 oM]
  ·have hm':(er tl l).any (fun p=>decide ((p.2.length:Int)≠2))=true:=by simpa using hm
   rw[zf7 hm'];exact⟨fun h=>absurd h dC,fun h=>absurd ((xW tl l).2 h.2.1) hm⟩
 ·have hs':(gS tl l).any (fun p=>decide (p.2≠0))=true:=by simpa using hs
  rw[zf7 hs'];exact⟨fun h=>absurd h dC,fun h=>absurd ((tH tl l).2 h.1) hs⟩
structure Fm (tl:List Cl)(c:Cl):Prop where
 dim:0≤c.dim∧c.dim≤8
 cnt:ax c=false
 found:∀ x∈c.sides,∃ d,az tl x.cell=some d∧d.dim=c.dim - 1
 asc:c.sides.Pairwise fun a b=>a.cell<b.cell
 sg:∀ x∈c.sides,x.sign=1∨x.sign = -1
 one:c.dim=1→l8 c.sides=0
theorem Fm.ok {tl:List Cl}{c:Cl}(h:Fm tl c):ct tl c=0:=Gw h.dim h.cnt h.found h.asc h.sg h.one
theorem Hu {l:List ai}(hs:l.Pairwise fun a b=>a.cell≤b.cell)(hd:∀ i x y,l[i]?=some x→l[i+1]?=some y→x.cell≠y.cell):l.Pairwise fun a b=>a.cell<b.cell:=by
 induction l with
 | nil=>exact List.Pairwise.nil
 | cons a r ih =>
  obtain ⟨h1,h2⟩:=zj9.1 hs;have hr:=ih h2 fun i x y hx hy=>hd (i+1) x y (by simpa using hx) (by simpa using hy);refine zj9.2 ⟨fun b hb=>?_,hr⟩;cases r with
  | nil=>simp at hb
  | cons z q =>
   have hz:a.cell<z.cell:=by
    have:=h1 z (by simp);have:=hd 0 a z rfl rfl;omega
   rcases ze7.1 hb with rfl | hb
   ·exact hz
   ·have:=(zj9.1 hr).1 b hb;omega
theorem HE {tl:List Cl}{c:Cl}(h:ct tl c=0)(hs:c.sides.Pairwise fun a b=>a.cell≤b.cell):Fm tl c:=by
 unfold ct at h;split at h
 ·cases h
 ·rename_i h1;split at h
  ·cases h
  ·rename_i h2;split at h
   ·cases h
   ·rename_i h3;split at h
    ·cases h
    ·rename_i h4;split at h
     ·cases h
     ·rename_i h5;have hbad:∀ i x,c.sides[i]?=some x→cf tl c i x=false:=fun i x hx=>by
       have hi:=(zf2.1 hx).1;have:=zk2.1 ((zj4 _).mp h3) i (List.mem_range.2 hi);unfold iY at this;rw[hx] at this;simpa using this
      refine⟨?_,by simpa using h2,fun x hx=>?_,Hu hs fun i x y hx hy e=>?_,fun x hx=>?_,fun hd=>?_⟩
      ·simp[eZ] at h1; omega
      ·obtain ⟨i,hi,rfl⟩:=zc4 hx;have:=hbad i _ (gE hi);unfold cf at this;simp only[Bool.or_eq_false_iff,Bool.not_eq_false',decide_eq_false_iff_not,ne_eq,Decidable.not_not] at this;obtain ⟨⟨g1,g2⟩,_⟩:=this;obtain ⟨d,hd⟩:=zh5.1 g1;rw[hd] at g2;exact⟨d,hd,g2⟩
      ·have:=hbad (i+1) y hy;unfold cf at this;rw[show i+1 - 1=i by omega,hx] at this;simp[e] at this
      ·have:=zk2.1 ((zj4 _).mp h4) x hx;simp[bL] at this;by_cases h6:x.sign=1
       ·exact .inl h6
       ·exact .inr (this h6)
      ·simpa [hd] using h5
structure Rt (l:List Cl):Prop where
 few:l.length≤4000
 asc:l.Pairwise fun a b=>a.id<b.id
 pos:∀ x∈l,0<x.id
 form:∀ x∈l,Fm l x
 around:∀ x∈l,x.dim>1→cC l x=0
theorem Rt.canon {l:List Cl}(h:Rt l):aa l=l:=by
 unfold aa;rw[(dS (key:=Cl.id) (h.asc.imp fun h=>by omega) (aJ.refl l)).symm];have:∀ c∈l,ay c=c:=fun c hc=>by
  unfold ay;rw[(dS (key:=ai.cell) ((h.form c hc).asc.imp fun h=>by omega) (aJ.refl c.sides)).symm]
 rw[zc5 this];simp
theorem Rt.tab {l:List Cl}(h:Rt l):ab l=l:=by rw[bA (by rw[h.canon]; exact h.asc),h.canon]
theorem Rt.check {l:List Cl}(h:Rt l):bg l=(0,0):=by
 refine yx h.few ?_ ?_ ?_ ?_ <;> rw[h.canon]
 ·exact h.pos
 ·exact h.asc
 ·exact fun x hx=>(h.form x hx).ok
 ·exact h.around
theorem Rt.find {l:List Cl}(h:Rt l){c:Cl}(hc:c∈l):az l c.id=some c:=by
 refine nK ?_ hc;rw[List.Nodup,zk1];exact h.asc.imp fun h=>by omega
theorem kz {tl:List Cl}:∀ {l:List Cl},n5 tl l=none→∀ x∈l,x.dim>1→cC tl x=0
 | [],_,x,hx,_=>by simp at hx
 | y::r,h,x,hx,hd=>by
  unfold n5 at h;split at h
  ·cases h
  ·rename_i hn
   rcases ze7.1 hx with rfl | hx
   ·exact zg6 fun h=>hn ⟨hd,h⟩
   ·exact kz h x hx hd
theorem uz {tl:List Cl}:∀ {l:List Cl} {p:Int×Int},n5 tl l=some p→p.2≠0
 | [],_,h=>by cases h
 | y::r,p,h=>by
  unfold n5 at h;split at h
  ·rename_i hn; cases h; exact hn.2
  ·exact uz h
theorem wZ (l:List Cl):∀ c∈aa l,c.sides.Pairwise fun a b=>a.cell≤b.cell:=fun c hc=>by
 obtain ⟨d,_,rfl⟩:=ze8.1 hc;exact dH d.sides
theorem m5 {l:List Cl}(h:(bg l).2=0):Rt (aa l):=by
 have h1:=lm h;obtain ⟨h2,h3,h4⟩:=cU h1;have ht:=bA h2;have h5:l.length≤4000:=CX h;refine⟨by rw[aq]; exact h5,h2,h3,fun x hx=>HE (by rw[← ht]; exact h4 x hx) (wZ l x hx),?_⟩;have h6:n5 (ab l) (aa l)=none:=by
  unfold bg at h;rw[zf6 oM,h1] at h;cases hc:n5 (ab l) (aa l) with
  | none=>rfl
  | some p =>
   rw[hc] at h;exact absurd h (uz hc)
 rw[ht] at h6;exact kz h6
theorem fY {l m:List Int}(h:l.Perm m):l.sum=m.sum:=by
 induction h with
 | nil=>rfl
 | cons x _ ih=>simp[ih]
 | swap x y l=>simp; omega
 | trans _ _ ih1 ih2=>exact ih1.trans ih2
theorem Ca {l m:List Nat}(h:l.Perm m):l.sum=m.sum:=by
 induction h with
 | nil=>rfl
 | cons x _ ih=>simp[ih]
 | swap x y l=>simp; omega
 | trans _ _ ih1 ih2=>exact ih1.trans ih2
theorem gn {α:Type}{key:α→Int}(l:List α):(sortBy key l).Perm l:=by
 have hi:∀ (x:α) (l:List α),(ins key x l).Perm (x::l):=by
  intro x l;induction l with
  | nil=>exact .refl _
  | cons y r ih =>
   unfold ins;split
   ·exact .refl _
   ·exact (ih.cons y).trans (.swap x y r)
 induction l with
 | nil=>exact .refl _
 | cons x r ih=>exact (hi x _).trans (ih.cons x)
def inner (tl:List Cl)(x:ai)(r:Int):Int:=((ao tl x).map fun q=>if q.cell=r then x.sign * q.sign else 0).sum
theorem dg (tl:List Cl)(l:List ai)(r:Int):sumR tl l r=(l.map fun x=>inner tl x r).sum:=by
 unfold sumR;induction l with
 | nil=>rfl
 | cons x q ih=>simp only[zh2,List.sum_append,zg1,List.sum_cons,ih]; rfl
theorem tK {tl:List Cl}{l m:List ai}(h:l.Perm m)(r:Int):sumR tl l r=sumR tl m r:=by
 rw[dg,dg];exact fY (h.map _)
theorem uw {tl:List Cl}{l m:List ai}(h:l.Perm m)(r:Int):cntR tl l r=cntR tl m r:=Ca (h.map _)
def sgn (b:Bool):Int:=if b then -1 else 1
theorem tV (b:Bool){a:Int}(h:a=1∨a = -1):uQ b a=sgn b * a∧(uQ b a=1∨uQ b a = -1):=by
 rcases h with rfl | rfl <;> cases b <;> exact⟨by decide,by decide⟩
theorem cw {α:Type}{l:List α}{f g:α→Int}{K:Int}(h:∀ x∈l,f x=K * g x):(l.map f).sum=K * (l.map g).sum:=by
 induction l with
 | nil=>simp
 | cons x r ih =>
  simp only[zg1,List.sum_cons];rw[h x (by simp),ih fun y hy=>h y (by simp[hy]),Int.mul_add]
structure Nm (l:List Cl)(k:Int):Prop where
 inj:∀ a∈l,∀ b∈l,dU a.id k=dU b.id k→a=b
 pos:∀ a∈l,0<dU a.id k
section
variable {l:List Cl}(h:Rt l){k:Int}(hn:Nm l k)(t:Int)
include h hn
omit hn in
theorem fF (c:Cl)(hc:c∈l){x:ai}(hx:x∈c.sides):∃ d∈l,d.id=x.cell∧az l x.cell=some d∧d.dim=c.dim - 1:=by
 obtain ⟨d,hd,hdd⟩:=(h.form c hc).found x hx;obtain ⟨h1,h2⟩:=bF hd;exact⟨d,h1,h2,hd,hdd⟩
theorem Gb:((l.map (aH k t)).map Cl.id).Nodup:=by
 rw[zi2,List.Nodup,zk1];refine List.Pairwise.imp_of_mem ?_ h.asc;intro a b ha hb hlt e;have:=hn.inj a ha b hb e;subst this;omega
theorem tT:((aa (l.map (aH k t))).map Cl.id).Nodup:=by
 have h1:=Gb h hn t;have h2:((aa (l.map (aH k t))).map Cl.id).Perm ((l.map (aH k t)).map Cl.id):=by
  rw[mP];exact (gn _).map _
 exact h2.symm.nodup h1
omit h hn in
theorem Ga {c:Cl}(hc:c∈l):ay (aH k t c)∈aa (l.map (aH k t)) :=
 ze8.2 ⟨_,(dh _ _).2 (ze8.2 ⟨c,hc,rfl⟩),rfl⟩
omit h hn in
theorem oc {c':Cl}(hc:c'∈aa (l.map (aH k t))):∃ c∈l,c'=ay (aH k t c):=by
 obtain ⟨d,hd,rfl⟩:=ze8.1 hc;obtain ⟨c,hc',rfl⟩:=ze8.1 ((dh _ _).1 hd);exact⟨c,hc',I⟩
theorem nB {c:Cl}(hc:c∈l):az (aa (l.map (aH k t))) (dU c.id k)=some (ay (aH k t c)) :=
 nK (x:=ay (aH k t c)) (tT h hn t) (Ga t hc)
omit h hn in
theorem eu (c:Cl):(ay (aH k t c)).sides.Perm (c.sides.map (be k t c)):=gn _
omit hn in
theorem nA {c:Cl}(hc:c∈l){x:ai}(hx:x∈c.sides):(be k t c x).sign=sgn (iV t c x.cell) * (sgn (jf t c) * x.sign)∧((be k t c x).sign=1∨(be k t c x).sign = -1):=by
 have h1:=tV (jf t c) ((h.form c hc).sg x hx);have h2:=tV (iV t c x.cell) h1.2;exact⟨by rw[← h1.1]; exact h2.1,h2.2⟩
theorem xO {c:Cl}(hc:c∈l):Fm (aa (l.map (aH k t))) (ay (aH k t c)):=by
 have hf:=h.form c hc;have hlen:(ay (aH k t c)).sides.length=c.sides.length:=by rw[(eu t c).length_eq,ze3]
 have hmem:∀ x',x'∈(ay (aH k t c)).sides↔∃ x∈c.sides,be k t c x=x':=fun x'=>by rw[(eu t c).mem_iff,ze8]
 refine⟨hf.dim,?_,fun x' hx'=>?_,?_,fun x' hx'=>?_,fun hd=>?_⟩
 ·have:=hf.cnt;unfold ax at this ⊢;rw[hlen];exact this
 ·obtain ⟨x,hx,rfl⟩:=(hmem x').1 hx';obtain ⟨d,hd,hid,_,hdd⟩:=fF h c hc hx;have:=nB h hn t hd;rw[hid] at this;exact⟨_,this,hdd⟩
 ·have h1:(ay (aH k t c)).sides.Pairwise fun a b=>a.cell≤b.cell:=dH _;have h2:((ay (aH k t c)).sides.map ai.cell).Nodup:=by
   refine ((eu t c).map ai.cell).symm.nodup ?_;rw[zi2,List.Nodup,zk1];refine List.Pairwise.imp_of_mem ?_ hf.asc;intro a b ha hb hlt e;obtain ⟨d,hd,hid,_⟩:=fF h c hc ha;obtain ⟨d',hd',hid',_⟩:=fF h c hc hb;have e:dU a.cell k=dU b.cell k:=e;rw[← hid,← hid'] at e;have:=hn.inj d hd d' hd' e;subst this;omega
  rw[List.Nodup,zk1] at h2;exact (h1.and h2).imp fun ⟨h3,h4⟩=>by omega
 ·obtain ⟨x,hx,rfl⟩:=(hmem x').1 hx';exact (nA h t hc hx).2
 ·have hd:c.dim=1:=hd;have h1:=hf.one hd;unfold l8 at h1 ⊢;rw[fY ((eu t c).map ai.sign),zi2];rw[cw (g:=ai.sign) (K:=sgn (jf t c)) fun x hx=>?_,h1,Int.mul_zero];have h2:=(nA (k:=k) h t hc hx).1;have h3:iV t c x.cell=false:=by unfold iV; simp[hd]
  rw[h3] at h2;show (be k t c x).sign=_;rw[h2];unfold sgn;simp
theorem sa {c:Cl}(hc:c∈l){x:ai}(hx:x∈c.sides){e:Cl}(he:e∈l):hits (aa (l.map (aH k t))) (be k t c x) (dU e.id k)=hits l x e.id:=by
 obtain ⟨d,hd,hid,hfd,_⟩:=fF h c hc hx;unfold hits ao;rw[hfd,show (be k t c x).cell=dU d.id k by rw[hid]; rfl,nB h hn t hd];show ((ay (aH k t d)).sides.filter _).length=_;rw[((eu t d).filter _).length_eq,List.filter_map,ze3];congr 1;refine List.filter_congr fun q hq=>?_;obtain ⟨u,hu,hui,_⟩:=fF h d hd hq;show decide (dU q.cell k=dU e.id k)=decide (q.cell=e.id);rw[decide_eq_decide,← hui];by_cases hue:u=e
 ·subst hue; simp
 ·have h1:¬ dU u.id k=dU e.id k:=fun e'=>hue (hn.inj u hu e he e');have h2:¬ u.id=e.id:=fun e'=>hue (by have a1:=h.find hu; have a2:=h.find he; rw[e',a2] at a1; injection a1 with a1; exact a1.symm);simp[h1,h2]
theorem pB {c:Cl}(hc:c∈l){x:ai}(hx:x∈c.sides){r:Int}(hr:∀ e∈l,dU e.id k≠r):hits (aa (l.map (aH k t))) (be k t c x) r=0:=by
 obtain ⟨d,hd,hid,hfd,_⟩:=fF h c hc hx;unfold hits ao;rw[show (be k t c x).cell=dU d.id k by rw[hid]; rfl,nB h hn t hd];show ((ay (aH k t d)).sides.filter _).length=_;rw[((eu t d).filter _).length_eq,List.length_eq_zero_iff,List.filter_eq_nil_iff];intro q' hq';obtain ⟨q,hq,rfl⟩:=ze8.1 hq';obtain ⟨u,hu,hui,_⟩:=fF h d hd hq;have:=hr u hu;rw[hui] at this;show ¬ decide (dU q.cell k=r)=true;simpa using this
theorem B6 {c:Cl}(hc:c∈l)(hd1:c.dim>1){x:ai}(hx:x∈c.sides){e:Cl}(he:e∈l) :
  inner (aa (l.map (aH k t))) (be k t c x) (dU e.id k)=sgn (jf t c) * sgn ((decide (t>1)&&decide (c.dim - 1>1))&&decide (e.id.tmod t=1)) * inner l x e.id:=by
 obtain ⟨d,hd,hid,hfd,hdd⟩:=fF h c hc hx;have hsx:=(nA (k:=k) h t hc hx).1;unfold inner ao;rw[hfd,show (be k t c x).cell=dU d.id k by rw[hid]; rfl,nB h hn t hd];show ((ay (aH k t d)).sides.map _).sum=_;rw[fY ((eu t d).map _),zi2];show _=_ * (d.sides.map _).sum;refine cw fun q hq=>?_;obtain ⟨u,hu,hui,_⟩:=fF h d hd hq;have hsq:=(nA (k:=k) h t hd hq).1;simp only[Function.comp_def];show (if dU q.cell k=dU e.id k then (be k t c x).sign * (be k t d q).sign else 0)=_;by_cases hue:u=e
 ·subst hue;rw[hui,zf7 rfl,zf7 rfl,hsx,hsq];have h1:iV t c x.cell=jf t d:=by
   unfold iV jf;rw[hid];simp[hd1]
  have h2:iV t d q.cell=((decide (t>1)&&decide (c.dim - 1>1))&&decide (q.cell.tmod t=1)):=by
   unfold iV;rw[hdd]
  rw[h1,h2];generalize jf t d=b1;generalize jf t c=b2;generalize ((decide (t>1)&&decide (c.dim - 1>1))&&decide (q.cell.tmod t=1))=b3;cases b1 <;> cases b2 <;> cases b3 <;> simp[sgn,Int.neg_mul,Int.mul_neg]
 ·have h1:¬ dU q.cell k=dU e.id k:=fun e'=>hue (hn.inj u hu e he (by rw[hui]; exact e'));have h2:¬ q.cell=e.id:=fun e'=>hue (by have a1:=h.find hu; have a2:=h.find he; rw[hui,e',a2] at a1; injection a1 with a1; exact a1.symm);rw[zf6 h1,zf6 h2,Int.mul_zero]
omit h hn in
theorem x4 {tl:List Cl}{x:ai}{r:Int}(h0:hits tl x r=0):inner tl x r=0:=by
 unfold hits at h0;rw[List.length_eq_zero_iff,List.filter_eq_nil_iff] at h0;unfold inner;have:((ao tl x).map fun q=>if q.cell=r then x.sign * q.sign else 0)=(ao tl x).map fun _=>(0:Int):=zc5 fun q hq=>zf6 (by simpa using h0 q hq);rw[this];generalize ao tl x=m;induction m with
 | nil=>rfl
 | cons a b ih=>simpa using ih
theorem zA {c:Cl}(hc:c∈l)(hd1:c.dim>1):cC (aa (l.map (aH k t))) (ay (aH k t c))=0:=by
 have hf:=h.form c hc;have hf':=xO h hn t hc;have hn0:0<c.sides.length:=by
  have:=hf.cnt;simp[ax] at this;have:=this.2 hd1;omega
 have hlen:(ay (aH k t c)).sides.length=c.sides.length:=by rw[(eu t c).length_eq,ze3]
 have nd:∀ {c:Cl},(c.sides.Pairwise fun a b=>a.cell<b.cell)→(c.sides.map ai.cell).Nodup:=fun h=>by
  rw[List.Nodup,zk1];exact h.imp fun h=>by omega
 obtain ⟨a1,a2,a3⟩:=(eS hn0 (nd hf.asc)).1 (h.around c hc hd1);refine (eS (by rw[hlen]; exact hn0) (nd hf'.asc)).2 ⟨fun r=>?_,fun r=>?_,fun x' hx' y' hy'=>?_⟩
 ·rw[tK (eu t c),dg,zi2];simp only[Function.comp_def];by_cases hr:∃ e∈l,dU e.id k=r
  ·obtain ⟨e,he,rfl⟩:=hr;have h1:=a1 e.id;rw[dg] at h1;rw[cw (g:=fun x=>inner l x e.id) (K:=sgn (jf t c) * sgn ((decide (t>1)&&decide (c.dim - 1>1))&&decide (e.id.tmod t=1))) fun x hx=>B6 h hn t hc hd1 hx he,h1,Int.mul_zero]
  ·have hr:∀ e∈l,dU e.id k≠r:=fun e he e'=>hr ⟨e,he,e'⟩;rw[cw (g:=fun _=>(0:Int)) (K:=0) fun x hx=>by
    rw[x4 (pB h hn t hc hx hr)];rfl,Int.zero_mul]
 ·rw[uw (eu t c)];unfold cntR;rw[zi2];simp only[Function.comp_def];by_cases hr:∃ e∈l,dU e.id k=r
  ·obtain ⟨e,he,rfl⟩:=hr;have h1:=a2 e.id;unfold cntR at h1;rw[zc5 (g:=fun x=>hits l x e.id) fun x hx=>sa h hn t hc hx he];exact h1
  ·have hr:∀ e∈l,dU e.id k≠r:=fun e he e'=>hr ⟨e,he,e'⟩;left;rw[zc5 (g:=fun _=>0) fun x hx=>pB h hn t hc hx hr];generalize c.sides=m;induction m with
   | nil=>rfl
   | cons a b ih=>simpa using ih
 ·have hmem:∀ x',x'∈(ay (aH k t c)).sides↔x'∈c.sides.map (be k t c):=fun x'=>(eu t c).mem_iff;obtain ⟨x,hx,rfl⟩:=ze8.1 ((hmem x').1 hx');obtain ⟨y,hy,rfl⟩:=ze8.1 ((hmem y').1 hy');have hm:∀ x∈c.sides,be k t c x∈(ay (aH k t c)).sides:=fun x hx=>(hmem _).2 (ze8.2 ⟨x,hx,rfl⟩);refine (a3 x hx y hy).map (f:=fun a=>dU a k) fun a b=>?_;rintro ⟨u,hu,v,hv,rfl,rfl,r,h1,h2⟩;obtain ⟨du,hdu,hidu,hfu,_⟩:=fF h c hc hu;have hr:∃ e∈l,e.id=r:=by
   unfold hits ao at h1;rw[hfu] at h1;obtain ⟨q,hq⟩:=List.exists_mem_of_length_pos h1;obtain ⟨hq1,hq2⟩:=zh1.1 hq;obtain ⟨e,he,hei,_⟩:=fF h du hdu (x:=q) hq1;exact⟨e,he,by rw[hei]; simpa using hq2⟩
  obtain ⟨e,he,rfl⟩:=hr;exact .one ⟨_,hm u hu,_,hm v hv,I,I,dU e.id k,by rw[sa h hn t hc hu he]; exact h1,by rw[sa h hn t hc hv he]; exact h2⟩
theorem B5:Rt (aa (l.map (aH k t))):=by
 refine⟨by rw[aq,ze3]; exact h.few,?_,fun x' hx'=>?_,fun x' hx'=>?_,fun x' hx' hd=>?_⟩
 ·have h1:=fV (l.map (aH k t));have h2:=tT h hn t;rw[zk1] at h1;rw[List.Nodup,zk1] at h2;exact (h1.and h2).imp fun ⟨h3,h4⟩=>by omega
 ·obtain ⟨c,hc,rfl⟩:=oc t hx';exact hn.pos c hc
 ·obtain ⟨c,hc,rfl⟩:=oc t hx';exact xO h hn t hc
 ·obtain ⟨c,hc,rfl⟩:=oc t hx';exact zA h hn t hc hd
end
def Bd (l:List Cl):Prop:=∀ c∈l,c.id≤l.length
theorem AY (ls:List (List Int)):Rt (bQ ls)∧Bd (bQ ls):=by
 have h1:=m5 (l:=bQ ls) (by rw[py]);have h2:aa (bQ ls)=bQ ls:=by
  unfold bQ;cases aG [] ls with
  | none=>rfl
  | some all=>exact gp _
 rw[h2] at h1;refine⟨h1,?_⟩;unfold bQ;cases h:aG [] ls with
 | none=>intro c hc; simp at hc
 | some all =>
  obtain ⟨hg,_⟩:=gF ls [] h gN.nil (by simp);dsimp only;rw[hg.cells];intro c hc;obtain ⟨s,hs,rfl⟩:=ze8.1 hc;have:=(zf2.1 (hg.get_lb hs)).1;show ixC all s≤_;unfold ixC;rw[ze3];omega
theorem Fj {l:List Int}{x:Int}(h:x∈l):lbI l x<l.length:=by
 unfold lbI;induction l with
 | nil=>simp at h
 | cons a r ih =>
  rw[zi4]
  rcases ze7.1 h with rfl | h
  ·have:=zc2 (fun y=>decide (y<x)) r;simp;omega
  ·have:=ih h;split
   ·simp only[ze5]; omega
   ·simp only[ze5]; omega
theorem vA (a b:List Cl):Rt (bM a b)∧Bd (bM a b)∧(bM a b).length≤a.length * b.length:=by
 rw[DX];unfold FI;split
 ·exact⟨⟨by simp,List.Pairwise.nil,by simp,by simp,by simp⟩,fun c hc=>by simp at hc,by simp⟩
 ·rename_i hbad;split
  ·rename_i hok;have hlen:(aa (de a b)).length=a.length * b.length:=by
    rw[aq];unfold de;rw[i5,aq,aq]
   refine⟨m5 hok,fun c hc=>?_,by rw[hlen]; exact lR _⟩;rw[hlen];obtain ⟨h1,h2,_⟩:=zD (by simpa using hbad);have ta:=bA (cU (lm h1)).1;have tb:=bA (cU (lm h2)).1;obtain ⟨d,hd,rfl⟩:=ze8.1 hc;have hd:=(dh _ _).1 hd;unfold de at hd;rw[ta,tb] at hd;obtain ⟨x,hx,hd⟩:=List.mem_flatMap.1 hd;obtain ⟨y,hy,rfl⟩:=ze8.1 hd;have l1:=Fj (ze8.2 ⟨x,hx,rfl⟩:x.id∈(aa a).map Cl.id);have l2:=Fj (ze8.2 ⟨y,hy,rfl⟩:y.id∈(aa b).map Cl.id);rw[ze3,aq] at l1 l2;show aN (aa a) (aa b) x.id y.id≤_;unfold aN;rw[aq];have h3:(lbI ((aa a).map Cl.id) x.id+1) * b.length≤a.length * b.length:=Nat.mul_le_mul_right _ l1;rw[Nat.succ_mul] at h3;have h4:((lbI ((aa a).map Cl.id) x.id * b.length:Nat):Int)=(lbI ((aa a).map Cl.id) x.id:Int) * (b.length:Int):=Int.natCast_mul _ _;rw[← h4];omega
  ·exact⟨⟨by simp,List.Pairwise.nil,by simp,by simp,by simp⟩,fun c hc=>by simp at hc,by simp⟩
theorem zF:∀ n,n<7→2≤n→(bg (uP n)).2=0∧∀ c∈uP n,c.id≤90:=by decide +kernel
theorem kG:∀ (ls acc:List (List Int)) {all:List (List Int)},aG acc ls=some all→(∀ x∈ls,x.length≤2)→all.length≤acc.length+3 * ls.length
 | [],acc,all,h,_=>by cases h; simp
 | s::r,acc,all,h,hl=>by
  have hs:=hl s (by simp);have h3:(ce s).length≤s.length:=by
   unfold ce;exact zk6 (iZ _ _) (by rw[fj]; exact lR _)
  simp only[ze5];unfold aG at h;split at h
  ·have:=kG r acc h fun x hx=>hl x (by simp[hx]);omega
  ·split at h
   ·cases h
   ·have h1:=kG r _ h fun x hx=>hl x (by simp[hx]);have h2:(dT acc (ce s)).length≤acc.length+3:=by
     unfold dT;refine zk6 (iZ _ _) ?_;rw[(im _).length_eq,ze2];have:2 ^ (ce s).length≤2 ^ 2:=Nat.pow_le_pow_right dC oM;simp[bI];omega
    omega
theorem rC:(bQ [[0,1],[1,2],[0,2]]).length≤9:=by
 unfold bQ;cases h:aG [] [[0,1],[1,2],[0,2]] with
 | none=>simp
 | some all =>
  have:=kG _ _ h dC;dsimp only;rw[aq,bG];simpa using this
theorem AZ (m:Int)(ls:List (List Int))(y:Int):Rt (qI (oA m ls y))∧∀ c∈qI (oA m ls y),c.id≤90:=by
 have key:∀ l:List Cl,Rt l→(l.length≤45→∀ c∈l,c.id≤90)→Rt (qI l)∧∀ c∈qI l,c.id≤90:=by
  intro l h1 h2;unfold qI;split
  ·have h3:=vA (bQ [[0,1],[1,2],[0,2]]) (bQ [[0,1],[1,2],[0,2]]);refine⟨h3.1,fun c hc=>?_⟩;have h4:=h3.2.1 c hc;have h5:=h3.2.2;have h6:qq.length≤9 * 9:=zk6 h5 (Nat.mul_le_mul rC rC);have h7:c.id≤qq.length:=h4;omega
  ·exact⟨h1,h2 oM⟩
 have hS:∀ ls,Rt (qI (bQ ls))∧∀ c∈qI (bQ ls),c.id≤90:=fun ls=>key _ (AY ls).1 fun hl c hc=>by have:=(AY ls).2 c hc; omega
 have hP:∀ a b,Rt (qI (bM a b))∧∀ c∈qI (bM a b),c.id≤90:=fun a b=>key _ (vA a b).1 fun hl c hc=>by have:=(vA a b).2.1 c hc; omega
 have h5:=aV y 5 dC dC;unfold oA
 repeat' split
 ·exact hS _
 ·exact hP _ _
 ·have h6:=zF (2+bU y 5).toNat oM oM;have h7:=m5 h6.1;rw[show aa (uP (2+bU y 5).toNat)=uP (2+bU y 5).toNat from gp _] at h7;exact key _ h7 fun _=>h6.2
 ·exact hP _ _
 ·exact hS _
 ·exact hS _
theorem Gm:∀ k∈[1,3,5],∀ a,a<91→∀ b,b<91→dU (a:Nat) k=dU (b:Nat) k→a=b:=by decide +kernel
theorem Gl:∀ k∈[1,3,5],∀ a,a<91→0<a→0<dU (a:Nat) k:=by decide +kernel
theorem re (kd:Int)(ls:List (List Int))(y:Int):Rt (j8 kd ls y):=by
 obtain ⟨h1,h2⟩:=AZ (bU kd 8) ls y;have hk:As y∈[(1:Int),3,5]:=by
  have:=aV (IntKind.i64.wrap (y.tdiv 7)) 3 dC dC;unfold As;generalize bU (IntKind.i64.wrap (y.tdiv 7)) 3=q at *
  rcases (by omega:q=0∨q=1∨q=2) with rfl | rfl | rfl <;> decide
 refine B5 h1 ⟨fun a ha b hb e=>?_,fun a ha=>?_⟩ _
 ·have p1:=h1.pos a ha;have p2:=h1.pos b hb;have q1:=h2 a ha;have q2:=h2 b hb;have e1:((a.id.toNat:Nat):Int)=a.id:=Int.toNat_of_nonneg oM;have e2:((b.id.toNat:Nat):Int)=b.id:=Int.toNat_of_nonneg oM;have:=Gm _ hk a.id.toNat oM b.id.toNat oM (by rw[e1,e2]; exact e);have hid:a.id=b.id:=oM;have f1:=h1.find ha;have f2:=h1.find hb;rw[hid,f2] at f1;injection f1 with f1
  exact f1.symm
 ·have p1:=h1.pos a ha;have q1:=h2 a ha;have e1:((a.id.toNat:Nat):Int)=a.id:=Int.toNat_of_nonneg oM;have:=Gl _ hk a.id.toNat oM oM;rw[e1] at this;exact this
theorem Hg:∀ k∈[1,3,5],∀ a,a<91→dU (a:Nat) k≤300:=by decide +kernel
theorem Ei (kd:Int)(ls:List (List Int))(y:Int):∀ c∈j8 kd ls y,gz c.id:=by
 intro c hc;have h0:=(re kd ls y).pos c hc;obtain ⟨h1,h2⟩:=AZ (bU kd 8) ls y;have hk:As y∈[(1:Int),3,5]:=by
  have:=aV (IntKind.i64.wrap (y.tdiv 7)) 3 dC dC;unfold As;generalize bU (IntKind.i64.wrap (y.tdiv 7)) 3=q at *
  rcases (by omega:q=0∨q=1∨q=2) with rfl | rfl | rfl <;> decide
 obtain ⟨a,ha,rfl⟩:=oc (Fy y) hc;have p1:=h1.pos a ha;have q1:=h2 a ha;have e1:((a.id.toNat:Nat):Int)=a.id:=Int.toNat_of_nonneg oM;have:=Hg _ hk a.id.toNat oM;rw[e1] at this;have h3:(ay (aH (As y) (Fy y) a)).id=dU a.id (As y):=rfl;rw[h3] at h0 ⊢;unfold gz;omega
def part (l:List Cl)(p:Int→Bool):List Cl:=l.filter fun c=>p c.id
def oh (l:List Cl)(p:Int→Bool):Prop:=∀ c∈l,p c.id=true→∀ x∈c.sides,p x.cell=true
theorem oG {l:List Cl}{p:Int→Bool}{id:Int}(hp:p id=true):az (part l p) id=az l id:=by
 unfold az part;induction l with
 | nil=>rfl
 | cons c r ih =>
  rw[zi4];by_cases hc:c.id=id
  ·rw[zf7 (by rw[hc]; exact hp)];simp[hc]
  ·split
   ·simp only[zi3,hc,decide_false];exact ih
   ·simp only[zi3,hc,decide_false];exact ih
theorem Cb {l:List Cl}{p:Int→Bool}{id:Int}(hp:p id=false):az (part l p) id=none:=by
 unfold az part;rw[List.find?_eq_none];intro c hc;have:=(zh1.1 hc).2;simp;intro e;rw[e,hp] at this;cases this
theorem mC {l:List Cl}(h:Rt l){p:Int→Bool}(hp:oh l p):Rt (part l p):=by
 have hsub:(part l p).Sublist l:=List.filter_sublist;refine⟨zk6 hsub.length_le h.few,h.asc.sublist hsub,fun x hx=>h.pos x (hsub.subset hx),fun c hc=>?_,fun c hc hd=>?_⟩
 ·obtain ⟨hc1,hc2⟩:=zh1.1 hc;have hf:=h.form c hc1;exact⟨hf.dim,hf.cnt,fun x hx=>by rw[oG (hp c hc1 hc2 x hx)]; exact hf.found x hx,hf.asc,hf.sg,hf.one⟩
 ·obtain ⟨hc1,hc2⟩:=zh1.1 hc;rw[← h.around c hc1 hd,o9,o9];congr 1;unfold oy;refine zc5 fun x hx=>?_;unfold ao;rw[oG (hp c hc1 hc2 x hx)]
end Go.Proofs.YtkbagdedfdfjhaaGreatDoor
