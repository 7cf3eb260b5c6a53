/- 9 -/
import Derived.Test.YtbbppeihhkhkcaaGreatDoorMt08
import Derived.Test.YtbbppeihhkhkcaaGreatDoorMt03
import Derived.Test.YtbbppeihhkhkcaaGreatDoorMt05
import Derived.Test.YtbbppeihhkhkcaaGreatDoorMt07
import Derived.SizedLaws
import Derived.Test.YtbbppeihhkhkcaaGreatDoorMt06
set_option linter.unusedSimpArgs false
set_option linter.unusedVariables false
namespace Go.Proofs.YtbbppeihhkhkcaaGreatDoor
open _root_.Go.Proofs.Tryz _root_.Go.Proofs.YtbbppeihhkhkcaaGreatDoor.Tryz
open Go Go.Sy Go.Pl Go.Proofs
set_option maxRecDepth 100000
set_option maxHeartbeats 1000000
theorem BL (E:World)(g0:PH)(bt bu:Nat)(tv uv:Value)(A B:List Cl)(hT:Tab g0 tv A)(hU:Tab g0 uv B)(hA:bd A)(hnA:(A.map Cl.id).Nodup)(h1:g0 bt=some (.cells #[tv] 105 (0,0)))(h2:g0 bu=some (.cells #[uv] 105 (0,0))) :
  rh E (.func (.func 92) #[] #[pp bt 0,pp bu 0]) (oa A B) A g0:=by
 intro g s c r hle0 hmem hc;replace hT:=hT.mono hle0;replace hU:=hU.mono hle0;replace h1:=hle0 _ _ h1;replace h2:=hle0 _ _ h2;obtain ⟨rp,rcap,rfl,hcs⟩:=dV hc;refine bM.mk (cap:=[pp bt 0,pp bu 0]) call92 ?_;have hT0:=hT;obtain ⟨ba,ma,iva,ra,rfl,hba,hma,hIa,halla⟩:=hT;obtain ⟨bb,mb,ivb,rb,rfl,hbb,hmb,hIb,hallb⟩:=hU;have hcl:=fun id (h:id∈mY A [c.id])=>wg h;have hmp:oa A B c=(mY A [c.id]).all (qH A B):=rfl;generalize hC:mY A [c.id]=C at *;refine zb1 (args:=[rcv ⟨c.id,c.dim,⟨rp,c.sides.length,rcap⟩⟩,pp bt 0,pp bu 0]) func92 I ntmps92 (bE I) ?_;refine rZ (bW (bO I) fun b3=>?_);refine aT I (sQ (rZ (lK (qL isAgg105 I (cK h1 I)) (lU (fA ay I zT3 I) (lK (qL (v:=vi c.id) iT3 I (cO 0 I I)) (lW (bS sty52 I I I (ag ⟨I,trivial⟩) dC) ?_))))));rintro _ _ _ ⟨b11,rfl,rfl,rfl⟩;refine zb4 fun g1 hle1 hb11=>?_;have hi1:de g1 (.slice (some ⟨b11,0,none⟩) 1 1) [c.id]:=SlA.lit hb11 rfl rfl;refine lW (SO.call call93 I (s8 E g1 _ _ _ A [c.id] (hT0.mono hle1) hA hi1 (by simp))) ?_;rintro _ g2 _ ⟨m,rfl,hle2,rfl⟩;rw[hC];refine SL.freezeMap fun g3 hle3 hm3=>?_;obtain ⟨es,clk,hes,hmi⟩:=hm3;refine lW (SO.range underlying143 I hes) ?_;rintro _ _ _ ⟨it,rfl,rfl,rfl⟩;refine tZ (bK ?_);have hle13:=hle1.trans (hle2.trans hle3);refine oP (ι:=List MapEntry×List (Int×Value)) (fun _=>[(1,pp bt 0),(2,pp bu 0),(13,pp it 0)]) (fun _=>g3)
  (fun i=>iter it m es clk i.1::pt b3 (.cells #[vi c.id,vi c.dim,.slice rp c.sides.length rcap] 56 (0,0))::s)
  (fun i=>kF (fX C) es i.1 i.2∧∀ p∈i.2,qH A B p.1=true) (fun i=>C.length - i.2.length)
  ([],[]) sB rfl rfl ⟨kF.nil _ _,by simp⟩ ?_
 rintro ⟨vis,vl⟩ ⟨hrv,hgood⟩;dsimp only at hrv hgood ⊢;have hvle:=hrv.len hmi;simp only[fX,ze3] at hvle;refine rZ (lW (SO.nextP 0 I I hes hmi hrv) ?_);rintro _ _ _ ⟨rfl,hcase⟩
 rcases hcase with ⟨rfl,rfl,hperm⟩ | ⟨e,pr,he,hp1,hk1,hv1,hrv2,rfl,rfl⟩
 ·have hall:oa A B c=true:=by
   rw[hmp,zj6];intro id hid;have:(id,vb true)∈fX C:=ze8.2 ⟨id,hid,rfl⟩;exact hgood _ (hperm.symm.subset this)
  refine yX I (tZ (sQ (cF I (xI (tX (tX (bX (tN (rZ (aT I (rE ?_)))))))))));refine dR (s':=s) (.cons _ (.cons _ (.refl _))) (ST.less hle13 ?_);exact za7 (.inl I) results92 I ⟨by rw[hall],I,I⟩
 ·obtain ⟨id,hid,rfl⟩:=ze8.1 hp1;have hvl2:=hrv2.len hmi;simp only[fX,ze3,ze2,ze4] at hvl2;obtain ⟨x,hx⟩:=hcl id hid;obtain ⟨hxm,hxid⟩:=au hx;have hxl:=hA.2 x hxm;obtain ⟨y,hy1,hy2,hy3⟩:=cH halla fD id;have hy3':am g ((ab A id).getD bi) y:=hy3;rw[hx] at hy3';obtain ⟨yi,yd,yp,yn,yc⟩:=y;obtain ⟨z,hz1,hz2,hz3⟩:=cH hallb fD id;obtain ⟨zi,zd,zp,zn,zc⟩:=z;have hz2':(dB (rb.map an) id).isSome=(ab B id).isSome:=hz2;have hz3':am g ((ab B id).getD bi) ⟨zi,zd,zp,zn,zc⟩:=hz3;cases hf0:ab B id with
  | none =>
   have hbad:oa A B c=false:=by
    rw[hmp,List.all_eq_false];exact⟨id,hid,by unfold qH; rw[hf0]; simp⟩
   refine yX I (tZ (sQ (za1 I (kP (tN (bK (rZ (lK (SQ.entryP 0 I I hes hmi he hk1 hv1) (yX I (aT I (rZ (lK (qL isAgg105 I (cK (hle13 _ _ h2) I)) (lU (nC I) (lU (fA jy I iy I) (lK (qL iE I (cK (hle13 _ _ hbb) I)) (lM I (lK (SQ.eq (v':=.tuple #[rcv ⟨zi,zd,zp,zn,zc⟩,vb false]) (SQ.lookupOk mty125 I I (a8.known (hmb.mono hle13))) (by rw[hz1,hz2',hf0]; rfl)) ?_)))))))))))))))));refine lM I (yX I (yX I (bW (aL zk8) fun b6=>?_)));refine oZ (sK 0 ao I I I I I sB) ?_;refine aT I (sQ ?_);refine dW [] [(0,2),(1,2),(2,2),(3,1),(4,2),(5,2),(6,1),(7,2),(8,1),(9,1),(10,0),(11,2),(12,2)] zd9 kR ?_;refine yM I (pU I (SU.not I) (yM I (yI I (yG I (yG I (yI I (yG I (yI I (yI I (fO I (gZ I I I dC) dC ⟨by exact zb8 _,(by exact .refl _)⟩ ?_))))))))));refine yG I (pU I (wT I I) (pN (tN (za1 I (rZ (aT I (rE (bR (tR (bR (tR ?_)))))))))));refine dR (s':=s) (.cons _ (.cons _ (.cons _ (.refl _)))) (ST.less hle13 ?_);exact za7 (.inl I) results92 I ⟨by rw[hbad],I,I⟩
  | some w =>
   rw[hf0] at hz3';have hwr:am g w ⟨zi,zd,zp,zn,zc⟩:=hz3';have hmi0:qH A B id=decide (x=w):=by unfold qH; rw[hf0,hx]; rfl
   refine yX I (tZ (sQ (za1 I (kP (tN (bK (rZ (lK (SQ.entryP 0 I I hes hmi he hk1 hv1) (yX I (aT I (rZ (lK (qL isAgg105 I (cK (hle13 _ _ h2) I)) (lU (nC I) (lU (fA jy I iy I) (lK (qL iE I (cK (hle13 _ _ hbb) I)) (lM I (lK (SQ.eq (v':=.tuple #[rcv ⟨zi,zd,zp,zn,zc⟩,vb true]) (SQ.lookupOk mty125 I I (a8.known (hmb.mono hle13))) (by rw[hz1,hz2',hf0]; rfl)) ?_)))))))))))))))));refine lM I (yX I (yX I (bW (aL zk8) fun b6=>?_)));refine oZ (sK 0 ao I I I I I sB) ?_;refine aT I (sQ ?_);refine dW [] [(0,2),(1,2),(2,2),(3,1),(4,2),(5,2),(6,1),(7,2),(8,1),(9,1),(10,0),(11,2),(12,2)] zd9 kR ?_;refine yM I (pU I (SU.not I) (yM I (SP.gq I (gT I I I dC) (qL isAgg105 I (cK (hle13 _ _ h1) I)) dC (zb2 I (gT I I I dC) (nC I) dC (zb2 I (gT I I I dC) (fA jy I iy I) dC (SP.gq I (gT I I I dC) (qL iE I (cK (hle13 _ _ hba) I)) dC (yJ I (SP.gq I (gT I I I dC) (SQ.eq (v':=rcv ⟨yi,yd,yp,yn,yc⟩) (SQ.lookup mty125 I I (a8.known (hma.mono hle13))) (by rw[hy1])) dC ?_))))))));refine SP.gq I (gT I I I dC) (qV 0 cz ao I I I) dC (SP.go I (gT I I I dC) (SO.call call82 I (rH E g3 _ x w ⟨yi,yd,yp,yn,yc⟩ ⟨zi,zd,zp,zn,zc⟩ (hy3'.mono hle13) (hwr.mono hle13) hxl)) dC (.inr iR) ?_);rintro _ _ _ ⟨rfl,rfl,rfl⟩;refine zb2 I (gT I I I dC) (SU.notP I) dC (pU I (wF I I) (pN (tN ?_)));refine iP I (fun hne=>?_) (fun hne=>?_)
   ·have hbad:oa A B c=false:=by
     rw[hmp,List.all_eq_false];exact⟨id,hid,by rw[hmi0]; simpa using hne⟩
    refine rZ (aT I (rE (bR (tR (bR (tR ?_))))));refine dR (s':=s) (.cons _ (.cons _ (.cons _ (.refl _)))) (ST.less hle13 ?_);exact za7 (.inl I) results92 I ⟨by rw[hbad],I,I⟩
   ·have hxw:x=w:=zg6 hne;refine kP (bN (dR (s':=iter it m es clk (vis++[e])::pt b3 (.cells #[vi c.id,vi c.dim,.slice rp c.sides.length rcap] 56 (0,0))::s) (.cons _ (.refl _)) ?_));exact ST.again (vis++[e],vl++[(id,vb true)]) sB I I ⟨hrv2,fun p hp=>by
     rcases ze9.1 hp with hp | hp
     ·exact hgood p hp
     ·simp at hp; subst hp; rw[hmi0]; simpa using hxw⟩ lN
theorem BK (E:World)(g:PH)(s:Own)(v u:Value)(a b:List Cl)(hv:aj g v a)(hu:aj g u b)(ha:bd a)(hb:bd b) :
  Ctr Tryz.prog E 24 #[.agg #[v],.agg #[u]] g s (fun r g' s'=>s=s'∧Le g g'∧∃ x,r = .agg #[x]∧eU (mns g' g) x (gn (ai a) (ai b))):=by
 obtain ⟨p1,c1,rfl⟩:=hv.form;obtain ⟨p2,c2,rfl⟩:=hu.form;have hfa:=ep ha;have hnA:=jr a;refine zb1 (args:=[.agg #[.slice p1 a.length c1],.agg #[.slice p2 b.length c2]]) func24 I ntmps24 (bE I) ?_;refine rZ (bW (bO I) fun b2=>?_);refine bW (bO I) fun b3=>?_;refine bW (aL zk7) fun b4=>?_;refine tZ ?_;refine SC.cut (ι:=Nat×Nat×Value×Value×PH) (fun i=>[(2,pp b2 0),(3,pp b3 0),(4,pp b4 0),(5,pp i.1 0),(6,pp i.2.1 0)]) (fun i=>i.2.2.2.2)
  (fun i=>pt i.2.1 (.cells #[i.2.2.2.1] 105 (0,0))::pt i.1 (.cells #[i.2.2.1] 105 (0,0))::pt b4 (.cells #[.slice none 0 0] 29 (0,0))::pt b3 (.cells #[.slice p2 b.length c2] 29 (0,0))::pt b2 (.cells #[.slice p1 a.length c1] 29 (0,0))::s)
  (fun i=>Le g i.2.2.2.2∧A6 (dx (mns i.2.2.2.2 g)) i.2.2.2.2 i.2.2.1 (ai a)∧Tab i.2.2.2.2 i.2.2.2.1 (ai b)) ?_ ?_
 ·refine SC.drawX [] zd9 kR ?_;refine SX.q (i:=0) I kR (qV 2 aA ak I I I) dC (SX.q (i:=2) I kR (qV 1 aA ak I I I) dC ?_)
  repeat' (first
   | ((with_reducible refine SB.k 7 ?_); first | (refine SB.on (i:=7) rfl (sK 0 sizeOf105 rfl rfl rfl rfl rfl sB) (.inr (by rintro _ _ _ ⟨rfl,rfl⟩; exact⟨by exact Le.trans (by assumption) (by assumption),(by exact .cons _ (.cons _ (.refl _)))⟩)) ?_; rintro _ _ _ ⟨rfl,rfl⟩) | (refine SB.on (i:=7) rfl (sK 1 sizeOf105 rfl rfl rfl rfl rfl sB) (.inr (by rintro _ _ _ ⟨rfl,rfl⟩; exact⟨by exact Le.trans (by assumption) (by assumption),(by exact .cons _ (.cons _ (.refl _)))⟩)) ?_; rintro _ _ _ ⟨rfl,rfl⟩))
   | ((with_reducible refine SB.k 6 ?_); first | (refine SB.on (i:=6) rfl (sK 1 sizeOf105 rfl rfl rfl rfl rfl sB) (.inr (by rintro _ _ _ ⟨rfl,rfl⟩; exact⟨by exact Le.trans (by assumption) (by assumption),(by exact .cons _ (.cons _ (.refl _)))⟩)) ?_; rintro _ _ _ ⟨rfl,rfl⟩) | (refine SB.on (i:=6) rfl (sK 0 sizeOf105 rfl rfl rfl rfl rfl sB) (.inr (by rintro _ _ _ ⟨rfl,rfl⟩; exact⟨by exact Le.trans (by assumption) (by assumption),(by exact .cons _ (.cons _ (.refl _)))⟩)) ?_; rintro _ _ _ ⟨rfl,rfl⟩))
   | ((with_reducible refine SB.k 5 ?_); first | (refine SB.o (i:=5) rfl (aL zl4) dC (.inr (by rintro _ _ _ ⟨b6,rfl,rfl,rfl⟩; exact⟨by assumption,(by exact .cons _ (.refl _))⟩)) ?_; rintro _ _ _ ⟨b6,rfl,rfl,rfl⟩) | (refine SB.o (i:=5) rfl (aL zl4) dC (.inr (by rintro _ _ _ ⟨b6,rfl,rfl,rfl⟩; exact⟨by exact zb8 _,(by exact .cons _ (.refl _))⟩)) ?_; rintro _ _ _ ⟨b6,rfl,rfl,rfl⟩) | (refine SB.o (i:=5) rfl (aL zl4) dC (.inr (by rintro _ _ _ ⟨b6,rfl,rfl,rfl⟩; exact⟨by assumption,(by exact .cons _ (.cons _ (.refl _)))⟩)) ?_; rintro _ _ _ ⟨b6,rfl,rfl,rfl⟩) | (refine SB.o (i:=5) rfl (aL zl4) dC (.inr (by rintro _ _ _ ⟨b6,rfl,rfl,rfl⟩; exact⟨by exact zb8 _,(by exact .cons _ (.cons _ (.refl _)))⟩)) ?_; rintro _ _ _ ⟨b6,rfl,rfl,rfl⟩) | (refine SB.o (i:=5) rfl (aL zl4) dC (.inr (by rintro _ _ _ ⟨b6,rfl,rfl,rfl⟩; exact⟨by exact Le.trans (by assumption) (by assumption),(by exact .cons _ (.refl _))⟩)) ?_; rintro _ _ _ ⟨b6,rfl,rfl,rfl⟩) | (refine SB.o (i:=5) rfl (aL zl4) dC (.inr (by rintro _ _ _ ⟨b6,rfl,rfl,rfl⟩; exact⟨by exact Le.trans (by assumption) (by assumption),(by exact .cons _ (.cons _ (.refl _)))⟩)) ?_; rintro _ _ _ ⟨b6,rfl,rfl,rfl⟩))
   | ((with_reducible refine SB.k 4 ?_); first | (refine SB.o (i:=4) rfl (aL zl4) dC (.inr (by rintro _ _ _ ⟨b5,rfl,rfl,rfl⟩; exact⟨by assumption,(by exact .cons _ (.refl _))⟩)) ?_; rintro _ _ _ ⟨b5,rfl,rfl,rfl⟩) | (refine SB.o (i:=4) rfl (aL zl4) dC (.inr (by rintro _ _ _ ⟨b5,rfl,rfl,rfl⟩; exact⟨by exact zb8 _,(by exact .cons _ (.refl _))⟩)) ?_; rintro _ _ _ ⟨b5,rfl,rfl,rfl⟩) | (refine SB.o (i:=4) rfl (aL zl4) dC (.inr (by rintro _ _ _ ⟨b5,rfl,rfl,rfl⟩; exact⟨by assumption,(by exact .cons _ (.cons _ (.refl _)))⟩)) ?_; rintro _ _ _ ⟨b5,rfl,rfl,rfl⟩) | (refine SB.o (i:=4) rfl (aL zl4) dC (.inr (by rintro _ _ _ ⟨b5,rfl,rfl,rfl⟩; exact⟨by exact zb8 _,(by exact .cons _ (.cons _ (.refl _)))⟩)) ?_; rintro _ _ _ ⟨b5,rfl,rfl,rfl⟩) | (refine SB.o (i:=4) rfl (aL zl4) dC (.inr (by rintro _ _ _ ⟨b5,rfl,rfl,rfl⟩; exact⟨by exact Le.trans (by assumption) (by assumption),(by exact .cons _ (.refl _))⟩)) ?_; rintro _ _ _ ⟨b5,rfl,rfl,rfl⟩) | (refine SB.o (i:=4) rfl (aL zl4) dC (.inr (by rintro _ _ _ ⟨b5,rfl,rfl,rfl⟩; exact⟨by exact Le.trans (by assumption) (by assumption),(by exact .cons _ (.cons _ (.refl _)))⟩)) ?_; rintro _ _ _ ⟨b5,rfl,rfl,rfl⟩))
   | ((with_reducible refine SB.k 3 ?_); first | (refine SB.o (i:=3) rfl (SO.call call52 rfl (mO E g1 _ _ b (hu.mono hle1) hb)) dC (.inr (by rintro uv g2 _ ⟨rfl,hle2,hut⟩; exact⟨by exact Le.trans (by assumption) (by assumption),(by exact .refl _)⟩)) ?_; rintro uv g2 _ ⟨rfl,hle2,hut⟩; obtain ⟨bu,rfl⟩:=hut.ptr) | (refine SB.o (i:=3) rfl (SO.call call52 rfl (mO E g1 _ _ b (hu.mono hle1) hb)) dC (.inr (by rintro uv g2 _ ⟨rfl,hle2,hut⟩; exact⟨by exact Le.trans (by assumption) (by assumption),(by exact .cons _ (.refl _))⟩)) ?_; rintro uv g2 _ ⟨rfl,hle2,hut⟩; obtain ⟨bu,rfl⟩:=hut.ptr) | (refine SB.o (i:=3) rfl (SO.call call52 rfl (mO E g1 _ _ b (hu.mono hle1) hb)) dC (.inr (by rintro uv g2 _ ⟨rfl,hle2,hut⟩; exact⟨by exact Le.trans (by assumption) (by assumption),(by exact .cons _ (.cons _ (.refl _)))⟩)) ?_; rintro uv g2 _ ⟨rfl,hle2,hut⟩; obtain ⟨bu,rfl⟩:=hut.ptr))
   | ((with_reducible refine SB.k 1 ?_); first | (refine SB.o (i:=1) rfl (SO.call call52 rfl (tF E g _ _ a hv ha)) dC (.inr (by rintro tv g1 _ ⟨rfl,hle1,htk⟩; exact⟨by assumption,(by exact .refl _)⟩)) ?_; rintro tv g1 _ ⟨rfl,hle1,htk⟩; have ht:Tab g1 tv (ai a):=htk.mono (zb8 _) fun _ _=>dx.cr (eG _ _); obtain ⟨bt,rfl⟩:=ht.ptr) | (refine SB.o (i:=1) rfl (SO.call call52 rfl (tF E g _ _ a hv ha)) dC (.inr (by rintro tv g1 _ ⟨rfl,hle1,htk⟩; exact⟨by assumption,(by exact .cons _ (.refl _))⟩)) ?_; rintro tv g1 _ ⟨rfl,hle1,htk⟩; have ht:Tab g1 tv (ai a):=htk.mono (zb8 _) fun _ _=>dx.cr (eG _ _); obtain ⟨bt,rfl⟩:=ht.ptr) | (refine SB.o (i:=1) rfl (SO.call call52 rfl (tF E g _ _ a hv ha)) dC (.inr (by rintro tv g1 _ ⟨rfl,hle1,htk⟩; exact⟨by assumption,(by exact .cons _ (.cons _ (.refl _)))⟩)) ?_; rintro tv g1 _ ⟨rfl,hle1,htk⟩; have ht:Tab g1 tv (ai a):=htk.mono (zb8 _) fun _ _=>dx.cr (eG _ _); obtain ⟨bt,rfl⟩:=ht.ptr))
   | ((with_reducible refine SX.k 5 ?_); first | refine zd5 1 5 kD ?_ ?_ | refine zd5 1 4 kD ?_ ?_ | refine SX.br3 3 4 5 kD ?_ ?_ ?_)
   | ((with_reducible refine SX.k 4 ?_); first | refine zd4 1 kD ?_ | refine zd5 4 5 kD ?_ ?_ | refine zd5 3 5 kD ?_ ?_ | refine zd5 3 4 kD ?_ ?_)
   | ((with_reducible refine SX.k 3 ?_); first | refine zd4 5 kD ?_ | refine zd4 4 kD ?_ | refine zd4 3 kD ?_)
   | ((with_reducible refine SX.k 2 ?_); refine zd4 6 kD ?_)
   | ((with_reducible refine SX.k 1 ?_); refine zd4 7 kD ?_)
   | ((with_reducible refine SX.k 0 ?_); refine SX.nil kD ?_; first | exact za8 (b5,b6,pp bt 0,pp bu 0,g2) sB rfl rfl ⟨hle1.trans hle2,htk.mono hle2 fun _ _=>dx.mono (fQ hle2),hut⟩ | (refine ST.perm (zj7 _ _ _) ?_; exact za8 (b5,b6,pp bt 0,pp bu 0,g2) sB I I ⟨hle1.trans hle2,htk.mono hle2 fun _ _=>dx.mono (fQ hle2),hut⟩))
   | (refine SX.k 6 ?_; refine SX.br3 1 4 5 kD ?_ ?_ ?_))
 rintro ⟨b5,b6,tv,uv,g2⟩ ⟨hle,htk,hut⟩;dsimp only at hle htk hut ⊢;have ht:Tab g2 tv (ai a):=htk.mono (zb8 _) fun _ _=>dx.cr (eG _ _);refine SC.freeze fun g3 hl3 hb6=>?_;refine SC.freeze fun g4 hl4 hb5=>?_;have hle4:=hle.trans (hl3.trans hl4);have ht4:=ht.mono (hl3.trans hl4);have hut4:=hut.mono (hl3.trans hl4);refine rZ (lK (qL isAgg105 I (cK hb5 I)) (lU (SU.mkFunc I) (lW (SO.call call91 I (vJ (dx (mns g2 g)) E g4 _ _ _ (ai a) (oa (ai a) (ai b)) (fun _ _ h=>dx.cr ((eG _ _).trans (hl3.trans hl4)) h) (htk.mono (hl3.trans hl4) fun _ _ h=>h) hnA hfa (BL E g4 b5 b6 _ _ _ _ ht4 hut4 hfa hnA hb5 (hl4 _ _ hb6)))) ?_)));rintro _ g5 _ ⟨rfl,hle5,x,rs9,rfl,hx1,hx2⟩;have hx:eU (mns g5 g) x _:=⟨rs9,hx1.mono (i8 hle4),hx2.mono fun _ _=>dx.mono (fQ ((hl3.trans hl4).trans hle5))⟩;obtain ⟨q,d,rfl⟩:=hx1.form;refine oZ (sK 0 ak I I I I I sB) ?_;refine tZ (rE ?_);exact ST.retCD 0 s (.inl I) results24 I aA ak I I uR ⟨I,hle4.trans hle5,_,I,hx⟩
theorem Aa (E:World)(g:PH)(s:Own)(v u:Value)(a b:List Cl)(hv:aj g v a)(hu:aj g u b)(ha:bd a)(hb:bd b) :
  Ctr Tryz.prog E 24 #[.agg #[v],.agg #[u]] g s (fun r g' s'=>s=s'∧Le g g'∧∃ x,r = .agg #[x]∧aj g' x (gn (ai a) (ai b))) :=
 (BK E g s v u a b hv hu ha hb).mono fun _ _ _ ⟨h1,h2,x,h3,h4⟩=>⟨h1,h2,x,h3,h4.cells (eG _ _)⟩
def xX (L:List (Int×List ae)):List (Int×Int):=L.foldl (fun zl p=>p.2.foldl (fun zl r=>eH zl r.cell (p.1 * r.sign)) zl) []
def CJ (L:List (Int×List ae)):List (Int×List Int):=L.zipIdx.foldl (fun ml p=>p.1.2.foldl (ek p.2) ml) []
def lh (L:List (Int×List ae)):Int :=
 if (xX L).any (fun p=>decide (p.2≠0)) then 24
 else if (CJ L).any (fun p=>decide ((p.2.length:Int)≠2)) then 25
 else if ((iC (cN (CJ L))).length:Int)≠L.length then 25 else 0
def jz (tl:List Cl)(c:Cl):List (Int×List ae):=c.sides.map fun x=>(x.sign,aq tl x)
theorem fz (tl:List Cl)(c:Cl):aX tl c=lh (jz tl c):=by
 have h1:eI tl c.sides=xX (jz tl c):=by
  unfold eI xX jz;rw[List.foldl_map];rfl
 have h2:ef tl c.sides=CJ (jz tl c):=by
  unfold ef CJ jz;rw[List.zipIdx_map,List.foldl_map];rfl
 have h3:(jz tl c).length=c.sides.length:=by simp[jz]
 unfold aX lh;rw[h1,h2,h3]
def AX (φ:Int→Int)(r:ae):ae:=⟨φ r.cell,r.sign⟩
def vm (φ:Int→Int)(L:List (Int×List ae)):List (Int×List ae):=L.map fun p=>(p.1,p.2.map (AX φ))
def yb (L:List (Int×List ae)):List Int:=L.flatMap fun p=>p.2.map ae.cell
def kB {α:Type}(φ:Int→Int)(zl:List (Int×α)):List (Int×α):=zl.map fun p=>(φ p.1,p.2)
section
variable {φ:Int→Int}{K:Int→Prop}(hφ:∀ a b,K a→K b→φ a=φ b→a=b)
include hφ
theorem Ch {zl:List (Int×Int)}{k:Int}(x:Int)(hz:∀ p∈zl,K p.1)(hk:K k):eH (kB φ zl) (φ k) x=kB φ (eH zl k x):=by
 induction zl with
 | nil=>rfl
 | cons p r ih =>
  obtain ⟨a,z⟩:=p;have ha:=hz (a,z) (by simp);simp only[kB,zg1,eH] at ih ⊢;by_cases h:k=a
  ·subst h; simp
  ·rw[zf6 h,zf6 fun e=>h (hφ k a hk ha e)];simp only[zg1];rw[ih fun p hp=>hz p (by simp[hp])]
theorem Cj {zl:List (Int×List Int)}{k:Int}(x:Int)(hz:∀ p∈zl,K p.1)(hk:K k):fk (kB φ zl) (φ k) x=kB φ (fk zl k x):=by
 induction zl with
 | nil=>rfl
 | cons p r ih =>
  obtain ⟨a,z⟩:=p;have ha:=hz (a,z) (by simp);simp only[kB,zg1,fk] at ih ⊢;by_cases h:k=a
  ·subst h; simp
  ·rw[zf6 h,zf6 fun e=>h (hφ k a hk ha e)];simp only[zg1];rw[ih fun p hp=>hz p (by simp[hp])]
omit hφ in
theorem Ci {zl:List (Int×Int)}{k x:Int}(hz:∀ p∈zl,K p.1)(hk:K k):∀ p∈eH zl k x,K p.1:=by
 induction zl with
 | nil=>intro p hp; simp[eH] at hp; subst hp; exact hk
 | cons q r ih =>
  obtain ⟨a,z⟩:=q;have ha:=hz (a,z) (by simp);intro p hp;simp only[eH] at hp;split at hp
  ·rcases ze7.1 hp with rfl | hp
   ·exact ha
   ·exact hz p (by simp[hp])
  ·rcases ze7.1 hp with rfl | hp
   ·exact ha
   ·exact ih (fun p hp=>hz p (by simp[hp])) p hp
omit hφ in
theorem Ck {zl:List (Int×List Int)}{k x:Int}(hz:∀ p∈zl,K p.1)(hk:K k):∀ p∈fk zl k x,K p.1:=by
 induction zl with
 | nil=>intro p hp; simp[fk] at hp; subst hp; exact hk
 | cons q r ih =>
  obtain ⟨a,z⟩:=q;have ha:=hz (a,z) (by simp);intro p hp;simp only[fk] at hp;split at hp
  ·rcases ze7.1 hp with rfl | hp
   ·exact ha
   ·exact hz p (by simp[hp])
  ·rcases ze7.1 hp with rfl | hp
   ·exact ha
   ·exact ih (fun p hp=>hz p (by simp[hp])) p hp
theorem ry (t:Int):∀ (l:List ae) (zl:List (Int×Int)),(∀ r∈l,K r.cell)→(∀ p∈zl,K p.1) →
  (l.map (AX φ)).foldl (fun zl r=>eH zl r.cell (t * r.sign)) (kB φ zl)=kB φ (l.foldl (fun zl r=>eH zl r.cell (t * r.sign)) zl)∧∀ p∈l.foldl (fun zl r=>eH zl r.cell (t * r.sign)) zl,K p.1
 | [],zl,_,hz=>⟨rfl,hz⟩
 | r::l,zl,hl,hz=>by
  have hr:=hl r (by simp);have:=ry t l (eH zl r.cell (t * r.sign)) (fun q hq=>hl q (by simp[hq])) (Ci hz hr);simp only[zg1,zi5];rw[show (AX φ r).cell=φ r.cell from rfl,show (AX φ r).sign=r.sign from rfl,Ch hφ _ hz hr];exact this
theorem vN (t:Int):∀ (l:List ae) (zl:List (Int×List Int)),(∀ r∈l,K r.cell)→(∀ p∈zl,K p.1) →
  (l.map (AX φ)).foldl (ek t) (kB φ zl)=kB φ (l.foldl (ek t) zl)∧∀ p∈l.foldl (ek t) zl,K p.1
 | [],zl,_,hz=>⟨rfl,hz⟩
 | r::l,zl,hl,hz=>by
  have hr:=hl r (by simp);have:=vN t l (fk zl r.cell t) (fun q hq=>hl q (by simp[hq])) (Ck hz hr);simp only[zg1,zi5];rw[show ek t (kB φ zl) (AX φ r)=kB φ (fk zl r.cell t) from Cj hφ _ hz hr];exact this
theorem vu:∀ (L:List (Int×List ae)) (zl:List (Int×Int)),(∀ k∈yb L,K k)→(∀ p∈zl,K p.1) →
  (vm φ L).foldl (fun zl p=>p.2.foldl (fun zl r=>eH zl r.cell (p.1 * r.sign)) zl) (kB φ zl)=kB φ (L.foldl (fun zl p=>p.2.foldl (fun zl r=>eH zl r.cell (p.1 * r.sign)) zl) zl)
 | [],_,_,_=>rfl
 | p::L,zl,hl,hz=>by
  obtain ⟨h1,h2⟩:=ry hφ p.1 p.2 zl (fun r hr=>hl _ (List.mem_flatMap.2 ⟨p,by simp,ze8.2 ⟨r,hr,rfl⟩⟩)) hz;simp only[vm,zg1,zi5] at h1 ⊢;rw[h1];exact vu L _ (fun k hk=>hl k (by simp only[yb,zh2,ze9]; exact .inr hk)) h2
theorem yS:∀ (L:List (Int×List ae)) (i:Nat) (zl:List (Int×List Int)),(∀ k∈yb L,K k)→(∀ p∈zl,K p.1) →
  ((vm φ L).zipIdx i).foldl (fun ml p=>p.1.2.foldl (ek p.2) ml) (kB φ zl)=kB φ ((L.zipIdx i).foldl (fun ml p=>p.1.2.foldl (ek p.2) ml) zl)
 | [],_,_,_,_=>rfl
 | p::L,i,zl,hl,hz=>by
  obtain ⟨h1,h2⟩:=vN hφ i p.2 zl (fun r hr=>hl _ (List.mem_flatMap.2 ⟨p,by simp,ze8.2 ⟨r,hr,rfl⟩⟩)) hz;simp only[vm,zg1,List.zipIdx_cons,zi5] at h1 ⊢;rw[h1];exact yS L (i+1) _ (fun k hk=>hl k (by simp only[yb,zh2,ze9]; exact .inr hk)) h2
end
theorem zt {α:Type}(φ:Int→Int)(zl:List (Int×α))(q:α→Bool):(kB φ zl).any (fun p=>q p.2)=zl.any (fun p=>q p.2):=by
 simp only[kB,List.any_map];rfl
theorem BR (φ:Int→Int)(ml:List (Int×List Int)):cN (kB φ ml)=cN ml:=by
 simp only[cN,kB,List.foldl_map];rfl
theorem uY {φ:Int→Int}{L:List (Int×List ae)}(hφ:∀ a∈yb L,∀ b∈yb L,φ a=φ b→a=b):lh (vm φ L)=lh L:=by
 have h1:xX (vm φ L)=kB φ (xX L):=vu (K:=fun k=>k∈yb L) (fun a b ha hb=>hφ a ha b hb) L [] (fun _ h=>h) (by simp);have h2:CJ (vm φ L)=kB φ (CJ L):=yS (K:=fun k=>k∈yb L) (fun a b ha hb=>hφ a ha b hb) L 0 [] (fun _ h=>h) (by simp);unfold lh;rw[h1,h2,zt φ _ fun z=>decide (z≠0),zt φ _ fun l:List Int=>decide ((l.length:Int)≠2),BR];have h3:(vm φ L).length=L.length:=by simp[vm]
 rw[h3]
def code (k q:Nat):Int:=if q<k then ((q * 16+k:Nat):Int) else ((k * 16+(q+1):Nat):Int)
def D8 (n:Nat):List (Int×List ae):=(List.range n).reverse.map fun k:Nat=>(cw k,(List.range (n - 1)).reverse.map fun q:Nat=>⟨code k q,cw q⟩)
theorem Dv:∀ n,n<10→2<n→lh (D8 n)=0:=by decide +kernel
theorem gJ (b:Nat)(a:Int)(l:List Int):dT b (a::l)=(if b % 2=1 then [a] else [])++dT (b / 2) l:=by
 unfold dT;have hz:∀ (l:List Int) (i:Nat),((l.zipIdx (i+1)).filter fun p=>b / 2 ^ p.2 % 2 == 1).map (·.1)=((l.zipIdx i).filter fun p=>b / 2 / 2 ^ p.2 % 2 == 1).map (·.1):=by
  intro l;induction l with
  | nil=>intro i; rfl
  | cons x r ih =>
   intro i;have hp:b / 2 ^ (i+1)=b / 2 / 2 ^ i:=by rw[Nat.pow_succ,Nat.mul_comm,Nat.div_div_eq_div_mul]
   simp only[List.zipIdx_cons,zi4,hp];have:=ih (i+1);split
   ·simp only[zg1,this]
   ·exact this
 simp only[List.zipIdx_cons,zi4,Nat.pow_zero,Nat.div_one];by_cases h:b % 2=1
 ·simp only[h,if_true,beq_self_eq_true,zg1];rw[hz l 0];rfl
 ·have h2:(b % 2 == 1)=false:=by simpa using h
  simp only[h,h2,if_false,Bool.false_eq_true];rw[hz l 0];rfl
theorem zW (l:List Int):∀ b,(dT b l).Sublist l:=by
 induction l with
 | nil=>intro b; exact .slnil
 | cons a r ih =>
  intro b;rw[gJ];split
  ·exact (ih _).cons_cons a
  ·exact (ih _).cons a
theorem Bz (l:List Int):∀ b,b≠0→b<2 ^ l.length→dT b l≠[]:=by
 induction l with
 | nil=>intro b h0 h; simp at h; exact absurd h h0
 | cons a r ih =>
  intro b h0 h;rw[gJ];split
  ·simp
  ·rename_i h1;rw[ze5,Nat.pow_succ] at h;simpa using ih (b / 2) oM oM
theorem um {x l:List Int}(h:x.Sublist l):∃ b,b<2 ^ l.length∧dT b l=x:=by
 induction h with
 | slnil=>exact⟨0,by simp,rfl⟩
 | cons a _ ih =>
  obtain ⟨b,hb,e⟩:=ih;refine⟨2 * b,by rw[ze5,Nat.pow_succ]; omega,?_⟩;rw[gJ,zf6 oM,show 2 * b / 2=b by omega,e];rfl
 | cons_cons a _ ih =>
  obtain ⟨b,hb,e⟩:=ih;refine⟨2 * b+1,by rw[ze5,Nat.pow_succ]; omega,?_⟩;rw[gJ,zf7 oM,show (2 * b+1) / 2=b by omega,e];rfl
theorem jh (t x:List Int):x∈br t↔x.Sublist t∧x≠[]:=by
 unfold br;constructor
 ·intro h;obtain ⟨i,hi,rfl⟩:=ze8.1 h;have:=List.mem_range.1 hi;exact⟨zW _ _,Bz _ _ oM oM⟩
 ·rintro ⟨h,hne⟩;obtain ⟨b,hb,rfl⟩:=um h;have h0:b≠0:=fun e=>by
   subst e;apply hne;have:∀ l:List Int,dT 0 l=[]:=by
    intro l;induction l with
    | nil=>rfl
    | cons a r ih=>rw[gJ]; simpa using ih
   exact this t
  exact ze8.2 ⟨b - 1,List.mem_range.2 oM,by rw[show b - 1+1=b by omega]⟩
structure gg (all:List (List Int)):Prop where
 strict:dZ all
 form:∀ s∈all,s≠[]∧dn s∧s.length≤9
 faces:∀ s∈all,2≤s.length→∀ k,k<s.length→s.eraseIdx k∈all
theorem gg.nil:gg []:=⟨List.Pairwise.nil,by simp,by simp⟩
theorem gg.add {all:List (List Int)}{t:List Int}(h:gg all)(ht:dn t)(hl:t.length≤9):gg (dK all t):=by
 refine⟨jJ all t,fun s hs=>?_,fun s hs h2 k hk=>?_⟩
 ·rcases (im all t s).1 hs with h1 | h1
  ·exact h.form s h1
  ·obtain ⟨h2,h3⟩:=(jh t s).1 h1;exact⟨h3,ht.sublist h2,zk4 h2.length_le hl⟩
 ·refine (im all t _).2 ?_
  rcases (im all t s).1 hs with h1 | h1
  ·exact .inl (h.faces s h1 h2 k hk)
  ·refine .inr ((jh t _).2 ⟨(List.eraseIdx_sublist s k).trans ((jh t s).1 h1).1,fun e=>?_⟩);have:=zd8 List.length e;rw[List.length_eraseIdx] at this;simp[hk] at this;omega
theorem fY:∀ (ls acc:List (List Int)) {all:List (List Int)},aU acc ls=some all→gg acc→acc.length≤4000→gg all∧all.length≤4000
 | [],acc,all,h,hg,hl=>by cases h; exact⟨hg,hl⟩
 | s::r,acc,all,h,hg,hl=>by
  unfold aU at h;split at h
  ·exact fY r acc h hg hl
  ·rename_i hb;split at h
   ·cases h
   ·rename_i hlen;refine fY r _ h (hg.add (jT s) ?_) oM;cases hc:cy s with
    | nil=>simp
    | cons a q =>
     rw[hc] at hb;simp[iH] at hb;simp;omega
section
variable {all:List (List Int)}(hg:gg all)
include hg
theorem gg.get_lb {t:List Int}(ht:t∈all):all[lbL all t]?=some t:=by
 obtain ⟨h1,h2⟩:=na t hg.strict.srt;have hs:dZ (all.take (lbL all t)++all.drop (lbL all t)):=by rw[zi8]; exact hg.strict
 have hd:=(List.pairwise_append.1 hs).2.1;have hm:t∈all.drop (lbL all t):=by
  have:t∈all.take (lbL all t)++all.drop (lbL all t):=by rw[zi8]; exact ht
  rcases ze9.1 this with h | h
  ·have:=h1 t h;rw[bP] at this;exact absurd this dC
  ·exact h
 have e:all[lbL all t]?=(all.drop (lbL all t))[0]?:=by simp
 rw[e];cases hc:all.drop (lbL all t) with
 | nil=>rw[hc] at hm; simp at hm
 | cons y r =>
  rw[hc] at hm hd h2
  rcases ze7.1 hm with rfl | hm
  ·rfl
  ·exact absurd ((zj9.1 hd).1 t hm) (h2 y (by simp))
theorem gg.lb_get {k:Nat}(hk:k<all.length):lbL all all[k]=k:=by
 have h1:=hg.get_lb (gM hk);obtain ⟨h2,h3⟩:=zf2.1 h1;have hself:¬ ap all[k] all[k]<0:=by rw[bP]; decide
 rcases Nat.lt_trichotomy (lbL all all[k]) k with h | h | h
 ·have:=zc8.1 hg.strict _ _ h2 hk h;rw[h3] at this;exact absurd this hself
 ·exact h
 ·have:=zc8.1 hg.strict _ _ hk h2 h;rw[h3] at this;exact absurd this hself
end
def ixC (all:List (List Int))(t:List Int):Int:=((lbL all t:Nat):Int)+1
theorem gg.inj {all:List (List Int)}(hg:gg all){t u:List Int}(ht:t∈all)(hu:u∈all)(h:ixC all t=ixC all u):t=u:=by
 have h1:=hg.get_lb ht;have h2:=hg.get_lb hu;have:lbL all t=lbL all u:=by unfold ixC at h; omega
 rw[this,h2] at h1;injection h1 with h1
 exact h1.symm
theorem gg.lt {all:List (List Int)}(hg:gg all){t u:List Int}(ht:t∈all)(hu:u∈all)(h:ap t u<0):ixC all t<ixC all u:=by
 obtain ⟨i1,e1⟩:=zf2.1 (hg.get_lb ht);obtain ⟨i2,e2⟩:=zf2.1 (hg.get_lb hu);unfold ixC
 rcases Nat.lt_trichotomy (lbL all t) (lbL all u) with h1 | h1 | h1
 ·omega
 ·have:t=u:=hg.inj ht hu (by unfold ixC; omega);subst this;rw[bP] at h;exact absurd h dC
 ·have:=zc8.1 hg.strict _ _ i2 i1 h1;rw[e1,e2] at this;exact absurd h (gp this)
def eP (all:List (List Int))(s:List Int):List ae:=if s.length≤1 then [] else (List.range s.length).reverse.map fun k:Nat=>⟨ixC all (s.eraseIdx k),cw k⟩
def gV (all:List (List Int))(s:List Int):Cl:=⟨ixC all s,(s.length:Int) - 1,eP all s⟩
theorem we {s:List Int}(hs:dn s):∀ {i j:Nat},i<j→j<s.length→ap (s.eraseIdx j) (s.eraseIdx i)<0:=by
 induction s with
 | nil=>intro i j _ h; simp at h
 | cons a r ih =>
  intro i j hij hj;obtain ⟨h1,h2⟩:=zj9.1 hs;cases j with
  | zero=>omega
  | succ j =>
   simp only[ze5] at hj;cases i with
   | zero =>
    cases r with
    | nil=>simp at hj
    | cons b q =>
     have hab:=h1 b (by simp);have hl:((a::b::q).eraseIdx (j+1)).length=((a::b::q).eraseIdx 0).length:=by
      simp[List.length_eraseIdx] at hj ⊢;omega
     rw[ft hl];simp only[List.eraseIdx_cons_succ,List.eraseIdx_cons_zero,fJ];have:fN a b = -1:=by unfold fN; rw[zf7 hab]
     simp[this]
   | succ i =>
    have h3:=ih h2 (i:=i) (j:=j) oM oM;have hl:(r.eraseIdx j).length=(r.eraseIdx i).length:=by
     rw[List.length_eraseIdx,List.length_eraseIdx,zf7 oM,zf7 oM]
    have hl2:((a::r).eraseIdx (j+1)).length=((a::r).eraseIdx (i+1)).length:=by simp[hl]
    rw[ft hl] at h3;rw[ft hl2];simp only[List.eraseIdx_cons_succ,fJ];have:fN a a=0:=by unfold fN; rw[zf6 oM,zf6 oM]
    simpa [this] using h3
theorem mD {A:List Cl}(h:(A.map Cl.id).Nodup){x:Cl}(hx:x∈A):ab A x.id=some x:=by
 induction A with
 | nil=>simp at hx
 | cons c t ih =>
  simp only[zg1,zj8] at h;unfold ab
  rcases ze7.1 hx with rfl | hx
  ·simp
  ·have hne:¬ c.id=x.id:=fun e=>h.1 (by rw[e]; exact ze8.2 ⟨x,hx,I⟩);rw[zi3];simp only[hne,decide_false];exact ih h.2 hx
theorem xa (c:Cl):bo (bo c)=bo c:=by
 unfold bo;rw[← a6 (bQ c.sides) (aw.refl _)]
theorem il (l:List Cl):aa (aa l)=aa l:=by
 have h1:sortBy Cl.id (aa l)=aa l:=(a6 (gK l) (aw.refl _)).symm;show (sortBy Cl.id (aa l)).map bo=aa l;rw[h1];unfold aa;rw[zi2];exact zc7 fun c _=>xa c
theorem Bn {α:Type}{key:α→Int}{l:List α}(h:l.Pairwise fun a b=>key b<key a):sortBy key l=l.reverse:=by
 refine (a6 ?_ ⟨by simp,fun c=>?_⟩).symm
 ·unfold Srt;rw[List.pairwise_reverse];exact h.imp fun h=>by omega
 ·rw[List.filter_reverse];have:∀ m:List α,m.Pairwise (fun a b=>key b<key a)→(∀ a∈m,(key a == c)=true)→m.reverse=m:=by
   intro m hm hc
   match m,hm,hc with
   | [],_,_=>rfl
   | [_],_,_=>rfl
   | a::b::r,hm,hc =>
    have h1:=(zj9.1 hm).1 b (by simp);have h2:=hc a (by simp);have h3:=hc b (by simp);simp at h2 h3;omega
  exact this _ (h.sublist List.filter_sublist) fun a ha=>(zh1.1 ha).2
section
variable {all:List (List Int)}(hg:gg all)
include hg
theorem gg.face {s:List Int}(hs:s∈all){k:Nat}(hk:k<s.length)(h2:2≤s.length):s.eraseIdx k∈all∧(s.eraseIdx k).length=s.length - 1 :=
 ⟨hg.faces s hs h2 k hk,by rw[List.length_eraseIdx,zf7 hk]⟩
theorem gg.sides {s:List Int}(hs:s∈all):sortBy ae.cell (aO all s s.length)=eP all s:=by
 have hne:=(hg.form s hs).1;have hst:=(hg.form s hs).2.1;by_cases h1:s.length≤1
 ·have h0:s.length=1:=by have:=List.length_pos_iff.2 hne; omega
  unfold eP;rw[zf7 h1,h0];have:eO all s 0=[]:=by
   unfold eO;have h3:(s.eraseIdx 0).length=0:=by rw[List.length_eraseIdx,zf7 oM]; omega
   rw[zf6 oM]
  simp[aO,List.range_succ,this,sortBy]
 ·have h2:2≤s.length:=oM;have e:aO all s s.length=(List.range s.length).map fun k:Nat=>(⟨ixC all (s.eraseIdx k),cw k⟩:ae):=by
   unfold aO;rw[List.flatMap_def];have:(List.range s.length).map (eO all s)=(List.range s.length).map fun k:Nat=>[(⟨ixC all (s.eraseIdx k),cw k⟩:ae)]:=zc7 fun k hk=>by
    have hk:=List.mem_range.1 hk;unfold eO;rw[(hg.face hs hk h2).2,zf7 oM];rfl
   rw[this];generalize List.range s.length=R;induction R with
   | nil=>rfl
   | cons x r ih=>simp only[zg1,List.flatten_cons,ih]; rfl
  unfold eP;rw[zf6 h1,e,List.map_reverse];refine Bn ?_;rw[zk1];refine List.Pairwise.imp_of_mem ?_ (List.pairwise_lt_range (n:=s.length));intro i j hi hj hij;have hi:=List.mem_range.1 hi;have hj:=List.mem_range.1 hj;exact hg.lt (hg.face hs hj h2).1 (hg.face hs hi h2).1 (we hst hij hj)
theorem gg.cells:aa (aY all)=all.map (gV all):=by
 rw[pz];apply List.ext_getElem?;intro k;simp only[zh6];by_cases hk:k<all.length
 ·rw[ir hk,List.getElem?_eq_getElem hk];simp only[Option.map_some,zg4];unfold bo mu gV;simp only[hg.sides (gM hk),ixC,hg.lb_get hk]
 ·rw[List.getElem?_eq_none (by rw[bn]; omega),List.getElem?_eq_none oM];rfl
theorem gg.ids:((all.map (gV all)).map Cl.id).Pairwise (· < ·):=by
 rw[zi2,zk1];refine List.Pairwise.imp_of_mem ?_ hg.strict;intro a b ha hb h;exact hg.lt ha hb h
theorem gg.find {s:List Int}(hs:s∈all):ab (all.map (gV all)) (ixC all s)=some (gV all s) :=
 mD (x:=gV all s) (hg.ids.imp fun h=>by omega) (ze8.2 ⟨s,hs,rfl⟩)
end
theorem zN (k:Nat):cw k=1∨cw k = -1:=by unfold cw; omega
theorem pn {all:List (List Int)}{s:List Int}(h:2≤s.length){i:Nat}(hi:i<s.length):(eP all s)[i]?=some ⟨ixC all (s.eraseIdx (s.length - 1 - i)),cw ((s.length - 1 - i:Nat):Int)⟩:=by
 unfold eP;rw[zf6 oM,zh6,List.getElem?_reverse (by simpa using hi)];simp only[zi1];rw[List.getElem?_range oM];rfl
theorem qU {all:List (List Int)}{s:List Int}:(eP all s).length=if s.length≤1 then 0 else s.length:=by
 unfold eP;split <;> simp
section
variable {all:List (List Int)}(hg:gg all)
include hg
theorem gg.formOk {s:List Int}(hs:s∈all):bV (all.map (gV all)) (gV all s)=0:=by
 obtain ⟨hne,hst,h9⟩:=hg.form s hs;have hp:=List.length_pos_iff.2 hne;have hlen:(gV all s).sides.length=if s.length≤1 then 0 else s.length:=qU
 have hdim:(gV all s).dim=(s.length:Int) - 1:=rfl;have h1:eR (gV all s)=false:=by unfold eR; rw[hdim]; simp; omega
 have h2:aR (gV all s)=false:=by
  unfold aR;rw[hdim,hlen];split
  ·simp; omega
  ·simp; omega
 have h3:(List.range (gV all s).sides.length).any (ia (all.map (gV all)) (gV all s))=false:=by
  rw[zk2];intro i hi;have hi:=List.mem_range.1 hi;rw[hlen] at hi;split at hi
  ·omega
  ·rename_i hl;have h2:2≤s.length:=oM;have hgi:=pn (all:=all) h2 hi;have hf:=hg.face hs (k:=s.length - 1 - i) oM h2;unfold ia;rw[show (gV all s).sides[i]?=_ from hgi];show ¬ bL _ _ i ⟨ixC all (s.eraseIdx (s.length - 1 - i)),_⟩=true;unfold bL;dsimp only;rw[hg.find hf.1];have hd:(gV all (s.eraseIdx (s.length - 1 - i))).dim=(gV all s).dim - 1:=by
    show ((s.eraseIdx (s.length - 1 - i)).length:Int) - 1=(s.length:Int) - 1 - 1;rw[hf.2];omega
   simp only[Option.isSome_some,Bool.not_true,Bool.false_or,Option.getD_some,hd,ne_eq,not_true_eq_false,decide_false];by_cases hi0:i>0
   ·have hgp:=pn (all:=all) h2 (i:=i - 1) oM;rw[show (gV all s).sides[i - 1]?=_ from hgp];have hf2:=hg.face hs (k:=s.length - 1 - (i - 1)) oM h2;have:=hg.lt hf2.1 hf.1 (we hst oM oM);simp;omega
   ·simp[hi0]
 have h4:(gV all s).sides.any bB=false:=by
  rw[zk2];intro x hx;show ¬ bB x=true;have hx:x∈eP all s:=hx;unfold eP at hx;split at hx
  ·simp at hx
  ·obtain ⟨k,_,rfl⟩:=ze8.1 hx
   rcases zN k with h | h <;> simp[bB,h]
 have h5:(decide ((gV all s).dim=1)&&decide (mg (gV all s).sides≠0))=false:=by
  by_cases hd:(gV all s).dim=1
  ·rw[hdim] at hd;have hl2:s.length=2:=oM;have:mg (gV all s).sides=0:=by
    show mg (eP all s)=0;unfold eP;rw[zf6 oM,hl2];simp[List.range_succ,mg,cw]
   rw[this];simp
  ·simp[hd]
 unfold bV;rw[h1,h2,h3,h4,h5];rfl
end
theorem xB (s:List Int):∀ {k q:Nat},k≤q→(s.eraseIdx k).eraseIdx q=(s.eraseIdx (q+1)).eraseIdx k:=by
 induction s with
 | nil=>intro k q _; rfl
 | cons a r ih =>
  intro k q h;cases k with
  | zero=>simp
  | succ k =>
   cases q with
   | zero=>omega
   | succ q =>
    simp only[List.eraseIdx_cons_succ];rw[ih oM]
theorem o0 {s:List Int}(hs:s.Nodup){a b i:Nat}(hab:a<b)(hb:b<s.length)(hi:i<s.length):s[i]∈(s.eraseIdx b).eraseIdx a↔i≠a∧i≠b:=by
 have hinj:∀ {j k:Nat} (hj:j<s.length) (hk:k<s.length),s[j]=s[k]→j=k:=fun {j k} hj hk e=>by
  rcases Nat.lt_trichotomy j k with h | h | h
  ·exact absurd e (zc8.1 hs j k hj hk h)
  ·exact h
  ·exact absurd e.symm (zc8.1 hs k j hk hj h)
 rw[List.mem_eraseIdx_iff_getElem];constructor
 ·rintro ⟨j,hj1,hj2,e⟩;have hj1':=hj1;rw[List.length_eraseIdx,zf7 hb] at hj1';rw[List.getElem_eraseIdx] at e;split at e
  ·have:=hinj _ _ e;omega
  ·have:=hinj _ _ e;omega
 ·rintro ⟨h1,h2⟩
  rcases Nat.lt_or_ge i b with h | h
  ·refine⟨i,by rw[List.length_eraseIdx,zf7 hb]; omega,h1,?_⟩;rw[List.getElem_eraseIdx,dif_pos h]
  ·refine⟨i - 1,by rw[List.length_eraseIdx,zf7 hb]; omega,oM,?_⟩;rw[List.getElem_eraseIdx,dif_neg oM];congr 1;omega
theorem xC {s:List Int}(hs:s.Nodup){a b c d:Nat}(hab:a<b)(hb:b<s.length)(hcd:c<d)(hd:d<s.length)(h:(s.eraseIdx b).eraseIdx a=(s.eraseIdx d).eraseIdx c):a=c∧b=d:=by
 have key:∀ i,i<s.length→((i≠a∧i≠b)↔(i≠c∧i≠d)):=fun i hi=>by
  rw[← o0 hs hab hb hi,← o0 hs hcd hd hi,h]
 have ha:=key a oM;have hb':=key b hb;have hc:=key c oM;have hd':=key d hd;omega
def EL (all:List (List Int))(s:List Int)(c:Int):Int:=ixC all ((s.eraseIdx (c % 16).toNat).eraseIdx (c / 16).toNat)
theorem zf {n k q:Nat}(hk:k<n)(hq:q<n - 1):∃ a b:Nat,a<b∧b<n∧code k q=((a * 16+b:Nat):Int)∧((q<k∧a=q∧b=k)∨(k≤q∧a=k∧b=q+1)):=by
 unfold code;by_cases h:q<k
 ·rw[zf7 h]; exact⟨q,k,h,hk,I,.inl ⟨h,I,I⟩⟩
 ·rw[zf6 h]; exact⟨k,q+1,oM,oM,I,.inr ⟨oM,I,I⟩⟩
theorem jb {a b:Nat}(h:b<16):((((a * 16+b:Nat):Int) % 16).toNat=b)∧((((a * 16+b:Nat):Int) / 16).toNat=a):=oM
section
variable {all:List (List Int)}(hg:gg all)
include hg
theorem gg.aroundOk {s:List Int}(hs:s∈all)(h3:2<s.length):aX (all.map (gV all)) (gV all s)=0:=by
 obtain ⟨hne,hst,h9⟩:=hg.form s hs;have hnd:s.Nodup:=hst.imp fun h=>by omega
 have hE:∀ a b,a<b→b<s.length→(s.eraseIdx b).eraseIdx a∈all:=fun a b hab hb=>by
  have h1:=hg.face hs (k:=b) hb oM;exact (hg.face h1.1 (k:=a) (by rw[h1.2]; omega) (by rw[h1.2]; omega)).1
 have hlook:jz (all.map (gV all)) (gV all s)=vm (EL all s) (D8 s.length):=by
  unfold jz vm D8;show (eP all s).map _=_;unfold eP;rw[zf6 oM,zi2,zi2];refine zc7 fun k hk=>?_;have hk:k<s.length:=by simpa using hk
  have hf:=hg.face hs hk oM;simp only[Function.comp_def];congr 1;unfold aq;rw[hg.find hf.1];show eP all (s.eraseIdx k)=_;unfold eP;rw[hf.2,zf6 oM,zi2];refine zc7 fun q hq=>?_;have hq:q<s.length - 1:=by simpa using hq
  obtain ⟨a,b,hab,hb,hc,hcase⟩:=zf hk hq;simp only[Function.comp_def,AX];congr 1;unfold EL;rw[hc,(jb (a:=a) (b:=b) oM).1,(jb (a:=a) (b:=b) oM).2]
  rcases hcase with ⟨_,rfl,rfl⟩ | ⟨h,rfl,rfl⟩
  ·rfl
  ·rw[xB s h]
 rw[fz,hlook,uY,Dv _ oM h3];have hkey:∀ x∈yb (D8 s.length),∃ a b:Nat,a<b∧b<s.length∧x=((a * 16+b:Nat):Int):=by
  intro x hx;obtain ⟨p,hp,hx⟩:=List.mem_flatMap.1 hx;obtain ⟨k,hk,rfl⟩:=ze8.1 hp;obtain ⟨r,hr,rfl⟩:=ze8.1 hx;obtain ⟨q,hq,rfl⟩:=ze8.1 hr;obtain ⟨a,b,hab,hb,hc,_⟩:=zf (n:=s.length) (k:=k) (q:=q) (by simpa using hk) (by simpa using hq);exact⟨a,b,hab,hb,hc⟩
 intro x hx y hy h;obtain ⟨a,b,hab,hb,rfl⟩:=hkey x hx;obtain ⟨c,d,hcd,hd,rfl⟩:=hkey y hy;unfold EL at h;rw[(jb (a:=a) (b:=b) oM).1,(jb (a:=a) (b:=b) oM).2,(jb (a:=c) (b:=d) oM).1,(jb (a:=c) (b:=d) oM).2] at h;obtain ⟨rfl,rfl⟩:=xC hnd hab hb hcd hd (hg.inj (hE a b hab hb) (hE c d hcd hd) h);rfl
end
theorem sk {tl:List Cl}:∀ {l:List Cl} {n:Int},(∀ x∈l,n<x.id)→l.Pairwise (fun a b=>a.id<b.id)→(∀ x∈l,bV tl x=0)→ge tl l n=none
 | [],_,_,_,_=>rfl
 | x::r,n,h1,h2,h3=>by
  have hx:=h1 x (by simp);obtain ⟨h4,h5⟩:=zj9.1 h2;unfold ge;rw[zf6 oM,zf6 (by rw[h3 x (by simp)]; simp)];exact sk h4 h5 fun y hy=>h3 y (by simp[hy])
theorem sj {tl:List Cl}:∀ {l:List Cl},(∀ x∈l,x.dim>1→aX tl x=0)→mH tl l=none
 | [],_=>rfl
 | x::r,h=>by
  unfold mH;rw[zf6 fun ⟨h1,h2⟩=>h2 (h x (by simp) h1)];exact sj fun y hy=>h y (by simp[hy])
theorem wh {l:List Cl}(h0:l.length≤4000)(h1:∀ x∈aa l,0<x.id)(h2:(aa l).Pairwise fun a b=>a.id<b.id)(h3:∀ x∈aa l,bV (aa l) x=0)(h4:∀ x∈aa l,x.dim>1→aX (aa l) x=0):ar l=(0,0):=by
 unfold ar;rw[zf6 oM,bD h2,sk h1 h2 h3,sj h4];rfl
theorem t8 (ls:List (List Int)):ar (ct ls)=(0,0):=by
 unfold ct;cases h:aU [] ls with
 | none=>rfl
 | some all =>
  obtain ⟨hg,hl⟩:=fY ls [] h gg.nil (by simp);dsimp only;have hc:aa (aa (aY all))=all.map (gV all):=by rw[il,hg.cells]
  have hi:=hg.ids;rw[zk1] at hi;refine wh (by rw[hg.cells]; simpa using hl) ?_ ?_ ?_ ?_ <;> rw[hc]
  ·intro x hx;obtain ⟨s,_,rfl⟩:=ze8.1 hx;show 0<ixC all s;unfold ixC;omega
  ·exact hi
  ·intro x hx;obtain ⟨s,hs,rfl⟩:=ze8.1 hx;exact hg.formOk hs
  ·intro x hx hd;obtain ⟨s,hs,rfl⟩:=ze8.1 hx;refine hg.aroundOk hs ?_;have:(s.length:Int) - 1>1:=hd;omega
open Go.ChangeShapes Go.WideShapes Go.ChangeAt Go.RowKit
set_option maxRecDepth 100000
section
variable {H:Type}{enc:TypeId×Value→H}{W:World}{base:Nat}{spare:Nat→Bool}{hd:Bool}
end
inductive Cn (E:Int→Int→Prop):Int→Int→Prop
 | refl (a:Int):Cn E a a
 | step {a b c:Int} (h:E a b∨E b a) (r:Cn E b c):Cn E a c
theorem Cn.trans {E:Int→Int→Prop}{a b c:Int}(h:Cn E a b)(k:Cn E b c):Cn E a c:=by
 induction h with
 | refl _=>exact k
 | step h _ ih=>exact .step h (ih k)
theorem Cn.one {E:Int→Int→Prop}{a b:Int}(h:E a b):Cn E a b:=.step (.inl h) (.refl b)
theorem Cn.symm {E:Int→Int→Prop}{a b:Int}(h:Cn E a b):Cn E b a:=by
 induction h with
 | refl _=>exact .refl _
 | step h _ ih=>exact ih.trans (.step h.symm (.refl _))
theorem Cn.mono {E E':Int→Int→Prop}(h:∀ a b,E a b→Cn E' a b){a b:Int}(hc:Cn E a b):Cn E' a b:=by
 induction hc with
 | refl _=>exact .refl _
 | step e _ ih =>
  rcases e with e | e
  ·exact (h _ _ e).trans ih
  ·exact (h _ _ e).symm.trans ih
theorem Cn.iso {E:Int→Int→Prop}{a b:Int}(h:∀ b,¬ E a b∧¬ E b a)(hc:Cn E a b):a=b:=by
 cases hc with
 | refl _=>rfl
 | step e _ =>
  rcases e with e | e
  ·exact absurd e (h _).1
  ·exact absurd e (h _).2
theorem Cn.add {E E':Int→Int→Prop}{x y:Int}(h:∀ a b,E' a b↔E a b∨(a=x∧b=y))(a b:Int):Cn E' a b↔Cn E a b∨(Cn E a x∧Cn E y b)∨(Cn E a y∧Cn E x b):=by
 have hxy:Cn E' x y:=.one ((h x y).2 (.inr ⟨rfl,rfl⟩));have hm:∀ {a b:Int},Cn E a b→Cn E' a b:=fun hc=>hc.mono fun a b e=>.one ((h a b).2 (.inl e));constructor
 ·intro hc;induction hc with
  | refl _=>exact .inl (.refl _)
  | step e _ ih =>
   have key:∀ {p q r:Int},Cn E p q→(Cn E q r∨(Cn E q x∧Cn E y r)∨(Cn E q y∧Cn E x r))→Cn E p r∨(Cn E p x∧Cn E y r)∨(Cn E p y∧Cn E x r):=by
    rintro p q r h1 (h2 | ⟨h2,h3⟩ | ⟨h2,h3⟩)
    ·exact .inl (h1.trans h2)
    ·exact .inr (.inl ⟨h1.trans h2,h3⟩)
    ·exact .inr (.inr ⟨h1.trans h2,h3⟩)
   rcases e with e | e
   ·rcases (h _ _).1 e with e | ⟨rfl,rfl⟩
    ·exact key (.one e) ih
    ·rcases ih with h2 | ⟨_,h3⟩ | ⟨_,h3⟩
     ·exact .inr (.inl ⟨.refl _,h2⟩)
     ·exact .inr (.inl ⟨.refl _,h3⟩)
     ·exact .inl h3
   ·rcases (h _ _).1 e with e | ⟨rfl,rfl⟩
    ·exact key (Cn.one e).symm ih
    ·rcases ih with h2 | ⟨_,h3⟩ | ⟨_,h3⟩
     ·exact .inr (.inr ⟨.refl _,h2⟩)
     ·exact .inl h3
     ·exact .inr (.inr ⟨.refl _,h3⟩)
 ·rintro (h1 | ⟨h1,h2⟩ | ⟨h1,h2⟩)
  ·exact hm h1
  ·exact (hm h1).trans (hxy.trans (hm h2))
  ·exact (hm h1).trans (hxy.symm.trans (hm h2))
def dJ (ml:List (Int×List Int))(a b:Int):Prop:=∃ p∈ml,p.2.head?=some a∧b∈p.2
def RZ (e:En)(z:Int×Int):Prop:=e.id=z.1∧e.sum=z.2
def RM (e:En)(p:Int×List Int):Prop:=e.id=p.1∧e.many=p.2.length∧p.2.head?=some (e.fst:Int)
theorem qF {x:Int}(h : -9223372036854775808≤x∧x<9223372036854775808):wr x=x:=zk6 _ oM
theorem CD {i:Nat}{c p:Int}:∀ {es:List En} {zl:List (Int×Int)},az RZ es zl→(∀ e∈es,wr (e.sum+p)=e.sum+p)→wr (0+p)=p→az RZ (j9 i c p es) (eH zl c p)
 | [],[],_,_,hp=>⟨⟨rfl,hp⟩,trivial⟩
 | e::es,(a,z)::zl,h,hb,hp=>by
  obtain ⟨⟨h1,h2⟩,h3⟩:=h;have h1:e.id=a:=h1;have h2:e.sum=z:=h2;simp only[j9,eH];by_cases hc:e.id=c
  ·rw[zf7 hc,zf7 (by rw[← h1,hc])];exact⟨⟨h1,by show wr (e.sum+p)=z+p; rw[hb e (by simp),h2]⟩,h3⟩
  ·rw[zf6 hc,zf6 (by rw[← h1]; exact fun e=>hc e.symm)];exact⟨⟨h1,h2⟩,CD h3 (fun x hx=>hb x (by simp[hx])) hp⟩
 | [],_::_,h,_,_=>h.elim
 | _::_,[],h,_,_=>h.elim
theorem CE {i:Nat}{c p:Int}:∀ {es:List En} {ml:List (Int×List Int)},az RM es ml→(∀ e∈es,wr (e.many+1)=e.many+1)→az RM (j9 i c p es) (fk ml c i) ∧
  ∀ a b,dJ (fk ml c i) a b↔dJ ml a b∨(a=i4 i c es∧b=i)
 | [],[],_,_=>by
  refine⟨⟨⟨rfl,by rfl,rfl⟩,trivial⟩,fun a b=>?_⟩;constructor
  ·rintro ⟨q,hq,h1,h2⟩;simp[fk] at hq;subst hq;simp at h1 h2;exact .inr ⟨h1.symm,h2⟩
  ·rintro (⟨q,hq,_⟩ | ⟨rfl,rfl⟩)
   ·simp at hq
   ·exact⟨(c,[(i:Int)]),by simp[fk],I,by simp⟩
 | e::es,(k,l)::ml,h,hb=>by
  obtain ⟨⟨h1,h2,h4⟩,h3⟩:=h;have h1:e.id=k:=h1;have h2:e.many=l.length:=h2;have h4:l.head?=some (e.fst:Int):=h4;simp only[j9,fk,i4];by_cases hc:e.id=c
  ·rw[zf7 hc,zf7 (by rw[← h1,hc]),zf7 hc];have hh:(l++[(i:Int)]).head?=some (e.fst:Int):=by
    cases l with
    | nil=>simp at h4
    | cons x r=>simpa using h4
   refine⟨⟨⟨h1,by show wr (e.many+1)=_; rw[hb e (by simp),h2]; simp,hh⟩,h3⟩,fun a b=>?_⟩;constructor
   ·rintro ⟨q,hq,h5,h6⟩
    rcases ze7.1 hq with rfl | hq
    ·dsimp only at h5 h6;rw[hh] at h5
     rcases ze9.1 h6 with h6 | h6
     ·exact .inl ⟨(k,l),by simp,by rw[h4,h5],h6⟩
     ·simp at h6;injection h5 with h5
      exact .inr ⟨h5.symm,h6⟩
    ·exact .inl ⟨q,by simp[hq],h5,h6⟩
   ·rintro (⟨q,hq,h5,h6⟩ | ⟨rfl,rfl⟩)
    ·rcases ze7.1 hq with rfl | hq
     ·exact⟨(k,l++[(i:Int)]),by simp,by rw[hh,← h4,h5],by simp[h6]⟩
     ·exact⟨q,by simp[hq],h5,h6⟩
    ·exact⟨(k,l++[(i:Int)]),by simp,hh,by simp⟩
  ·rw[zf6 hc,zf6 (by rw[← h1]; exact fun e=>hc e.symm),zf6 hc];obtain ⟨i1,i2⟩:=CE (i:=i) (c:=c) (p:=p) h3 fun x hx=>hb x (by simp[hx]);refine⟨⟨⟨h1,h2,h4⟩,i1⟩,fun a b=>?_⟩;have e1:∀ L,dJ ((k,l)::L) a b↔(l.head?=some a∧b∈l)∨dJ L a b:=fun L=>by
    unfold dJ;simp
   rw[e1,e1,i2,or_assoc]
 | [],_::_,h,_=>h.elim
 | _::_,[],h,_=>h.elim
structure Sd (n t k:Nat)(es:List En)(part:List Int)(zl:List (Int×Int))(ml:List (Int×List Int)):Prop where
 z:az RZ es zl
 m:az RM es ml
 bz:∀ e∈es,-(t:Int)≤e.sum∧e.sum≤t∧0≤e.many∧e.many≤t
 bf:∀ e∈es,e.fst<k
 bm:∀ p∈ml,∀ x∈p.2,0≤x∧x<k
 len:part.length=n
 bp:∀ a,a<k→0≤part.getD a 0∧part.getD a 0<k
 cn:∀ a b:Nat,a<k→b<k→(part.getD a 0=part.getD b 0↔Cn (dJ ml) a b)
theorem gt {ml:List (Int×List Int)}{k:Nat}(h:∀ p∈ml,∀ x∈p.2,0≤x∧x<(k:Int)){a b:Int}(hl:dJ ml a b):(0≤a∧a<k)∧(0≤b∧b<k):=by
 obtain ⟨p,hp,h1,h2⟩:=hl;exact⟨h p hp a (List.mem_of_head? h1),h p hp b h2⟩
theorem Sd.open {n t k:Nat}{es:List En}{part:List Int}{zl:List (Int×Int)}{ml:List (Int×List Int)}(h:Sd n t k es part zl ml)(hk:k<n):Sd n t (k+1) es (part.set k k) zl ml:=by
 have hl:=h.len;have g1:(part.set k (k:Int)).getD k 0=k:=by rw[zg7,List.getElem?_set]; simp[hl,hk]
 have g2:∀ a,a≠k→(part.set k (k:Int)).getD a 0=part.getD a 0:=fun a ha=>by
  rw[zg7,zg7,List.getElem?_set,zf6 fun e=>ha e.symm]
 have iso:∀ b,¬ dJ ml k b∧¬ dJ ml b k:=fun b=>⟨fun e=>by have:=gt h.bm e; omega,fun e=>by have:=gt h.bm e; omega⟩;refine⟨h.z,h.m,h.bz,fun e he=>by have:=h.bf e he; omega,fun p hp x hx=>by have:=h.bm p hp x hx; omega,by simp[hl],fun a ha=>?_,fun a b ha hb=>?_⟩
 ·by_cases e:a=k
  ·subst e; rw[g1]; omega
  ·rw[g2 a e]; have:=h.bp a oM; omega
 ·by_cases e:a=k <;> by_cases e2:b=k
  ·subst e; subst e2; exact⟨fun _=>.refl _,fun _=>I⟩
  ·subst e;rw[g1,g2 b e2];have:=h.bp b oM;exact⟨fun h=>by omega,fun hc=>by have:=hc.iso iso; omega⟩
  ·subst e2;rw[g1,g2 a e];have:=h.bp a oM;exact⟨fun h=>by omega,fun hc=>by have:=hc.symm.iso iso; omega⟩
  ·rw[g2 a e,g2 b e2];exact h.cn a b oM oM
theorem jW {m:Nat}{old now:Int}{p:List Int}{a:Nat}(h:a<p.length)(hm:a<m):(dG m old now p).getD a 0=if p.getD a 0=now then old else p.getD a 0:=by
 rw[zg7,zg7];simp only[dG,List.getElem?_mapIdx,List.getElem?_eq_getElem h,Option.map_some,Option.getD_some,hm,true_and]
theorem BX {i:Nat}{c:Int}{es:List En}(h:∀ e∈es,e.fst<i+1):i4 i c es<i+1:=by
 induction es with
 | nil=>exact Nat.lt_succ_self i
 | cons e r ih =>
  unfold i4;split
  ·exact h e (by simp)
  ·exact ih fun x hx=>h x (by simp[hx])
theorem wl {P:En→Prop}{i:Nat}{c p:Int}(hn:P (En.up ⟨c,0,0,i⟩ p))(hu:∀ e,P e→P (e.up p))(ho:∀ e,P e→P e):∀ {es:List En},(∀ e∈es,P e)→∀ e∈j9 i c p es,P e
 | [],_,e,he=>by simp[j9] at he; subst he; exact hn
 | x::r,h,e,he=>by
  unfold j9 at he;split at he
  ·rcases ze7.1 he with rfl | he
   ·exact hu x (h x (by simp))
   ·exact h e (by simp[he])
  ·rcases ze7.1 he with rfl | he
   ·exact h e (by simp)
   ·exact wl hn hu ho (fun y hy=>h y (by simp[hy])) e he
theorem ww {P:Int→Prop}{c:Int}{i:Int}(hi:P i):∀ {ml:List (Int×List Int)},(∀ p∈ml,∀ x∈p.2,P x)→∀ p∈fk ml c i,∀ x∈p.2,P x
 | [],_,p,hp,x,hx=>by simp[fk] at hp; subst hp; simp at hx; subst hx; exact hi
 | (k,l)::r,h,p,hp,x,hx=>by
  unfold fk at hp;split at hp
  ·rcases ze7.1 hp with rfl | hp
   ·rcases ze9.1 hx with hx | hx
    ·exact h (k,l) (by simp) x hx
    ·simp at hx; subst hx; exact hi
   ·exact h p (by simp[hp]) x hx
  ·rcases ze7.1 hp with rfl | hp
   ·exact h (k,l) (by simp) x hx
   ·exact ww hi (fun q hq=>h q (by simp[hq])) p hp x hx
theorem Sd.next {n t i:Nat}{es:List En}{part:List Int}{zl:List (Int×Int)}{ml:List (Int×List Int)}{x r:ae}(h:Sd n t (i+1) es part zl ml)(hi:i<n)(ht:t<1000000)(hx:x.sign=1∨x.sign = -1)(hr:r.sign=1∨r.sign = -1) :
  Sd n (t+1) (i+1) (la i x.sign (es,part) r).1 (la i x.sign (es,part) r).2 (iX x zl r) (ek i ml r):=by
 have hp:=qh hx hr;have hw:wr (x.sign * r.sign)=x.sign * r.sign:=qF oM;unfold la iX ek;dsimp only;rw[hw];generalize x.sign * r.sign=p at *;have hl:=h.len;have hbm:=CE (i:=i) (c:=r.cell) (p:=p) h.m fun e he=>by have:=h.bz e he; exact qF oM
 have hf:=BX (c:=r.cell) h.bf;refine⟨CD h.z (fun e he=>by have:=h.bz e he; exact qF oM) (by rw[Int.zero_add]; exact qF oM),hbm.1,?_,?_,?_,by rw[kX]; exact hl,fun a ha=>?_,fun a b ha hb=>?_⟩
 ·have:∀ e∈j9 i r.cell p es,(-(t:Int)≤e.sum∧e.sum≤t∧0≤e.many∧e.many≤t)∨(-((t+1:Nat):Int)≤e.sum∧e.sum≤((t+1:Nat):Int)∧0≤e.many∧e.many≤((t+1:Nat):Int)):=by
   have h0:=h.bz;clear h hbm hf hl;generalize hes:j9 i r.cell p es=fs;intro e he;subst hes;induction es with
   | nil =>
    simp[j9] at he;subst he;right;simp only[En.up];rw[qF oM,qF oM];omega
   | cons y q ih =>
    unfold j9 at he;split at he
    ·rcases ze7.1 he with rfl | he
     ·right;have:=h0 y (by simp);simp only[En.up];rw[qF oM,qF oM];omega
     ·exact .inl (h0 e (by simp[he]))
    ·rcases ze7.1 he with rfl | he
     ·exact .inl (h0 e (by simp))
     ·exact ih (fun z hz=>h0 z (by simp[hz])) he
  intro e he
  rcases this e he with h1 | h1 <;> omega
 ·exact wl (P:=fun e=>e.fst<i+1) (Nat.lt_succ_self i) (fun e he=>he) (fun e he=>he) h.bf
 ·exact ww (P:=fun x=>0≤x∧x<((i+1:Nat):Int)) oM h.bm
 ·rw[jW oM ha];split
  ·exact h.bp _ hf
  ·exact h.bp a ha
 ·rw[jW oM ha,jW oM hb,Cn.add (x:=(i4 i r.cell es:Int)) (y:=(i:Int)) hbm.2 a b];rw[← h.cn a b ha hb,← h.cn a _ ha hf,← h.cn i b oM hb,← h.cn a i ha oM,← h.cn _ b hf hb];generalize part.getD a 0=pa;generalize part.getD b 0=pb;generalize part.getD i 0=pi;generalize part.getD (i4 i r.cell es) 0=pf;by_cases h1:pa=pi <;> by_cases h2:pb=pi <;> simp[h1,h2] <;> omega
theorem Sd.inner {n i:Nat}{x:ae}(hi:i<n)(hx:x.sign=1∨x.sign = -1):∀ (l:List ae) {t:Nat} {es:List En} {part:List Int} {zl:List (Int×Int)} {ml:List (Int×List Int)},Sd n t (i+1) es part zl ml→t+l.length<1000000→(∀ r∈l,r.sign=1∨r.sign = -1) →
  Sd n (t+l.length) (i+1) (l.foldl (la i x.sign) (es,part)).1 (l.foldl (la i x.sign) (es,part)).2 (l.foldl (iX x) zl) (l.foldl (ek i) ml)
 | [],_,_,_,_,_,h,_,_=>h
 | r::l,t,es,part,zl,ml,h,ht,hr=>by
  simp only[ze5] at ht;have h1:=h.next (x:=x) (r:=r) hi oM hx (hr r (by simp));have:=Sd.inner hi hx l h1 oM (fun q hq=>hr q (by simp[hq]));simp only[zi5,ze5];rw[show t+(l.length+1)=t+1+l.length by omega];exact this
theorem Sd.outer {tl:List Cl}{n:Nat}:∀ (l:List ae) {t k:Nat} {es:List En} {part:List Int} {zl:List (Int×Int)} {ml:List (Int×List Int)},Sd n t k es part zl ml→k+l.length≤n→t+64 * l.length<1000000→(∀ x∈l,x.sign=1∨x.sign = -1)→(∀ x∈l,(aq tl x).length≤64∧∀ r∈aq tl x,r.sign=1∨r.sign = -1) →
  ∃ t',Sd n t' (k+l.length) ((l.zipIdx k).foldl (mS tl) (es,part)).1 ((l.zipIdx k).foldl (mS tl) (es,part)).2 (l.foldl (fun zl x=>(aq tl x).foldl (iX x) zl) zl) ((l.zipIdx k).foldl (fun ml p=>(aq tl p.1).foldl (ek p.2) ml) ml)
 | [],t,_,_,_,_,_,h,_,_,_,_=>⟨t,h⟩
 | x::l,t,k,es,part,zl,ml,h,hk,ht,hs,hq=>by
  simp only[ze5] at hk ht;have h0:=hq x (by simp);have h1:=(h.open oM).inner (x:=x) oM (hs x (by simp)) (aq tl x) oM h0.2;obtain ⟨t',h2⟩:=Sd.outer l h1 oM oM (fun y hy=>hs y (by simp[hy])) (fun y hy=>hq y (by simp[hy]));refine⟨t',?_⟩;simp only[List.zipIdx_cons,zi5,ze5];rw[show k+(l.length+1)=k+1+l.length by omega];exact h2
theorem nq {α β:Type}{R:α→β→Prop}{p:α→Bool}{q:β→Bool}(h:∀ a b,R a b→p a=q b):∀ {l:List α} {m:List β},az R l m→l.any p=m.any q
 | [],[],_=>rfl
 | a::l,b::m,hr=>by simp only[List.any_cons,h a b hr.1,nq h hr.2]
 | [],_::_,hr=>hr.elim
 | _::_,[],hr=>hr.elim
theorem rf {ml:List (Int×List Int)}(h2:∀ p∈ml,p.2.length=2)(a b:Int):Rch (jd (cN ml)) a b↔Cn (dJ ml) a b:=by
 have hstep:∀ x y,y∈ew (cN ml) x→Cn (dJ ml) x y:=fun x y hy=>by
  obtain ⟨p,hp,h⟩:=(ke ml x y).1 hy
  rcases h with h | h
  ·exact .one ⟨p,hp,by rw[h]; rfl,by rw[h]; simp⟩
  ·exact (Cn.one (E:=dJ ml) ⟨p,hp,by rw[h]; rfl,by rw[h]; simp⟩).symm
 have hadj:∀ x,jd (cN ml) x≠none:=fun x=>by simp[jd]
 constructor
 ·intro h;induction h with
  | refl _ _=>exact .refl _
  | step x y _ l hl hy _ ih =>
   simp only[jd,zg4] at hl;subst hl;exact (hstep x y hy).trans ih
 ·intro h;induction h with
  | refl a=>exact .refl a (hadj a)
  | @step x y z e _ ih =>
   have key:∀ u v,dJ ml u v→v=u∨v∈ew (cN ml) u:=fun u v ⟨p,hp,h3,h4⟩=>by
    have:=h2 p hp
    match hq:p.2,this with
    | [c,d],_ =>
     rw[hq] at h3 h4;simp at h3 h4;subst h3
     rcases h4 with h4 | h4
     ·exact .inl h4
     ·exact .inr ((ke ml c v).2 ⟨p,hp,.inl (by rw[hq,h4])⟩)
   rcases e with e | e
   ·rcases key x y e with rfl | h5
    ·exact ih
    ·exact .step x y z _ I h5 ih
   ·rcases key y x e with rfl | h5
    ·exact ih
    ·refine .step x y z _ I ?_ ih;obtain ⟨p,hp,h6⟩:=(ke ml y x).1 h5;exact (ke ml x y).2 ⟨p,hp,h6.symm⟩
theorem m8 {l:List Int}(hn:l.Nodup)(hb:∀ x∈l,0≤x):(l.map Int.toNat).Nodup:=by
 rw[List.Nodup,zk1];refine List.Pairwise.imp_of_mem ?_ hn;intro a b ha hb' hne e;have:=hb a ha;have:=hb b hb';omega
theorem kJ {l:List Int}{n:Nat}(hn:l.Nodup)(hb:∀ x∈l,0≤x∧x<(n:Int)):l.length≤n:=by
 have h1:=m8 hn fun x hx=>(hb x hx).1;have:=dv (l:=List.range n) h1 List.nodup_range fun x hx=>by
  obtain ⟨y,hy,rfl⟩:=ze8.1 hx;have:=hb y hy;exact List.mem_range.2 oM
 simpa using this
theorem qP {tl:List Cl}{c:Cl}(hok:AOk tl c)(h0:0<c.sides.length):gP tl c=aX tl c:=by
 obtain ⟨h64,hs,hq⟩:=hok;have start:Sd c.sides.length 0 0 [] (List.replicate c.sides.length 0) [] []:=⟨trivial,trivial,by simp,by simp,by simp,by simp,by simp,fun a b ha=>by omega⟩;obtain ⟨t,hd⟩:=start.outer c.sides (tl:=tl) oM oM hs hq;have e1:((c.sides.zipIdx 0).foldl (mS tl) ([],List.replicate c.sides.length 0))=lX tl c.sides c.sides.length:=rfl;rw[e1] at hd;have hz:az RZ (lX tl c.sides c.sides.length).1 (eI tl c.sides):=hd.z;have hm:az RM (lX tl c.sides c.sides.length).1 (ef tl c.sides):=hd.m;unfold gP aX;rw[nq (p:=fun e=>decide (e.sum≠0)) (q:=fun p:Int×Int=>decide (p.2≠0)) (fun a b h=>by rw[h.2]) hz];rw[nq (p:=fun e=>decide (e.many≠2)) (q:=fun p:Int×List Int=>decide ((p.2.length:Int)≠2)) (fun a b h=>by rw[h.2.1]) hm];split
 ·rfl
 ·split
  ·rfl
  ·rename_i hno;have h2:∀ p∈ef tl c.sides,p.2.length=2:=fun p hp=>by
    have:=zk2.1 ((zj4 _).mp hno) p hp;simp at this;omega
   have hbm:∀ p∈ef tl c.sides,∀ x∈p.2,0≤x∧x<((0+c.sides.length:Nat):Int):=hd.bm;rw[Nat.zero_add] at hbm;have hcn:∀ a b:Nat,a<c.sides.length→b<c.sides.length→((lX tl c.sides c.sides.length).2.getD a 0=(lX tl c.sides c.sides.length).2.getD b 0↔Rch (jd (cN (ef tl c.sides))) a b):=fun a b ha hb=>by
    rw[rf h2];exact hd.cn a b oM oM
   have hln:=hd.len;have hmem:∀ x:Int,x∈iC (cN (ef tl c.sides))↔Rch (jd (cN (ef tl c.sides))) 0 x:=fun x=>tr (cnt:=mG (cN (ef tl c.sides))) (fun v v' h=>iW h) (j5 _) (zk5 (zc4 _ _)) (by simp[jd]) x;have hnd:(iC (cN (ef tl c.sides))).Nodup:=iV _ _ _ _ (by simp);have hin:∀ x∈iC (cN (ef tl c.sides)),0≤x∧x<(c.sides.length:Int):=fun x hx=>by
    have hr:=(rf h2 0 x).1 ((hmem x).1 hx);have:∀ a b,Cn (dJ (ef tl c.sides)) a b→(0≤a∧a<(c.sides.length:Int))→(0≤b∧b<(c.sides.length:Int)):=by
     intro a b h;induction h with
     | refl _=>exact fun h=>h
     | step e _ ih =>
      intro _
      rcases e with e | e
      ·exact ih (gt hbm e).2
      ·exact ih (gt hbm e).1
    exact this 0 x hr oM
   generalize (lX tl c.sides c.sides.length).2=part at *;generalize iC (cN (ef tl c.sides))=seen at *;by_cases hall:∀ a,a<c.sides.length→part.getD a 0=part.getD 0 0
   ·have hf:part.any (fun x=>decide (x≠part.getD 0 0))=false:=by
     rw[zk2];intro x hx;obtain ⟨i,hi,rfl⟩:=zc6 hx;have:=hall i oM;rw[zg7,List.getElem?_eq_getElem hi] at this;simpa using this
    have hlen:seen.length=c.sides.length:=by
     refine Nat.le_antisymm (kJ hnd hin) ?_;have h3:=dv (m:=List.range c.sides.length) (l:=seen.map Int.toNat) List.nodup_range (m8 hnd fun x hx=>(hin x hx).1) fun i hi=>by
      have hi:=List.mem_range.1 hi;exact ze8.2 ⟨(i:Int),(hmem i).2 ((hcn 0 i h0 hi).1 (hall i hi).symm),by simp⟩
     simpa using h3
    rw[hf,hlen];simp
   ·have ht:part.any (fun x=>decide (x≠part.getD 0 0))=true:=by
     simp only[Classical.not_forall] at hall;obtain ⟨a,ha,hne⟩:=hall;rw[zj5];refine⟨part.getD a 0,?_,by simpa using hne⟩;rw[zg7,List.getElem?_eq_getElem oM];exact gM _
    have hlen:(seen.length:Int)≠c.sides.length:=by
     simp only[Classical.not_forall] at hall;obtain ⟨a,ha,hne⟩:=hall;have hna:(a:Int) ∉ seen:=fun h=>hne ((hcn 0 a h0 ha).2 ((hmem a).1 h)).symm;have:=kJ (l:=(a:Int)::seen) (n:=c.sides.length) (zj8.2 ⟨hna,hnd⟩) fun x hx=>by
      rcases ze7.1 hx with rfl | hx
      ·omega
      ·exact hin x hx
     simp at this;omega
    rw[ht,zf7 rfl,zf7 hlen]
theorem cG {tl:List Cl}:∀ {l:List Cl} {n:Int},ge tl l n=none→l.Pairwise (fun a b=>a.id<b.id)∧(∀ x∈l,n<x.id)∧∀ x∈l,bV tl x=0
 | [],_,_=>⟨List.Pairwise.nil,by simp,by simp⟩
 | x::r,n,h=>by
  unfold ge at h;split at h
  ·cases h
  ·rename_i hid;split at h
   ·cases h
   ·rename_i hf;obtain ⟨h1,h2,h3⟩:=cG h;refine⟨zj9.2 ⟨h2,h1⟩,fun y hy=>?_,fun y hy=>?_⟩
    ·rcases ze7.1 hy with rfl | hy
     ·omega
     ·have:=h2 y hy; omega
    ·rcases ze7.1 hy with rfl | hy
     ·exact zg6 hf
     ·exact h3 y hy
theorem jj (l:List Cl):aJ l=ar l:=by
 unfold aJ ar;split
 ·rfl
 ·cases h:ge (ai l) (aa l) 0 with
  | some p=>rfl
  | none =>
   obtain ⟨h1,_,h3⟩:=cG h;have ht:=bD h1;have key:∀ m:List Cl,(∀ x∈m,x∈aa l)→l7 (aa l) m=mH (ai l) m:=by
    intro m;induction m with
    | nil=>intro _; rfl
    | cons x r ih =>
     intro hm;have hx:=hm x (by simp);unfold l7 mH;rw[ih fun y hy=>hm y (by simp[hy])];by_cases hd:x.dim>1
     ·have hok:=yq h3 hx;have hn:0<x.sides.length:=by
       have hf:=h3 x hx;unfold bV at hf;split at hf
       ·cases hf
       ·split at hf
        ·cases hf
        ·rename_i hc;simp[aR] at hc;have:=hc.2 hd;omega
      rw[ht] at hok ⊢;rw[qP hok hn]
     ·simp[hd]
   rw[key _ fun x hx=>hx]
set_option maxRecDepth 10000
theorem kx {l:List Cl}(h:(ar l).2=0):ge (ai l) (aa l) 0=none:=by
 unfold ar at h;split at h
 ·simp at h
 ·cases h1:ge (ai l) (aa l) 0 with
  | none=>rfl
  | some p=>rw[h1] at h; exact absurd h (tu h1)
theorem Bx (a b:List Cl):bZ a b=CT a b:=by
 have hb:bT a b=mN a b:=by
  unfold bT mN;rw[jj,jj];by_cases h1:(ar a).2=0
  ·by_cases h2:(ar b).2=0
   ·rw[bD (cG (kx h1)).1,bD (cG (kx h2)).1,ax,ax]
   ·simp[h2]
  ·simp[h1]
 unfold bZ CT;rw[hb,jj]
section
variable {A:List (List Int)}(hA:gg A)
include hA
end
theorem DE {tl:List Cl}{c:Cl}(h1:0≤c.dim∧c.dim≤8)(h2:aR c=false)(h3:∀ x∈c.sides,∃ d,ab tl x.cell=some d∧d.dim=c.dim - 1)(h4:c.sides.Pairwise fun a b=>a.cell<b.cell)(h5:∀ x∈c.sides,x.sign=1∨x.sign = -1)(h6:c.dim=1→mg c.sides=0):bV tl c=0:=by
 have e1:eR c=false:=by unfold eR; simp; omega
 have e3:(List.range c.sides.length).any (ia tl c)=false:=by
  rw[zk2];intro i hi;have hi:=List.mem_range.1 hi;obtain ⟨d,hd1,hd2⟩:=h3 _ (gM hi);unfold ia;rw[List.getElem?_eq_getElem hi];show ¬ bL _ _ i c.sides[i]=true;unfold bL;rw[hd1];simp only[Option.isSome_some,Bool.not_true,Bool.false_or,Option.getD_some,hd2,ne_eq,not_true_eq_false,decide_false];by_cases hi0:i>0
  ·have hlt:=zc8.1 h4 (i - 1) i oM hi oM;rw[List.getElem?_eq_getElem oM];simp;omega
  ·simp[hi0]
 have e4:c.sides.any bB=false:=by
  rw[zk2];intro x hx
  rcases h5 x hx with h | h <;> simp[bB,h]
 have e5:(decide (c.dim=1)&&decide (mg c.sides≠0))=false:=by
  by_cases hd:c.dim=1
  ·rw[h6 hd]; simp
  ·simp[hd]
 unfold bV;rw[e1,h2,e3,e4,e5];rfl
section
variable {A B:List (List Int)}(hA:gg A)(hB:gg B)
include hA hB
end
section
variable {A B:List (List Int)}(hA:gg A)(hB:gg B)
include hA hB
end
structure Few (a:List Cl)(A:List (List Int)):Prop where
 good:gg A
 cells:a=A.map (gV A)
 small:∀ s∈A,s.length≤3
 few:A.length≤14
def vk (tl:List Cl)(l:List ae)(r:Int):Int:=(l.flatMap fun x=>(aq tl x).map fun q=>if q.cell=r then x.sign * q.sign else 0).sum
def jD (tl:List Cl)(x:ae)(r:Int):Nat:=((aq tl x).filter fun q=>decide (q.cell=r)).length
def cntR (tl:List Cl)(l:List ae)(r:Int):Nat:=(l.map fun x=>jD tl x r).sum
def jS (tl:List Cl)(l:List ae)(a b:Int):Prop:=∃ x∈l,∃ y∈l,x.cell=a∧y.cell=b∧∃ r,0<jD tl x r∧0<jD tl y r
theorem rW (zl:List (Int×Int))(k x r:Int):dM (eH zl k x) r=dM zl r+if r=k then x else 0:=by
 induction zl with
 | nil =>
  simp only[eH,dM];split <;> simp
 | cons p q ih =>
  obtain ⟨a,z⟩:=p;simp only[eH];by_cases h:k=a
  ·subst h;simp only[if_true,dM];split <;> simp
  ·rw[zf6 h];simp only[dM,ih];by_cases hr:r=a
   ·subst hr;rw[zf7 rfl,zf7 rfl,zf6 fun e=>h e.symm];omega
   ·rw[zf6 hr,zf6 hr]
theorem o9 (x:ae)(r:Int):∀ (l:List ae) (zl:List (Int×Int)),dM (l.foldl (iX x) zl) r=dM zl r+(l.map fun q=>if q.cell=r then x.sign * q.sign else 0).sum
 | [],zl=>by simp
 | q::l,zl=>by
  simp only[zi5,zg1,List.sum_cons];rw[o9 x r l,iX,rW];by_cases h:r=q.cell
  ·rw[zf7 h,zf7 h.symm]; omega
  ·rw[zf6 h,zf6 fun e=>h e.symm]; omega
theorem rV (tl:List Cl)(l:List ae)(r:Int):dM (eI tl l) r=vk tl l r:=by
 have:∀ (l:List ae) (zl:List (Int×Int)),dM (l.foldl (fun zl x=>(aq tl x).foldl (iX x) zl) zl) r=dM zl r+vk tl l r:=by
  intro l;induction l with
  | nil=>intro zl; simp[vk]
  | cons x q ih =>
   intro zl;simp only[zi5];rw[ih,o9];simp only[vk,zh2,List.sum_append];omega
 have h:=this l [];simpa [eI,dM] using h
theorem nr (ml:List (Int×Int))(k x:Int):(eH ml k x).map Prod.fst=if ml.any (fun p=>decide (p.1=k)) then ml.map Prod.fst else ml.map Prod.fst++[k]:=by
 induction ml with
 | nil=>simp[eH]
 | cons p r ih =>
  obtain ⟨a,l⟩:=p;simp only[eH];by_cases h:k=a
  ·subst h;simp
  ·have h2:¬ a=k:=fun e=>h e.symm;rw[zf6 h];simp only[zg1,ih,List.any_cons,h2,decide_false,Bool.false_or];split <;> simp
theorem xQ {ml:List (Int×Int)}(h:(ml.map Prod.fst).Nodup)(k x:Int):((eH ml k x).map Prod.fst).Nodup:=by
 rw[nr];split
 ·exact h
 ·rename_i hk;rw[List.nodup_append];refine⟨h,by simp,fun a ha b hb e=>hk ?_⟩;simp at hb;subst hb;obtain ⟨p,hp,hpe⟩:=ze8.1 ha;rw[zj5];exact⟨p,hp,by simp[hpe,e]⟩
theorem jP (tl:List Cl)(l:List ae):((eI tl l).map Prod.fst).Nodup:=by
 have h1:∀ (x:ae) (q:List ae) (zl:List (Int×Int)),(zl.map Prod.fst).Nodup→((q.foldl (iX x) zl).map Prod.fst).Nodup:=by
  intro x q;induction q with
  | nil=>intro zl h; exact h
  | cons r t ih=>intro zl h; exact ih _ (xQ h _ _)
 have h2:∀ (q:List ae) (zl:List (Int×Int)),(zl.map Prod.fst).Nodup→((q.foldl (fun zl x=>(aq tl x).foldl (iX x) zl) zl).map Prod.fst).Nodup:=by
  intro q;induction q with
  | nil=>intro zl h; exact h
  | cons x t ih=>intro zl h; exact ih _ (h1 _ _ _ h)
 exact h2 _ _ (by simp)
theorem mB:∀ {zl:List (Int×Int)},(zl.map Prod.fst).Nodup→∀ p∈zl,dM zl p.1=p.2
 | [],_,p,hp=>by simp at hp
 | (a,z)::r,h,p,hp=>by
  simp only[zg1,zj8] at h
  rcases ze7.1 hp with rfl | hp
  ·simp[dM]
  ·simp only[dM];rw[zf6 fun e=>h.1 (ze8.2 ⟨p,hp,e⟩)];exact mB h.2 p hp
theorem nf:∀ {zl:List (Int×Int)} {k:Int},dM zl k≠0→∃ p∈zl,p.1=k∧p.2=dM zl k
 | [],_,h=>by simp[dM] at h
 | (a,z)::r,k,h=>by
  simp only[dM] at h ⊢;split
  ·rename_i e;exact⟨(a,z),by simp,e.symm,I⟩
  ·rename_i e;rw[zf6 e] at h;obtain ⟨p,hp,h1,h2⟩:=nf h;exact⟨p,by simp[hp],h1,h2⟩
theorem m0 (tl:List Cl)(l:List ae):(eI tl l).any (fun p=>decide (p.2≠0))=false↔∀ r,vk tl l r=0:=by
 rw[zk2];constructor
 ·intro h r;rw[← rV];refine zg6 fun hne=>?_;obtain ⟨p,hp,_,h2⟩:=nf hne;exact h p hp (by simpa [h2] using hne)
 ·intro h p hp;have:=mB (jP tl l) p hp;rw[rV,h] at this;simp[← this]
theorem pd (i r:Int):∀ (l:List ae) (ml:List (Int×List Int)),ew (l.foldl (ek i) ml) r=ew ml r++List.replicate (l.filter fun q=>decide (q.cell=r)).length i
 | [],ml=>by simp
 | q::l,ml=>by
  simp only[zi5];rw[pd i r l,ek,rY,zi4];by_cases h:r=q.cell
  ·rw[zf7 h,zf7 (by simp[h])];simp[List.replicate_succ]
  ·rw[zf6 h,zf6 (by simp; exact fun e=>h e.symm)]
theorem vT (tl:List Cl)(l:List ae)(r:Int):ew (ef tl l) r=l.zipIdx.flatMap fun p=>List.replicate (jD tl p.1 r) (p.2:Int):=by
 have:∀ (q:List (ae×Nat)) (ml:List (Int×List Int)),ew (q.foldl (fun ml p=>(aq tl p.1).foldl (ek p.2) ml) ml) r=ew ml r++q.flatMap fun p=>List.replicate (jD tl p.1 r) (p.2:Int):=by
  intro q;induction q with
  | nil=>intro ml; simp
  | cons p t ih =>
   intro ml;simp only[zi5];rw[ih,pd];simp[jD]
 have h:=this l.zipIdx [];simpa [ef,ew] using h
theorem yT (tl:List Cl)(l:List ae)(r:Int):(ew (ef tl l) r).length=cntR tl l r:=by
 rw[vT];have:∀ (l:List ae) (k:Nat),((l.zipIdx k).flatMap fun p=>List.replicate (jD tl p.1 r) (p.2:Int)).length=cntR tl l r:=by
  intro l;induction l with
  | nil=>intro k; rfl
  | cons x q ih=>intro k; simp only[List.zipIdx_cons,zh2,ze2,List.length_replicate,ih,cntR,zg1,List.sum_cons]
 exact this l 0
theorem mQ (tl:List Cl)(l:List ae)(r i:Int):i∈ew (ef tl l) r↔∃ k:Nat,i=k∧∃ x,l[k]?=some x∧0<jD tl x r:=by
 rw[vT,List.mem_flatMap];constructor
 ·rintro ⟨⟨x,k⟩,hp,hi⟩;obtain ⟨h1,rfl⟩:=List.mem_replicate.1 hi;refine⟨k,I,x,?_,Nat.pos_of_ne_zero h1⟩;simpa using List.mem_zipIdx_iff_getElem?.1 hp
 ·rintro ⟨k,rfl,x,hx,hh⟩;exact⟨(x,k),List.mem_zipIdx_iff_getElem?.2 (by simpa using hx),List.mem_replicate.2 ⟨Nat.ne_of_gt hh,I⟩⟩
theorem mC:∀ {ml:List (Int×List Int)},(ml.map Prod.fst).Nodup→∀ p∈ml,ew ml p.1=p.2
 | [],_,p,hp=>by simp at hp
 | (a,z)::r,h,p,hp=>by
  simp only[zg1,zj8] at h
  rcases ze7.1 hp with rfl | hp
  ·simp[ew]
  ·simp only[ew];rw[zf6 fun e=>h.1 (ze8.2 ⟨p,hp,e⟩)];exact mC h.2 p hp
theorem ng:∀ {ml:List (Int×List Int)} {k:Int},ew ml k≠[]→∃ p∈ml,p.1=k∧p.2=ew ml k
 | [],_,h=>by simp[ew] at h
 | (a,z)::r,k,h=>by
  simp only[ew] at h ⊢;split
  ·rename_i e;exact⟨(a,z),by simp,e.symm,I⟩
  ·rename_i e;rw[zf6 e] at h;obtain ⟨p,hp,h1,h2⟩:=ng h;exact⟨p,by simp[hp],h1,h2⟩
theorem zu:∀ {ml:List (Int×List Int)} {k x:Int},(∀ p∈ml,p.2≠[])→∀ p∈fk ml k x,p.2≠[]
 | [],_,_,_,p,hp=>by simp[fk] at hp; subst hp; simp
 | (a,l)::r,k,x,h,p,hp=>by
  unfold fk at hp;split at hp
  ·rcases ze7.1 hp with rfl | hp
   ·simp
   ·exact h p (by simp[hp])
  ·rcases ze7.1 hp with rfl | hp
   ·exact h _ (by simp)
   ·exact zu (fun q hq=>h q (by simp[hq])) p hp
theorem Em (tl:List Cl)(l:List ae):∀ p∈ef tl l,p.2≠[]:=by
 have h1:∀ (i:Int) (q:List ae) (ml:List (Int×List Int)),(∀ p∈ml,p.2≠[])→∀ p∈q.foldl (ek i) ml,p.2≠[]:=by
  intro i q;induction q with
  | nil=>intro ml h; exact h
  | cons r t ih=>intro ml h; exact ih _ (zu h)
 have h2:∀ (q:List (ae×Nat)) (ml:List (Int×List Int)),(∀ p∈ml,p.2≠[])→∀ p∈q.foldl (fun ml p=>(aq tl p.1).foldl (ek p.2) ml) ml,p.2≠[]:=by
  intro q;induction q with
  | nil=>intro ml h; exact h
  | cons x t ih=>intro ml h; exact ih _ (h1 _ _ _ h)
 exact h2 _ _ (by simp)
theorem vM (tl:List Cl)(l:List ae):(ef tl l).any (fun p=>decide ((p.2.length:Int)≠2))=false↔∀ r,cntR tl l r=0∨cntR tl l r=2:=by
 rw[zk2];constructor
 ·intro h r;rw[← yT];by_cases hne:ew (ef tl l) r=[]
  ·left; rw[hne]; rfl
  ·right;obtain ⟨p,hp,_,h2⟩:=ng hne;have:=h p hp;rw[h2] at this;simp at this;omega
 ·intro h p hp;have h1:=mC (jv tl l) p hp;have h2:=h p.1;rw[← yT,h1] at h2;have h3:=List.length_pos_iff.2 (Em tl l p hp);simp;omega
theorem Eo (tl:List Cl)(l:List ae):∀ p∈ef tl l,∀ x∈p.2,0≤x∧x<(l.length:Int):=fun p hp x hx=>by
 rw[← mC (jv tl l) p hp] at hx;obtain ⟨k,rfl,y,hy,_⟩:=(mQ tl l p.1 x).1 hx;have:=(zf2.1 hy).1;omega
theorem Bs {ml:List (Int×List Int)}{n:Nat}(h2:∀ p∈ml,p.2.length=2)(hb:∀ p∈ml,∀ x∈p.2,0≤x∧x<(n:Int))(h0:0<n):(iC (cN ml)).length=n↔∀ a:Nat,a<n→Cn (dJ ml) 0 a:=by
 have hmem:∀ x:Int,x∈iC (cN ml)↔Rch (jd (cN ml)) 0 x:=fun x=>tr (cnt:=mG (cN ml)) (fun v v' h=>iW h) (j5 _) (zk5 (zc4 _ _)) (by simp[jd]) x;have hnd:(iC (cN ml)).Nodup:=iV _ _ _ _ (by simp);have hin:∀ x∈iC (cN ml),0≤x∧x<(n:Int):=fun x hx=>by
  have hr:=(rf h2 0 x).1 ((hmem x).1 hx);have:∀ a b,Cn (dJ ml) a b→(0≤a∧a<(n:Int))→(0≤b∧b<(n:Int)):=by
   intro a b h;induction h with
   | refl _=>exact fun h=>h
   | step e _ ih =>
    intro _
    rcases e with e | e
    ·exact ih (gt hb e).2
    ·exact ih (gt hb e).1
  exact this 0 x hr oM
 generalize iC (cN ml)=seen at *;constructor
 ·intro hl a ha;refine Classical.byContradiction fun hne=>?_;have hna:(a:Int) ∉ seen:=fun h=>hne ((rf h2 0 a).1 ((hmem a).1 h));have:=kJ (l:=(a:Int)::seen) (n:=n) (zj8.2 ⟨hna,hnd⟩) fun x hx=>by
   rcases ze7.1 hx with rfl | hx
   ·omega
   ·exact hin x hx
  simp at this;omega
 ·intro hall;refine Nat.le_antisymm (kJ hnd hin) ?_;have h3:=dv (m:=List.range n) (l:=seen.map Int.toNat) List.nodup_range (m8 hnd fun x hx=>(hin x hx).1) fun i hi=>by
   have hi:=List.mem_range.1 hi;exact ze8.2 ⟨(i:Int),(hmem i).2 ((rf h2 0 i).2 (hall i hi)),by simp⟩
  simpa using h3
theorem Cn.map {E E':Int→Int→Prop}{f:Int→Int}(h:∀ a b,E a b→Cn E' (f a) (f b)){a b:Int}(hc:Cn E a b):Cn E' (f a) (f b):=by
 induction hc with
 | refl _=>exact .refl _
 | step e _ ih =>
  rcases e with e | e
  ·exact (h _ _ e).trans ih
  ·exact (h _ _ e).symm.trans ih
theorem jx {tl:List Cl}{c:Cl}(h0:0<c.sides.length)(hnd:(c.sides.map ae.cell).Nodup) :
  aX tl c=0↔(∀ r,vk tl c.sides r=0)∧(∀ r,cntR tl c.sides r=0∨cntR tl c.sides r=2)∧∀ x∈c.sides,∀ y∈c.sides,Cn (jS tl c.sides) x.cell y.cell:=by
 unfold aX;generalize c.sides=l at *;by_cases hs:(eI tl l).any (fun p=>decide (p.2≠0))=false
 ·rw[zf6 (by rw[hs]; simp)];by_cases hm:(ef tl l).any (fun p=>decide ((p.2.length:Int)≠2))=false
  ·rw[zf6 (by rw[hm]; simp)];have h2:∀ p∈ef tl l,p.2.length=2:=fun p hp=>by
    have:=zk2.1 hm p hp;simp at this;omega
   have hsa:=Bs h2 (Eo tl l) h0;have hinj:∀ {i j:Nat} {x y:ae},l[i]?=some x→l[j]?=some y→x.cell=y.cell→i=j:=fun {i j x y} hi hj e=>by
    obtain ⟨i1,e1⟩:=zf2.1 hi;obtain ⟨i2,e2⟩:=zf2.1 hj;have key:∀ {a b:Nat} (ha:a<l.length) (hb:b<l.length),a<b→l[a].cell≠l[b].cell:=fun {a b} ha hb h=>by
     have:=zc8.1 hnd a b (by simpa using ha) (by simpa using hb) h;simpa using this
    rcases Nat.lt_trichotomy i j with h | h | h
    ·exact absurd (by rw[e1,e2]; exact e) (key i1 i2 h)
    ·exact h
    ·exact absurd (by rw[e1,e2]; exact e.symm) (key i2 i1 h)
   have hconn:(∀ a:Nat,a<l.length→Cn (dJ (ef tl l)) 0 a)↔∀ x∈l,∀ y∈l,Cn (jS tl l) x.cell y.cell:=by
    constructor
    ·intro hall x hx y hy;obtain ⟨i,hi,rfl⟩:=zc6 hx;obtain ⟨j,hj,rfl⟩:=zc6 hy;have hc:=(hall i hi).symm.trans (hall j hj);have:=hc.map (f:=fun a=>(l.getD a.toNat ⟨0,0⟩).cell) (E':=jS tl l) fun a b hl=>by
      obtain ⟨p,hp,h3,h4⟩:=hl;rw[← mC (jv tl l) p hp] at h3 h4;obtain ⟨k,rfl,x,hx,hh⟩:=(mQ tl l p.1 a).1 (List.mem_of_head? h3);obtain ⟨m,rfl,y,hy,hh2⟩:=(mQ tl l p.1 b).1 h4;refine .one ⟨x,zf8 hx,y,zf8 hy,?_,?_,p.1,hh,hh2⟩
      ·simp[zg7,hx]
      ·simp[zg7,hy]
     simpa [zg7,hi,hj] using this
    ·intro hall;have key:∀ a b,Cn (jS tl l) a b→∀ (i:Nat) (x:ae),l[i]?=some x→x.cell=a→∀ (j:Nat) (y:ae),l[j]?=some y→y.cell=b→Cn (dJ (ef tl l)) (i:Int) (j:Int):=by
      have one:∀ {a b:Int},jS tl l a b→∀ (i:Nat) (x:ae),l[i]?=some x→x.cell=a→∃ (j:Nat) (y:ae),l[j]?=some y∧y.cell=b∧Cn (dJ (ef tl l)) (i:Int) (j:Int):=by
       rintro a b ⟨x',hx',y,hy,rfl,rfl,r,h3,h4⟩ i x hi he;obtain ⟨i',hi',rfl⟩:=zc6 hx';obtain ⟨j,hj,rfl⟩:=zc6 hy;have hii:=hinj hi (List.getElem?_eq_getElem hi') he;subst hii;refine⟨j,l[j],List.getElem?_eq_getElem hj,I,?_⟩;have m1:=(mQ tl l r i).2 ⟨i,rfl,l[i],List.getElem?_eq_getElem hi',h3⟩;have m2:=(mQ tl l r j).2 ⟨j,rfl,l[j],List.getElem?_eq_getElem hj,h4⟩;obtain ⟨p,hp,_,hp2⟩:=ng (ml:=ef tl l) (k:=r) fun e=>by rw[e] at m1; simp at m1
       rw[← hp2] at m1 m2;cases hh:p.2 with
       | nil=>rw[hh] at m1; simp at m1
       | cons u q =>
        have hu:∀ v∈p.2,dJ (ef tl l) u v:=fun v hv=>⟨p,hp,by rw[hh]; rfl,hv⟩;exact (Cn.one (hu _ m1)).symm.trans (Cn.one (hu _ m2))
      intro a b hc;induction hc with
      | refl a =>
       intro i x hi he j y hj he2;have:=hinj hi hj (he.trans he2.symm);subst this;exact .refl _
      | step e _ ih =>
       intro i x hi he j y hj he2;have e':jS tl l _ _:=e.elim (fun e=>e) fun ⟨x,hx,y,hy,h1,h2,r,h3,h4⟩=>⟨y,hy,x,hx,h2,h1,r,h4,h3⟩;obtain ⟨k,z,hk,hz,hc⟩:=one e' i x hi he;exact hc.trans (ih k z hk hz j y hj he2)
     intro a ha;exact key _ _ (hall _ (gM h0) _ (gM ha)) 0 _ (List.getElem?_eq_getElem h0) I a _ (List.getElem?_eq_getElem ha) I
   rw[← hconn,← hsa];constructor
   ·intro h;refine⟨(m0 tl l).1 hs,(vM tl l).1 hm,?_⟩;refine zg6 fun hne=>?_;rw[zf7 oM] at h;exact absurd h dC
   ·rintro ⟨_,_,h⟩;rw[zf6 oM]
  ·have hm':(ef tl l).any (fun p=>decide ((p.2.length:Int)≠2))=true:=by simpa using hm
   rw[zf7 hm'];exact⟨fun h=>absurd h dC,fun h=>absurd ((vM tl l).2 h.2.1) hm⟩
 ·have hs':(eI tl l).any (fun p=>decide (p.2≠0))=true:=by simpa using hs
  rw[zf7 hs'];exact⟨fun h=>absurd h dC,fun h=>absurd ((m0 tl l).2 h.1) hs⟩
structure Fm (tl:List Cl)(c:Cl):Prop where
 dim:0≤c.dim∧c.dim≤8
 cnt:aR c=false
 found:∀ x∈c.sides,∃ d,ab tl x.cell=some d∧d.dim=c.dim - 1
 asc:c.sides.Pairwise fun a b=>a.cell<b.cell
 sg:∀ x∈c.sides,x.sign=1∨x.sign = -1
 one:c.dim=1→mg c.sides=0
theorem Fm.ok {tl:List Cl}{c:Cl}(h:Fm tl c):bV tl c=0:=DE h.dim h.cnt h.found h.asc h.sg h.one
theorem EC {l:List ae}(hs:l.Pairwise fun a b=>a.cell≤b.cell)(hd:∀ i x y,l[i]?=some x→l[i+1]?=some y→x.cell≠y.cell):l.Pairwise fun a b=>a.cell<b.cell:=by
 induction l with
 | nil=>exact List.Pairwise.nil
 | cons a r ih =>
  obtain ⟨h1,h2⟩:=zj9.1 hs;have hr:=ih h2 fun i x y hx hy=>hd (i+1) x y (by simpa using hx) (by simpa using hy);refine zj9.2 ⟨fun b hb=>?_,hr⟩;cases r with
  | nil=>simp at hb
  | cons z q =>
   have hz:a.cell<z.cell:=by
    have:=h1 z (by simp);have:=hd 0 a z rfl rfl;omega
   rcases ze7.1 hb with rfl | hb
   ·exact hz
   ·have:=(zj9.1 hr).1 b hb;omega
theorem EZ {tl:List Cl}{c:Cl}(h:bV tl c=0)(hs:c.sides.Pairwise fun a b=>a.cell≤b.cell):Fm tl c:=by
 unfold bV at h;split at h
 ·cases h
 ·rename_i h1;split at h
  ·cases h
  ·rename_i h2;split at h
   ·cases h
   ·rename_i h3;split at h
    ·cases h
    ·rename_i h4;split at h
     ·cases h
     ·rename_i h5;have hbad:∀ i x,c.sides[i]?=some x→bL tl c i x=false:=fun i x hx=>by
       have hi:=(zf2.1 hx).1;have:=zk2.1 ((zj4 _).mp h3) i (List.mem_range.2 hi);unfold ia at this;rw[hx] at this;simpa using this
      refine⟨?_,by simpa using h2,fun x hx=>?_,EC hs fun i x y hx hy e=>?_,fun x hx=>?_,fun hd=>?_⟩
      ·simp[eR] at h1; omega
      ·obtain ⟨i,hi,rfl⟩:=zc6 hx;have:=hbad i _ (List.getElem?_eq_getElem hi);unfold bL at this;simp only[Bool.or_eq_false_iff,Bool.not_eq_false',decide_eq_false_iff_not,ne_eq,Decidable.not_not] at this;obtain ⟨⟨g1,g2⟩,_⟩:=this;obtain ⟨d,hd⟩:=zh5.1 g1;rw[hd] at g2;exact⟨d,hd,g2⟩
      ·have:=hbad (i+1) y hy;unfold bL at this;rw[show i+1 - 1=i by omega,hx] at this;simp[e] at this
      ·have:=zk2.1 ((zj4 _).mp h4) x hx;simp[bB] at this;by_cases h6:x.sign=1
       ·exact .inl h6
       ·exact .inr (this h6)
      ·simpa [hd] using h5
structure Rt (l:List Cl):Prop where
 few:l.length≤4000
 asc:l.Pairwise fun a b=>a.id<b.id
 pos:∀ x∈l,0<x.id
 form:∀ x∈l,Fm l x
 around:∀ x∈l,x.dim>1→aX l x=0
theorem Rt.canon {l:List Cl}(h:Rt l):aa l=l:=by
 unfold aa;rw[(a6 (key:=Cl.id) (h.asc.imp fun h=>by omega) (aw.refl l)).symm];have:∀ c∈l,bo c=c:=fun c hc=>by
  unfold bo;rw[(a6 (key:=ae.cell) ((h.form c hc).asc.imp fun h=>by omega) (aw.refl c.sides)).symm]
 rw[zc7 this];simp
theorem Rt.tab {l:List Cl}(h:Rt l):ai l=l:=by rw[bD (by rw[h.canon]; exact h.asc),h.canon]
theorem Rt.check {l:List Cl}(h:Rt l):ar l=(0,0):=by
 refine wh h.few ?_ ?_ ?_ ?_ <;> rw[h.canon]
 ·exact h.pos
 ·exact h.asc
 ·exact fun x hx=>(h.form x hx).ok
 ·exact h.around
theorem Rt.find {l:List Cl}(h:Rt l){c:Cl}(hc:c∈l):ab l c.id=some c:=by
 refine mD ?_ hc;rw[List.Nodup,zk1];exact h.asc.imp fun h=>by omega
theorem jI {tl:List Cl}:∀ {l:List Cl},mH tl l=none→∀ x∈l,x.dim>1→aX tl x=0
 | [],_,x,hx,_=>by simp at hx
 | y::r,h,x,hx,hd=>by
  unfold mH at h;split at h
  ·cases h
  ·rename_i hn
   rcases ze7.1 hx with rfl | hx
   ·exact zg6 fun h=>hn ⟨hd,h⟩
   ·exact jI h x hx hd
theorem si {tl:List Cl}:∀ {l:List Cl} {p:Int×Int},mH tl l=some p→p.2≠0
 | [],_,h=>by cases h
 | y::r,p,h=>by
  unfold mH at h;split at h
  ·rename_i hn; cases h; exact hn.2
  ·exact si h
theorem uS (l:List Cl):∀ c∈aa l,c.sides.Pairwise fun a b=>a.cell≤b.cell:=fun c hc=>by
 obtain ⟨d,_,rfl⟩:=ze8.1 hc;exact bQ d.sides
theorem jU {l:List Cl}(h:(ar l).2=0):Rt (aa l):=by
 have h1:=kx h;obtain ⟨h2,h3,h4⟩:=cG h1;have ht:=bD h2;have h5:l.length≤4000:=AB h;refine⟨by rw[ax]; exact h5,h2,h3,fun x hx=>EZ (by rw[← ht]; exact h4 x hx) (uS l x hx),?_⟩;have h6:mH (ai l) (aa l)=none:=by
  unfold ar at h;rw[zf6 oM,h1] at h;cases hc:mH (ai l) (aa l) with
  | none=>rfl
  | some p =>
   rw[hc] at h;exact absurd h (si hc)
 rw[ht] at h6;exact jI h6
theorem m7 {l m:List Int}(h:l.Perm m):l.sum=m.sum:=by
 induction h with
 | nil=>rfl
 | cons x _ ih=>simp[ih]
 | swap x y l=>simp; omega
 | trans _ _ ih1 ih2=>exact ih1.trans ih2
theorem zX {l m:List Nat}(h:l.Perm m):l.sum=m.sum:=by
 induction h with
 | nil=>rfl
 | cons x _ ih=>simp[ih]
 | swap x y l=>simp; omega
 | trans _ _ ih1 ih2=>exact ih1.trans ih2
theorem dS {α:Type}{key:α→Int}(l:List α):(sortBy key l).Perm l:=by
 have hi:∀ (x:α) (l:List α),(ins key x l).Perm (x::l):=by
  intro x l;induction l with
  | nil=>exact .refl _
  | cons y r ih =>
   unfold ins;split
   ·exact .refl _
   ·exact (ih.cons y).trans (.swap x y r)
 induction l with
 | nil=>exact .refl _
 | cons x r ih=>exact (hi x _).trans (ih.cons x)
def inner (tl:List Cl)(x:ae)(r:Int):Int:=((aq tl x).map fun q=>if q.cell=r then x.sign * q.sign else 0).sum
theorem jt (tl:List Cl)(l:List ae)(r:Int):vk tl l r=(l.map fun x=>inner tl x r).sum:=by
 unfold vk;induction l with
 | nil=>rfl
 | cons x q ih=>simp only[zh2,List.sum_append,zg1,List.sum_cons,ih]; rfl
theorem zH {tl:List Cl}{l m:List ae}(h:l.Perm m)(r:Int):vk tl l r=vk tl m r:=by
 rw[jt,jt];exact m7 (h.map _)
theorem Az {tl:List Cl}{l m:List ae}(h:l.Perm m)(r:Int):cntR tl l r=cntR tl m r:=zX (h.map _)
def sgn (b:Bool):Int:=if b then -1 else 1
theorem rJ (b:Bool){a:Int}(h:a=1∨a = -1):sJ b a=sgn b * a∧(sJ b a=1∨sJ b a = -1):=by
 rcases h with rfl | rfl <;> cases b <;> exact⟨by decide,by decide⟩
theorem kH {α:Type}{l:List α}{f g:α→Int}{K:Int}(h:∀ x∈l,f x=K * g x):(l.map f).sum=K * (l.map g).sum:=by
 induction l with
 | nil=>simp
 | cons x r ih =>
  simp only[zg1,List.sum_cons];rw[h x (by simp),ih fun y hy=>h y (by simp[hy]),Int.mul_add]
structure Nm (l:List Cl)(k:Int):Prop where
 inj:∀ a∈l,∀ b∈l,dH a.id k=dH b.id k→a=b
 pos:∀ a∈l,0<dH a.id k
section
variable {l:List Cl}(h:Rt l){k:Int}(hn:Nm l k)(t:Int)
include h hn
omit hn in
theorem fm (c:Cl)(hc:c∈l){x:ae}(hx:x∈c.sides):∃ d∈l,d.id=x.cell∧ab l x.cell=some d∧d.dim=c.dim - 1:=by
 obtain ⟨d,hd,hdd⟩:=(h.form c hc).found x hx;obtain ⟨h1,h2⟩:=au hd;exact⟨d,h1,h2,hd,hdd⟩
theorem Ds:((l.map (aI k t)).map Cl.id).Nodup:=by
 rw[zi2,List.Nodup,zk1];refine List.Pairwise.imp_of_mem ?_ h.asc;intro a b ha hb hlt e;have:=hn.inj a ha b hb e;subst this;omega
theorem rI:((aa (l.map (aI k t))).map Cl.id).Nodup:=by
 have h1:=Ds h hn t;have h2:((aa (l.map (aI k t))).map Cl.id).Perm ((l.map (aI k t)).map Cl.id):=by
  rw[pF];exact (dS _).map _
 exact h2.symm.nodup h1
omit h hn in
theorem Dr {c:Cl}(hc:c∈l):bo (aI k t c)∈aa (l.map (aI k t)) :=
 ze8.2 ⟨_,(dD _ _).2 (ze8.2 ⟨c,hc,rfl⟩),rfl⟩
omit h hn in
theorem mR {c':Cl}(hc:c'∈aa (l.map (aI k t))):∃ c∈l,c'=bo (aI k t c):=by
 obtain ⟨d,hd,rfl⟩:=ze8.1 hc;obtain ⟨c,hc',rfl⟩:=ze8.1 ((dD _ _).1 hd);exact⟨c,hc',I⟩
theorem mA {c:Cl}(hc:c∈l):ab (aa (l.map (aI k t))) (dH c.id k)=some (bo (aI k t c)) :=
 mD (x:=bo (aI k t c)) (rI h hn t) (Dr t hc)
omit h hn in
theorem ei (c:Cl):(bo (aI k t c)).sides.Perm (c.sides.map (bc k t c)):=dS _
omit hn in
theorem my {c:Cl}(hc:c∈l){x:ae}(hx:x∈c.sides):(bc k t c x).sign=sgn (gY t c x.cell) * (sgn (iz t c) * x.sign)∧((bc k t c x).sign=1∨(bc k t c x).sign = -1):=by
 have h1:=rJ (iz t c) ((h.form c hc).sg x hx);have h2:=rJ (gY t c x.cell) h1.2;exact⟨by rw[← h1.1]; exact h2.1,h2.2⟩
theorem vC {c:Cl}(hc:c∈l):Fm (aa (l.map (aI k t))) (bo (aI k t c)):=by
 have hf:=h.form c hc;have hlen:(bo (aI k t c)).sides.length=c.sides.length:=by rw[(ei t c).length_eq,ze3]
 have hmem:∀ x',x'∈(bo (aI k t c)).sides↔∃ x∈c.sides,bc k t c x=x':=fun x'=>by rw[(ei t c).mem_iff,ze8]
 refine⟨hf.dim,?_,fun x' hx'=>?_,?_,fun x' hx'=>?_,fun hd=>?_⟩
 ·have:=hf.cnt;unfold aR at this ⊢;rw[hlen];exact this
 ·obtain ⟨x,hx,rfl⟩:=(hmem x').1 hx';obtain ⟨d,hd,hid,_,hdd⟩:=fm h c hc hx;have:=mA h hn t hd;rw[hid] at this;exact⟨_,this,hdd⟩
 ·have h1:(bo (aI k t c)).sides.Pairwise fun a b=>a.cell≤b.cell:=bQ _;have h2:((bo (aI k t c)).sides.map ae.cell).Nodup:=by
   refine ((ei t c).map ae.cell).symm.nodup ?_;rw[zi2,List.Nodup,zk1];refine List.Pairwise.imp_of_mem ?_ hf.asc;intro a b ha hb hlt e;obtain ⟨d,hd,hid,_⟩:=fm h c hc ha;obtain ⟨d',hd',hid',_⟩:=fm h c hc hb;have e:dH a.cell k=dH b.cell k:=e;rw[← hid,← hid'] at e;have:=hn.inj d hd d' hd' e;subst this;omega
  rw[List.Nodup,zk1] at h2;exact (h1.and h2).imp fun ⟨h3,h4⟩=>by omega
 ·obtain ⟨x,hx,rfl⟩:=(hmem x').1 hx';exact (my h t hc hx).2
 ·have hd:c.dim=1:=hd;have h1:=hf.one hd;unfold mg at h1 ⊢;rw[m7 ((ei t c).map ae.sign),zi2];rw[kH (g:=ae.sign) (K:=sgn (iz t c)) fun x hx=>?_,h1,Int.mul_zero];have h2:=(my (k:=k) h t hc hx).1;have h3:gY t c x.cell=false:=by unfold gY; simp[hd]
  rw[h3] at h2;show (bc k t c x).sign=_;rw[h2];unfold sgn;simp
theorem qp {c:Cl}(hc:c∈l){x:ae}(hx:x∈c.sides){e:Cl}(he:e∈l):jD (aa (l.map (aI k t))) (bc k t c x) (dH e.id k)=jD l x e.id:=by
 obtain ⟨d,hd,hid,hfd,_⟩:=fm h c hc hx;unfold jD aq;rw[hfd,show (bc k t c x).cell=dH d.id k by rw[hid]; rfl,mA h hn t hd];show ((bo (aI k t d)).sides.filter _).length=_;rw[((ei t d).filter _).length_eq,List.filter_map,ze3];congr 1;refine List.filter_congr fun q hq=>?_;obtain ⟨u,hu,hui,_⟩:=fm h d hd hq;show decide (dH q.cell k=dH e.id k)=decide (q.cell=e.id);rw[decide_eq_decide,← hui];by_cases hue:u=e
 ·subst hue; simp
 ·have h1:¬ dH u.id k=dH e.id k:=fun e'=>hue (hn.inj u hu e he e');have h2:¬ u.id=e.id:=fun e'=>hue (by have a1:=h.find hu; have a2:=h.find he; rw[e',a2] at a1; injection a1 with a1; exact a1.symm);simp[h1,h2]
theorem nF {c:Cl}(hc:c∈l){x:ae}(hx:x∈c.sides){r:Int}(hr:∀ e∈l,dH e.id k≠r):jD (aa (l.map (aI k t))) (bc k t c x) r=0:=by
 obtain ⟨d,hd,hid,hfd,_⟩:=fm h c hc hx;unfold jD aq;rw[show (bc k t c x).cell=dH d.id k by rw[hid]; rfl,mA h hn t hd];show ((bo (aI k t d)).sides.filter _).length=_;rw[((ei t d).filter _).length_eq,List.length_eq_zero_iff,List.filter_eq_nil_iff];intro q' hq';obtain ⟨q,hq,rfl⟩:=ze8.1 hq';obtain ⟨u,hu,hui,_⟩:=fm h d hd hq;have:=hr u hu;rw[hui] at this;show ¬ decide (dH q.cell k=r)=true;simpa using this
theorem zV {c:Cl}(hc:c∈l)(hd1:c.dim>1){x:ae}(hx:x∈c.sides){e:Cl}(he:e∈l) :
  inner (aa (l.map (aI k t))) (bc k t c x) (dH e.id k)=sgn (iz t c) * sgn ((decide (t>1)&&decide (c.dim - 1>1))&&decide (e.id.tmod t=1)) * inner l x e.id:=by
 obtain ⟨d,hd,hid,hfd,hdd⟩:=fm h c hc hx;have hsx:=(my (k:=k) h t hc hx).1;unfold inner aq;rw[hfd,show (bc k t c x).cell=dH d.id k by rw[hid]; rfl,mA h hn t hd];show ((bo (aI k t d)).sides.map _).sum=_;rw[m7 ((ei t d).map _),zi2];show _=_ * (d.sides.map _).sum;refine kH fun q hq=>?_;obtain ⟨u,hu,hui,_⟩:=fm h d hd hq;have hsq:=(my (k:=k) h t hd hq).1;simp only[Function.comp_def];show (if dH q.cell k=dH e.id k then (bc k t c x).sign * (bc k t d q).sign else 0)=_;by_cases hue:u=e
 ·subst hue;rw[hui,zf7 rfl,zf7 rfl,hsx,hsq];have h1:gY t c x.cell=iz t d:=by
   unfold gY iz;rw[hid];simp[hd1]
  have h2:gY t d q.cell=((decide (t>1)&&decide (c.dim - 1>1))&&decide (q.cell.tmod t=1)):=by
   unfold gY;rw[hdd]
  rw[h1,h2];generalize iz t d=b1;generalize iz t c=b2;generalize ((decide (t>1)&&decide (c.dim - 1>1))&&decide (q.cell.tmod t=1))=b3;cases b1 <;> cases b2 <;> cases b3 <;> simp[sgn,Int.neg_mul,Int.mul_neg]
 ·have h1:¬ dH q.cell k=dH e.id k:=fun e'=>hue (hn.inj u hu e he (by rw[hui]; exact e'));have h2:¬ q.cell=e.id:=fun e'=>hue (by have a1:=h.find hu; have a2:=h.find he; rw[hui,e',a2] at a1; injection a1 with a1; exact a1.symm);rw[zf6 h1,zf6 h2,Int.mul_zero]
omit h hn in
theorem BT {tl:List Cl}{x:ae}{r:Int}(h0:jD tl x r=0):inner tl x r=0:=by
 unfold jD at h0;rw[List.length_eq_zero_iff,List.filter_eq_nil_iff] at h0;unfold inner;have:((aq tl x).map fun q=>if q.cell=r then x.sign * q.sign else 0)=(aq tl x).map fun _=>(0:Int):=zc7 fun q hq=>zf6 (by simpa using h0 q hq);rw[this];generalize aq tl x=m;induction m with
 | nil=>rfl
 | cons a b ih=>simpa using ih
theorem wS {c:Cl}(hc:c∈l)(hd1:c.dim>1):aX (aa (l.map (aI k t))) (bo (aI k t c))=0:=by
 have hf:=h.form c hc;have hf':=vC h hn t hc;have hn0:0<c.sides.length:=by
  have:=hf.cnt;simp[aR] at this;have:=this.2 hd1;omega
 have hlen:(bo (aI k t c)).sides.length=c.sides.length:=by rw[(ei t c).length_eq,ze3]
 have nd:∀ {c:Cl},(c.sides.Pairwise fun a b=>a.cell<b.cell)→(c.sides.map ae.cell).Nodup:=fun h=>by
  rw[List.Nodup,zk1];exact h.imp fun h=>by omega
 obtain ⟨a1,a2,a3⟩:=(jx hn0 (nd hf.asc)).1 (h.around c hc hd1);refine (jx (by rw[hlen]; exact hn0) (nd hf'.asc)).2 ⟨fun r=>?_,fun r=>?_,fun x' hx' y' hy'=>?_⟩
 ·rw[zH (ei t c),jt,zi2];simp only[Function.comp_def];by_cases hr:∃ e∈l,dH e.id k=r
  ·obtain ⟨e,he,rfl⟩:=hr;have h1:=a1 e.id;rw[jt] at h1;rw[kH (g:=fun x=>inner l x e.id) (K:=sgn (iz t c) * sgn ((decide (t>1)&&decide (c.dim - 1>1))&&decide (e.id.tmod t=1))) fun x hx=>zV h hn t hc hd1 hx he,h1,Int.mul_zero]
  ·have hr:∀ e∈l,dH e.id k≠r:=fun e he e'=>hr ⟨e,he,e'⟩;rw[kH (g:=fun _=>(0:Int)) (K:=0) fun x hx=>by
    rw[BT (nF h hn t hc hx hr)];rfl,Int.zero_mul]
 ·rw[Az (ei t c)];unfold cntR;rw[zi2];simp only[Function.comp_def];by_cases hr:∃ e∈l,dH e.id k=r
  ·obtain ⟨e,he,rfl⟩:=hr;have h1:=a2 e.id;unfold cntR at h1;rw[zc7 (g:=fun x=>jD l x e.id) fun x hx=>qp h hn t hc hx he];exact h1
  ·have hr:∀ e∈l,dH e.id k≠r:=fun e he e'=>hr ⟨e,he,e'⟩;left;rw[zc7 (g:=fun _=>0) fun x hx=>nF h hn t hc hx hr];generalize c.sides=m;induction m with
   | nil=>rfl
   | cons a b ih=>simpa using ih
 ·have hmem:∀ x',x'∈(bo (aI k t c)).sides↔x'∈c.sides.map (bc k t c):=fun x'=>(ei t c).mem_iff;obtain ⟨x,hx,rfl⟩:=ze8.1 ((hmem x').1 hx');obtain ⟨y,hy,rfl⟩:=ze8.1 ((hmem y').1 hy');have hm:∀ x∈c.sides,bc k t c x∈(bo (aI k t c)).sides:=fun x hx=>(hmem _).2 (ze8.2 ⟨x,hx,rfl⟩);refine (a3 x hx y hy).map (f:=fun a=>dH a k) fun a b=>?_;rintro ⟨u,hu,v,hv,rfl,rfl,r,h1,h2⟩;obtain ⟨du,hdu,hidu,hfu,_⟩:=fm h c hc hu;have hr:∃ e∈l,e.id=r:=by
   unfold jD aq at h1;rw[hfu] at h1;obtain ⟨q,hq⟩:=List.exists_mem_of_length_pos h1;obtain ⟨hq1,hq2⟩:=zh1.1 hq;obtain ⟨e,he,hei,_⟩:=fm h du hdu (x:=q) hq1;exact⟨e,he,by rw[hei]; simpa using hq2⟩
  obtain ⟨e,he,rfl⟩:=hr;exact .one ⟨_,hm u hu,_,hm v hv,I,I,dH e.id k,by rw[qp h hn t hc hu he]; exact h1,by rw[qp h hn t hc hv he]; exact h2⟩
theorem zU:Rt (aa (l.map (aI k t))):=by
 refine⟨by rw[ax,ze3]; exact h.few,?_,fun x' hx'=>?_,fun x' hx'=>?_,fun x' hx' hd=>?_⟩
 ·have h1:=ix (l.map (aI k t));have h2:=rI h hn t;rw[zk1] at h1;rw[List.Nodup,zk1] at h2;exact (h1.and h2).imp fun ⟨h3,h4⟩=>by omega
 ·obtain ⟨c,hc,rfl⟩:=mR t hx';exact hn.pos c hc
 ·obtain ⟨c,hc,rfl⟩:=mR t hx';exact vC h hn t hc
 ·obtain ⟨c,hc,rfl⟩:=mR t hx';exact wS h hn t hc hd
end
def Bd (l:List Cl):Prop:=∀ c∈l,c.id≤l.length
theorem yQ (ls:List (List Int)):Rt (ct ls)∧Bd (ct ls):=by
 have h1:=jU (l:=ct ls) (by rw[t8]);have h2:aa (ct ls)=ct ls:=by
  unfold ct;cases aU [] ls with
  | none=>rfl
  | some all=>exact il _
 rw[h2] at h1;refine⟨h1,?_⟩;unfold ct;cases h:aU [] ls with
 | none=>intro c hc; simp at hc
 | some all =>
  obtain ⟨hg,_⟩:=fY ls [] h gg.nil (by simp);dsimp only;rw[hg.cells];intro c hc;obtain ⟨s,hs,rfl⟩:=ze8.1 hc;have:=(zf2.1 (hg.get_lb hs)).1;show ixC all s≤_;unfold ixC;rw[ze3];omega
theorem Cz {l:List Int}{x:Int}(h:x∈l):lbI l x<l.length:=by
 unfold lbI;induction l with
 | nil=>simp at h
 | cons a r ih =>
  rw[zi4]
  rcases ze7.1 h with rfl | h
  ·have:=zc4 (fun y=>decide (y<x)) r;simp;omega
  ·have:=ih h;split
   ·simp only[ze5]; omega
   ·simp only[ze5]; omega
theorem tq (a b:List Cl):Rt (bZ a b)∧Bd (bZ a b)∧(bZ a b).length≤a.length * b.length:=by
 rw[Bx];unfold CT;split
 ·exact⟨⟨by simp,List.Pairwise.nil,by simp,by simp,by simp⟩,fun c hc=>by simp at hc,by simp⟩
 ·rename_i hbad;split
  ·rename_i hok;have hlen:(aa (c8 a b)).length=a.length * b.length:=by
    rw[ax];unfold c8;rw[ij,ax,ax]
   refine⟨jU hok,fun c hc=>?_,by rw[hlen]; exact Nat.le_refl _⟩;rw[hlen];obtain ⟨h1,h2,_⟩:=wX (by simpa using hbad);have ta:=bD (cG (kx h1)).1;have tb:=bD (cG (kx h2)).1;obtain ⟨d,hd,rfl⟩:=ze8.1 hc;have hd:=(dD _ _).1 hd;unfold c8 at hd;rw[ta,tb] at hd;obtain ⟨x,hx,hd⟩:=List.mem_flatMap.1 hd;obtain ⟨y,hy,rfl⟩:=ze8.1 hd;have l1:=Cz (ze8.2 ⟨x,hx,rfl⟩:x.id∈(aa a).map Cl.id);have l2:=Cz (ze8.2 ⟨y,hy,rfl⟩:y.id∈(aa b).map Cl.id);rw[ze3,ax] at l1 l2;show aV (aa a) (aa b) x.id y.id≤_;unfold aV;rw[ax];have h3:(lbI ((aa a).map Cl.id) x.id+1) * b.length≤a.length * b.length:=Nat.mul_le_mul_right _ l1;rw[Nat.succ_mul] at h3;have h4:((lbI ((aa a).map Cl.id) x.id * b.length:Nat):Int)=(lbI ((aa a).map Cl.id) x.id:Int) * (b.length:Int):=Int.natCast_mul _ _;rw[← h4];omega
  ·exact⟨⟨by simp,List.Pairwise.nil,by simp,by simp,by simp⟩,fun c hc=>by simp at hc,by simp⟩
theorem wY:∀ n,n<7→2≤n→(ar (uk n)).2=0∧∀ c∈uk n,c.id≤90:=by decide +kernel
theorem jR:∀ (ls acc:List (List Int)) {all:List (List Int)},aU acc ls=some all→(∀ x∈ls,x.length≤2)→all.length≤acc.length+3 * ls.length
 | [],acc,all,h,_=>by cases h; simp
 | s::r,acc,all,h,hl=>by
  have hs:=hl s (by simp);have h3:(cy s).length≤s.length:=by
   unfold cy;exact zk4 (jM _ _) (by rw[e9]; exact Nat.le_refl _)
  simp only[ze5];unfold aU at h;split at h
  ·have:=jR r acc h fun x hx=>hl x (by simp[hx]);omega
  ·split at h
   ·cases h
   ·have h1:=jR r _ h fun x hx=>hl x (by simp[hx]);have h2:(dK acc (cy s)).length≤acc.length+3:=by
     unfold dK;refine zk4 (jM _ _) ?_;rw[(gI _).length_eq,ze2];have:2 ^ (cy s).length≤2 ^ 2:=Nat.pow_le_pow_right dC oM;simp[br];omega
    omega
theorem py:(ct [[0,1],[1,2],[0,2]]).length≤9:=by
 unfold ct;cases h:aU [] [[0,1],[1,2],[0,2]] with
 | none=>simp
 | some all =>
  have:=jR _ _ h dC;dsimp only;rw[ax,bn];simpa using this
theorem pP (m:Int)(ls:List (List Int))(y:Int):Rt (ot (mZ m ls y))∧∀ c∈ot (mZ m ls y),c.id≤90:=by
 have key:∀ l:List Cl,Rt l→(l.length≤45→∀ c∈l,c.id≤90)→Rt (ot l)∧∀ c∈ot l,c.id≤90:=by
  intro l h1 h2;unfold ot;split
  ·have h3:=tq (ct [[0,1],[1,2],[0,2]]) (ct [[0,1],[1,2],[0,2]]);refine⟨h3.1,fun c hc=>?_⟩;have h4:=h3.2.1 c hc;have h5:=h3.2.2;have h6:od.length≤9 * 9:=zk4 h5 (Nat.mul_le_mul py py);have h7:c.id≤od.length:=h4;omega
  ·exact⟨h1,h2 oM⟩
 have hS:∀ ls,Rt (ot (ct ls))∧∀ c∈ot (ct ls),c.id≤90:=fun ls=>key _ (yQ ls).1 fun hl c hc=>by have:=(yQ ls).2 c hc; omega
 have hP:∀ a b,Rt (ot (bZ a b))∧∀ c∈ot (bZ a b),c.id≤90:=fun a b=>key _ (tq a b).1 fun hl c hc=>by have:=(tq a b).2.1 c hc; omega
 have h5:=bU y 5 dC dC;unfold mZ
 repeat' split
 ·exact hS _
 ·exact hP _ _
 ·have h6:=wY (2+bA y 5).toNat oM oM;have h7:=jU h6.1;rw[show aa (uk (2+bA y 5).toNat)=uk (2+bA y 5).toNat from il _] at h7;exact key _ h7 fun _=>h6.2
 ·exact hP _ _
 ·exact hS _
 ·exact hS _
theorem DA:∀ k∈[1,3,5],∀ a,a<91→∀ b,b<91→dH (a:Nat) k=dH (b:Nat) k→a=b:=by decide +kernel
theorem Dz:∀ k∈[1,3,5],∀ a,a<91→0<a→0<dH (a:Nat) k:=by decide +kernel
theorem lB (kd:Int)(ls:List (List Int))(y:Int):Rt (mX kd ls y):=by
 obtain ⟨h1,h2⟩:=pP (bA kd 8) ls y;have hk:rk y∈[(1:Int),3,5]:=by
  have:=bU (IntKind.i64.wrap (y.tdiv 7)) 3 dC dC;unfold rk;generalize bA (IntKind.i64.wrap (y.tdiv 7)) 3=q at *
  rcases (by omega:q=0∨q=1∨q=2) with rfl | rfl | rfl <;> decide
 refine zU h1 ⟨fun a ha b hb e=>?_,fun a ha=>?_⟩ _
 ·have p1:=h1.pos a ha;have p2:=h1.pos b hb;have q1:=h2 a ha;have q2:=h2 b hb;have e1:((a.id.toNat:Nat):Int)=a.id:=Int.toNat_of_nonneg oM;have e2:((b.id.toNat:Nat):Int)=b.id:=Int.toNat_of_nonneg oM;have:=DA _ hk a.id.toNat oM b.id.toNat oM (by rw[e1,e2]; exact e);have hid:a.id=b.id:=oM;have f1:=h1.find ha;have f2:=h1.find hb;rw[hid,f2] at f1;injection f1 with f1
  exact f1.symm
 ·have p1:=h1.pos a ha;have q1:=h2 a ha;have e1:((a.id.toNat:Nat):Int)=a.id:=Int.toNat_of_nonneg oM;have:=Dz _ hk a.id.toNat oM oM;rw[e1] at this;exact this
theorem Cu:∀ k∈[1,3,5],∀ a,a<91→dH (a:Nat) k≤300:=by decide +kernel
theorem BO (kd:Int)(ls:List (List Int))(y:Int):∀ c∈mX kd ls y,bI c.id:=by
 intro c hc;have h0:=(lB kd ls y).pos c hc;obtain ⟨h1,h2⟩:=pP (bA kd 8) ls y;have hk:rk y∈[(1:Int),3,5]:=by
  have:=bU (IntKind.i64.wrap (y.tdiv 7)) 3 dC dC;unfold rk;generalize bA (IntKind.i64.wrap (y.tdiv 7)) 3=q at *
  rcases (by omega:q=0∨q=1∨q=2) with rfl | rfl | rfl <;> decide
 obtain ⟨a,ha,rfl⟩:=mR (AW y) hc;have p1:=h1.pos a ha;have q1:=h2 a ha;have e1:((a.id.toNat:Nat):Int)=a.id:=Int.toNat_of_nonneg oM;have:=Cu _ hk a.id.toNat oM;rw[e1] at this;have h3:(bo (aI (rk y) (AW y) a)).id=dH a.id (rk y):=rfl;rw[h3] at h0 ⊢;unfold bI;omega
theorem BP (kd:Int)(ls:List (List Int))(y:Int):(mX kd ls y).length≤90:=by
 obtain ⟨h1,h2⟩:=pP (bA kd 8) ls y;have hl:(mX kd ls y).length=(ot (mZ (bA kd 8) ls y)).length:=by
  unfold mX D7;rw[ax,ze3]
 rw[hl];generalize ot (mZ (bA kd 8) ls y)=B at *;have hnd:(B.map Cl.id).Nodup:=by
  rw[List.nodup_iff_pairwise_ne,zk1];exact h1.asc.imp fun h=>by omega
 have:=qq hnd (m:=(List.range 90).map fun k=>((k:Nat):Int)+1) (fun x hx=>by
  obtain ⟨c,hc,rfl⟩:=ze8.1 hx;have p1:=h1.pos c hc;have p2:=h2 c hc;exact ze8.2 ⟨(c.id - 1).toNat,List.mem_range.2 oM,oM⟩)
 simpa using this
def part (l:List Cl)(p:Int→Bool):List Cl:=l.filter fun c=>p c.id
def d4 (l:List Cl)(p:Int→Bool):Prop:=∀ c∈l,p c.id=true→∀ x∈c.sides,p x.cell=true
theorem fy {l:List Cl}{p:Int→Bool}{id:Int}(hp:p id=true):ab (part l p) id=ab l id:=by
 unfold ab part;induction l with
 | nil=>rfl
 | cons c r ih =>
  rw[zi4];by_cases hc:c.id=id
  ·rw[zf7 (by rw[hc]; exact hp)];simp[hc]
  ·split
   ·simp only[zi3,hc,decide_false];exact ih
   ·simp only[zi3,hc,decide_false];exact ih
theorem er {l:List Cl}{p:Int→Bool}{id:Int}(hp:p id=false):ab (part l p) id=none:=by
 unfold ab part;rw[List.find?_eq_none];intro c hc;have:=(zh1.1 hc).2;simp;intro e;rw[e,hp] at this;cases this
theorem eJ {l:List Cl}(h:Rt l){p:Int→Bool}(hp:d4 l p):Rt (part l p):=by
 have hsub:(part l p).Sublist l:=List.filter_sublist;refine⟨zk4 hsub.length_le h.few,h.asc.sublist hsub,fun x hx=>h.pos x (hsub.subset hx),fun c hc=>?_,fun c hc hd=>?_⟩
 ·obtain ⟨hc1,hc2⟩:=zh1.1 hc;have hf:=h.form c hc1;exact⟨hf.dim,hf.cnt,fun x hx=>by rw[fy (hp c hc1 hc2 x hx)]; exact hf.found x hx,hf.asc,hf.sg,hf.one⟩
 ·obtain ⟨hc1,hc2⟩:=zh1.1 hc;rw[← h.around c hc1 hd,fz,fz];congr 1;unfold jz;refine zc7 fun x hx=>?_;unfold aq;rw[fy (hp c hc1 hc2 x hx)]
theorem oX {l F:List Cl}(hF:Rt F)(hp:l.Perm F):aa l=F:=by
 have hc:=hF.canon;have hs:sortBy Cl.id l=F:=by
  refine (a6 (hF.asc.imp fun h=>by omega) ⟨hp.length_eq.symm,fun k=>?_⟩).symm;have h1:(l.filter fun a=>a.id == k).Perm (F.filter fun a=>a.id == k):=hp.filter _;have h3:(F.filter fun a=>a.id == k).Pairwise fun a b=>a.id<b.id:=hF.asc.sublist List.filter_sublist;have h5:∀ a∈F.filter (fun a=>a.id == k),a.id=k:=fun a ha=>by simpa using (zh1.1 ha).2
  generalize F.filter (fun a=>a.id == k)=m at *
  match m,h1,h3,h5 with
  | [],h1,_,_=>exact (List.perm_nil.1 h1).symm
  | [a],h1,_,_=>exact (List.perm_singleton.1 h1).symm
  | a::b::r,_,h3,h5 =>
   have h4:=(zj9.1 h3).1 b (by simp);have h6:=h5 a (by simp);have h7:=h5 b (by simp);omega
 unfold aa at hc ⊢;rw[hs];have hs2:sortBy Cl.id F=F:=(a6 (key:=Cl.id) (hF.asc.imp fun h=>by omega) (aw.refl F)).symm;rw[hs2] at hc;exact hc
theorem Rt.nodup {l:List Cl}(h:Rt l):l.Nodup:=h.asc.imp fun h e=>by subst e; omega
theorem Rt.same {l:List Cl}(h:Rt l){a b:Cl}(ha:a∈l)(hb:b∈l)(e:a.id=b.id):a=b:=by
 have f1:=h.find ha;have f2:=h.find hb;rw[e,f2] at f1;injection f1 with f1
 exact f1.symm
end Go.Proofs.YtbbppeihhkhkcaaGreatDoor
