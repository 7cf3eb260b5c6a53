/- 9 -/
import Derived.Test.YtcfkpajlakidbaaGreatDoorTb08
import Derived.Test.YtcfkpajlakidbaaGreatDoorTb05
import Derived.Test.YtcfkpajlakidbaaGreatDoorRows
import Derived.WalkKit
import Derived.ProofKit
import Derived.OpenShut
import Derived.ShutString
import Derived.ChangeOld
import Derived.Below
import Derived.Deep.Slices
import Derived.Lib.SmallJoins
import Derived.Laws.IdiomArrays
import Derived.Test.YtcfkpajlakidbaaGreatDoorTb06
import Derived.Test.YtcfkpajlakidbaaGreatDoorTb03
import Derived.Test.YtcfkpajlakidbaaGreatDoorTb04
import Derived.Test.YtcfkpajlakidbaaGreatDoorTb07
import Derived.SizedLaws
set_option linter.unusedSimpArgs false
set_option linter.unusedVariables false
namespace Go.Proofs.YtcfkpajlakidbaaGreatDoor
open _root_.Go.Proofs.Tryz _root_.Go.Proofs.YtcfkpajlakidbaaGreatDoor.Tryz
open Go Go.Sy Go.Pl Go.Proofs
set_option maxRecDepth 100000
set_option maxHeartbeats 2000000
theorem au.eraseIdx {α β:Type}{R:α→β→Prop}:∀ {l:List α} {rs:List β} (k:Nat),au R l rs→au R (l.eraseIdx k) (rs.eraseIdx k)
 | [],[],_,_=>trivial
 | _::_,_::_,0,h=>h.2
 | _::_,_::_,k+1,h=>⟨h.1,au.eraseIdx k h.2⟩
 | [],_::_,_,h=>h.elim
 | _::_,[],_,h=>h.elim
def jV (l:List aj)(i:Nat):List aj:=(l.take i).map AZ++l.drop i
theorem my (l:List aj)(i:Nat)(h:i≤l.length):(jV l i).length=l.length:=by simp[jV]; omega
theorem z7 {l:List aj}{i:Nat}(h:i<l.length):(jV l i)[i]?=some l[i]:=by
 unfold jV;have h1:l.drop i=l[i]::l.drop (i+1):=zg4 h;rw[h1];exact yr (by simp; omega)
theorem z6 {l:List aj}{i:Nat}(h:i<l.length):(jV l i).set i (AZ l[i])=jV l (i+1):=by
 unfold jV;have h1:l.drop i=l[i]::l.drop (i+1):=zg4 h;have h2:l.take (i+1)=l.take i++[l[i]]:=tS h;rw[h2,h1,zg3,uq (by simp; omega),zg6];rfl
theorem tm (E:World)(g:PH)(s:Own)(v:Value)(l:List Cl)(q0 q1 q2:Int)(hv:ao g v l)(hf:cU l) :
  Ctr Tryz.prog E 8 #[.agg #[v],.agg #[vi q0,vi q1,vi q2]] g s (fun r g' s'=>s=s'∧Le g g'∧∃ x,r = .agg #[x]∧ao g' x (jk l q0 q1 q2)):=by
 obtain ⟨p,c,rfl⟩:=hv.form;have hll:=hf.1;refine za9 (args:=[.agg #[.slice p l.length c],.agg #[vi q0,vi q1,vi q2]]) func8 I ntmps8 (bE I) ?_;refine rZ (bW (bO I) fun b2=>?_);refine bW (bO I) fun b3=>?_;refine bW (aL zk8) fun b4=>?_;refine tZ (rZ (lK (qV 2 aY ar I I I) (lW (cL call26 I (BW E g _ _ l hv hf)) ?_)));rintro _ _ _ ⟨rfl,u,rs,rfl,hO,rfl⟩;have el:=hO.length;refine zd1 fun ⟨w0,hw0⟩=>?_;obtain ⟨q,d,rfl⟩:=ag (i:=0) hw0 rfl;clear hw0 w0;refine bW (aL zk8) fun b5=>?_;refine oZ (sK 0 ar I I I I I sB) ?_;refine tZ (sQ (sQ ?_));refine SC.to (fun w hw=>hw) (g':=g) (s':=pt b5 (.cells #[.slice q rs.length d] 31 (0,0))::rowA encCell 64 (.slice q rs.length d) rs::(jB l rs++(pt b4 (.cells #[.slice none 0 0] 31 (0,0))::pt b3 (.cells #[vi q0,vi q1,vi q2] 26 (0,0))::pt b2 (.cells #[.slice p l.length c] 31 (0,0))::s))) ?_;refine rG (lU (fA cH I bG I) (lK (qL (v:=.slice q rs.length d) dg I (cO 0 I I)) (lU (eN az I) (yE I (tZ ?_)))));refine iP I (fun h0=>?_) (fun h0=>?_)
 ·have hl0:l=[]:=zf2 oM;subst hl0;have hr0:rs=[]:=zf2 oM;subst hr0;refine sQ ?_;refine SC.to (fun w hw=>hw) (g':=g) (s':=pt b5 (.cells #[.slice q 0 d] 31 (0,0))::rowA encCell 64 (.slice q 0 d) []::(pt b4 (.cells #[.slice none 0 0] 31 (0,0))::pt b3 (.cells #[vi q0,vi q1,vi q2] 26 (0,0))::pt b2 (.cells #[.slice p ([]:List Cl).length c] 31 (0,0))::s)) ?_;refine rG (lU (iB ja zT3 I I dC dC) (lK (qL (v:=vi q1) iT3 I (cO 3 I I)) (lU (za1 I (buildD64 _)) (lW (bS sty29 I I I (ab ⟨I,trivial⟩) dC) ?_))));rintro _ _ _ ⟨b21,rfl,rfl,rfl⟩;refine zb3 fun g1 hle1 hb21=>?_;refine lU (za1 I (build31 _ I)) (oZ (sK 2 ar I I I I I sB) ?_);refine tZ (rE (tR ?_));exact ST.retCD 2 s (.inl I) results8 I aY ar I I uR ⟨I,hle1,_,I,[⟨q1,0,⟨none,0,0⟩⟩],SlA.lit hb21 I I,⟨I,I,zb8 _ _⟩,trivial⟩
 ·have hpos:0<l.length:=oM;obtain ⟨hk1,hk2⟩:=ku q1 l.length hpos oM;have hsp0:jk l q0 q1 q2=rH (aI q0 13) l (aI q1 l.length).toNat (di l q1) q2 (dI (di l q1) q2):=by unfold jk; rw[zf7 oM]
  rw[hsp0];obtain ⟨A,x,B,RA,rx,RB,hl,hr,hA,hRA,hOA,hOx,hOB⟩:=au.split hO hk2;have hpx:di l q1=x:=by
   unfold di;rw[zg8,hl] at *;rw[yr hA];rfl
  rw[hpx];have hmk:aI q1 (rs.length:Int)=(((aI q1 l.length).toNat:Nat):Int):=by rw[← el]; exact hk1
  generalize (aI q1 l.length).toNat=k at *;obtain ⟨xi,xd,xp,xn,xc⟩:=rx;obtain ⟨e1,e2,e3⟩:=hOx;dsimp only at e1 e2 e3;subst e1;subst e2;subst e3;have hgr:rs[k]?=some (⟨x.id,x.dim,⟨xp,x.sides.length,xc⟩⟩:Rc):=by rw[hr]; exact yr hRA
  have hkr:k<rs.length:=oM;have hxl:x.sides.length<1099511627776:=hf.2 x (by rw[hl]; simp);refine SC.freezeBut' hl hr hOA hOB fun g1 hle1 hAR hBR=>?_;refine zd2 fun ⟨w0,hw0⟩=>?_;obtain ⟨bu,cap,hbu⟩:=bh (i:=0) hw0 rfl oM;obtain ⟨rfl,rfl⟩:q=some ⟨bu,0,none⟩∧d=cap:=by injection hbu with h1 _ h2; exact⟨h1,h2⟩
  clear hw0 w0 hbu;have hdc:d=d:=rfl;refine SC.to (fun w hw=>hw) (g':=g1) (s':=rowA encCell 64 (.slice (some ⟨bu,0,none⟩) rs.length d) rs::rowA encSide 67 (.slice xp x.sides.length xc) x.sides::pt b5 (.cells #[(.slice (some ⟨bu,0,none⟩) rs.length d)] 31 (0,0))::pt b4 (.cells #[.slice none 0 0] 31 (0,0))::pt b3 (.cells #[vi q0,vi q1,vi q2] 26 (0,0))::pt b2 (.cells #[.slice p l.length c] 31 (0,0))::s) ?_;obtain ⟨cap,hcap⟩:∃ cap,cap=d:=⟨_,rfl⟩;rw[← hcap];have hfin:∀ g' x' r',Le g1 g'→aq g' x' r'→au (aq g') (l.set k x') (rs.set k r'):=fun g' x' r' hle hx'=>by
   rw[hl,hr,uq hA,uq hRA];exact (hAR.mono fun _ _=>aq.mono hle).append ⟨hx',hBR.mono fun _ _=>aq.mono hle⟩
  have hfin0:∀ g' x',Le g1 g'→aq g' x' (⟨x.id,x.dim,⟨xp,x.sides.length,xc⟩⟩:Rc)→au (aq g') (l.set k x') rs:=fun g' x' hle hx'=>by
   rw[hl,hr,uq hA];exact (hAR.mono fun _ _=>aq.mono hle).append ⟨hx',hBR.mono fun _ _=>aq.mono hle⟩
  have hfinA:∀ g',Le g1 g'→aq g' x (⟨x.id,x.dim,⟨xp,x.sides.length,xc⟩⟩:Rc)→au (aq g') l rs:=fun g' hle hx'=>by
   rw[hl,hr];exact (hAR.mono fun _ _=>aq.mono hle).append ⟨hx',hBR.mono fun _ _=>aq.mono hle⟩
  have hpick:∀ y:Int,∃ (kk:Nat) (yi yd:Int) (yp:Option Addr) (yc:Nat),aI y (rs.length:Int)=((kk:Nat):Int)∧kk<rs.length∧rs[kk]?=some ⟨yi,yd,⟨yp,(di l y).sides.length,yc⟩⟩∧yi=(di l y).id∧(di l y).sides.length<1099511627776 ∧
    (((di l y)=x∧yp=xp∧yc=xc)∨SlA encSide g1 (.slice yp (di l y).sides.length yc) (di l y).sides):=fun y=>by
   obtain ⟨h1,h2⟩:=ku y l.length hpos oM;have hg:l[(aI y l.length).toNat]?=some (di l y):=by
    unfold di;rw[zg8,gE h2];rfl
   rw[el] at h1;refine⟨(aI y l.length).toNat,?_⟩;rw[el] at *;generalize (aI y rs.length).toNat=kk at *;generalize di l y=cy at *;have hm:cy∈l:=zf9 hg;obtain ⟨ry,hry⟩:∃ ry,rs[kk]?=some ry:=⟨_,gE h2⟩;have hoy:=hO.get hg hry;obtain ⟨yi,yd,yp,yn,yc⟩:=ry;obtain ⟨f1,f2,f3⟩:=hoy;dsimp only at f1 f2 f3;subst f3;refine⟨yi,yd,yp,yc,h1,h2,hry,f1,hf.2 _ hm,?_⟩;rw[hl] at hg;rw[hr] at hry;by_cases hlt:kk<k
   ·rw[zg9 oM] at hg hry;exact .inr (hAR.get hg hry).2.2
   ·rw[zh1 oM] at hg hry;rw[hA] at hg;rw[hRA] at hry;cases hd:kk - k with
    | zero =>
     rw[hd] at hg hry;simp at hg hry;exact .inl ⟨hg.symm,hry.2.2.1.symm,hry.2.2.2.2.symm⟩
    | succ t =>
     rw[hd] at hg hry;simp at hg hry;exact .inr (hBR.get hg hry).2.2
  clear hO hpx hsp0 hdc;have hj1:0<x.sides.length→aI q2 (x.sides.length:Int)=((((dI x q2):Nat)):Int)∧(dI x q2)<x.sides.length:=fun h=>by
   unfold dI;rw[zf8 h];exact ku q2 x.sides.length h oM
  refine kP (tN (rZ (lU (iB ja zT3 I I dC dC) (lK (qL (v:=vi q1) iT3 I (cO 4 I I)) (lU (fA cH I bG I) (lK (qL (v:=(.slice (some ⟨bu,0,none⟩) rs.length cap)) dg I (cO 2 I I)) (lU (eN az I) (lW (cL dD I (ah E g1 _ q1 rs.length oM)) ?_))))))));rintro _ _ _ ⟨rfl,rfl,rfl⟩;rw[hmk];refine aT I (rZ (lU (fA cH I bG I) (lK (qL (v:=(.slice (some ⟨bu,0,none⟩) rs.length cap)) dg I (cO 2 I I)) (lM I (lU (iA az aw I I I oM sL) (aT I (rZ (lU (iB ja zT3 I I dC dC) (lK (qL (v:=vi q2) iT3 I (cO 4 I I)) (aT I (rZ (aT I ?_))))))))))));refine SC.cut (ι:=Unit) (fun _=>[(2,pp b2 0),(3,pp b3 0),(4,pp b4 0),(5,pp b5 0),(6,vi (k:Nat)),(7,mF (.slice (some ⟨bu,0,none⟩) rs.length cap) (k * 3)),(8,vi q2),(9,vi ((dI x q2):Nat))]) (fun _=>g1) (fun _=>rowA encCell 64 (.slice (some ⟨bu,0,none⟩) rs.length cap) rs::rowA encSide 67 (.slice xp x.sides.length xc) x.sides::pt b5 (.cells #[(.slice (some ⟨bu,0,none⟩) rs.length cap)] 31 (0,0))::pt b4 (.cells #[.slice none 0 0] 31 (0,0))::pt b3 (.cells #[vi q0,vi q1,vi q2] 26 (0,0))::pt b2 (.cells #[.slice p l.length c] 31 (0,0))::s) (fun _=>True) ?_ ?_
  ·refine sW I (lU (nC I) (lU (fA am I aX I) (lK (aZ (e:=encCell) (a:=(⟨x.id,x.dim,⟨xp,x.sides.length,xc⟩⟩:Rc)) (j:=k) (o:=2) (u:=(.slice xp x.sides.length xc)) bH I (zb5 0 I) hgr I) (lU (eN bF I) (lU (gR I I) (tZ ?_))))));refine iP I (fun hsp=>?_) (fun hsp=>?_)
   ·refine rG (lM I (lM I (lU (nC I) (lU (fA am I aX I) (lK (aZ (e:=encCell) (a:=(⟨x.id,x.dim,⟨xp,x.sides.length,xc⟩⟩:Rc)) (j:=k) (o:=2) (u:=(.slice xp x.sides.length xc)) bH I (zb5 0 I) hgr I) (lU (eN bF I) (lW (cL dD I (ah E g1 _ q2 x.sides.length oM)) ?_)))))));rintro _ _ _ ⟨rfl,rfl,rfl⟩;rw[(hj1 oM).1];refine lA I (nL ?_);exact za7 () sB I I trivial
   ·have hj0:(dI x q2)=0:=by unfold dI; rw[zf7 oM]
    rw[hj0];refine kP ?_;exact za7 () sB I I trivial
  rintro ⟨⟩ -;try dsimp only
  have hm13:=aB q0 13 dC dC;have hj2:∀ h:0<x.sides.length,x.sides[(dI x q2)]?=some (x.sides.getD (dI x q2) tV):=fun h=>by
   rw[zg8,gE (hj1 h).2]; rfl
  have hnil:¬ (x.sides.length:Int)>0→x.sides=[]:=fun h=>zf2 oM;refine SC.cut (ι:=PH×Value) (fun _=>[(2,pp b2 0),(4,pp b4 0),(5,pp b5 0)]) (fun i=>i.1) (fun i=>pt b5 (.cells #[i.2] 31 (0,0))::pt b4 (.cells #[.slice none 0 0] 31 (0,0))::pt b3 (.cells #[vi q0,vi q1,vi q2] 26 (0,0))::pt b2 (.cells #[.slice p l.length c] 31 (0,0))::s) (fun i=>Le g1 i.1∧ao i.1 i.2 (rH (aI q0 13) l k x q2 (dI x q2))) ?_ ?_
  ·rcases (by omega:aI q0 13=0∨aI q0 13=1∨aI q0 13=2∨aI q0 13=3∨aI q0 13=4∨aI q0 13=5∨aI q0 13=6∨aI q0 13=7∨aI q0 13=8∨aI q0 13=9∨aI q0 13=10∨aI q0 13=11∨aI q0 13=12) with hm | hm | hm | hm | hm | hm | hm | hm | hm | hm | hm | hm | hm
   ·have hr9:=aB q2 9 dC dC;refine rZ (lU (iB ja zT3 I I dC dC) (lK (qL (v:=vi q0) iT3 I (cO 4 I I)) (lW (cL dD I (ah E g1 _ q0 13 dC)) ?_)));rintro _ _ _ ⟨rfl,rfl,rfl⟩;rw[hm];refine tZ (bK (rZ (yE I (aT I (cT I (rG (lM I (lM I (lW (cL dD I (ah E g1 _ q2 9 dC)) ?_)))))))));rintro _ _ _ ⟨rfl,rfl,rfl⟩;refine lU (sU I I oM) (lU (nC I) (lU (fA am I zT3 I) (oZ (SO.partA (e:=encCell) (a:=(⟨x.id,x.dim,⟨xp,x.sides.length,xc⟩⟩:Rc)) (j:=k) (o:=0) 0 ⟨aI q2 9 - 1,x.dim,⟨xp,x.sides.length,xc⟩⟩ zT3 I I I hgr I I dC I) (nL (bN (fT fun ga hlea hsa=>?_))))));refine fT fun gb hleb hsb=>?_;exact za7 (gb,(.slice (some ⟨bu,0,none⟩) rs.length cap)) sB I I ⟨hlea.trans hleb,_,za3 (e:=encCell) hsa hleb,hfin gb _ _ (hlea.trans hleb) ⟨I,I,hsb⟩⟩
   ·have hr12:=aB q2 12 dC dC;refine rZ (lU (iB ja zT3 I I dC dC) (lK (qL (v:=vi q0) iT3 I (cO 4 I I)) (lW (cL dD I (ah E g1 _ q0 13 dC)) ?_)));rintro _ _ _ ⟨rfl,rfl,rfl⟩;rw[hm];refine tZ (bK (rZ (yE I (aT I (cF I (rZ (yE I (aT I (cT I (rG (lM I (lM I (lW (cL dD I (ah E g1 _ q2 12 dC)) ?_)))))))))))));rintro _ _ _ ⟨rfl,rfl,rfl⟩;refine lU (sU I I oM) (lU (nC I) (lU (fA am I zT3 I) (oZ (SO.partA (e:=encCell) (a:=(⟨x.id,x.dim,⟨xp,x.sides.length,xc⟩⟩:Rc)) (j:=k) (o:=1) 0 ⟨x.id,aI q2 12 - 1,⟨xp,x.sides.length,xc⟩⟩ zT3 I I I hgr I I dC I) (nL (bN (fT fun ga hlea hsa=>?_))))));refine fT fun gb hleb hsb=>?_;exact za7 (gb,(.slice (some ⟨bu,0,none⟩) rs.length cap)) sB I I ⟨hlea.trans hleb,_,za3 (e:=encCell) hsa hleb,hfin gb _ _ (hlea.trans hleb) ⟨I,I,hsb⟩⟩
   ·refine zd2 fun ⟨w0,hw0⟩=>?_;have hcapr:rs.length≤cap:=(by obtain ⟨_,_,_,h1,h2⟩:=qh (i:=0) hw0 rfl (by omega:0<rs.length); omega);clear hw0 w0;refine rZ (lU (iB ja zT3 I I dC dC) (lK (qL (v:=vi q0) iT3 I (cO 4 I I)) (lW (cL dD I (ah E g1 _ q0 13 dC)) ?_)));rintro _ _ _ ⟨rfl,rfl,rfl⟩;rw[hm];refine tZ (bK (rZ (yE I (aT I (cF I (rZ (yE I (aT I (cF I (rZ (yE I (aT I (cT I ?_)))))))))))));refine dW [9,10,11] [(0,2),(1,1),(2,2),(3,2),(4,2),(5,1),(6,2),(7,2),(8,2),(9,0),(10,0),(11,0)] ze1 kR ?_;refine pU I (fA cH I bG I) (pK I (qL (v:=(.slice (some ⟨bu,0,none⟩) rs.length cap)) dg I (cO 2 I I)) (yM I (pU I (SU.sliceH az aw I I oM oM) (pU I (fA cH I bG I) (pK I (qL (v:=(.slice (some ⟨bu,0,none⟩) rs.length cap)) dg I (cO 2 I I)) (yM I (pU I (aD I I oM) (pU I (SU.eq (v':=sliced (some ⟨bu,0,none⟩) (k+1) rs.length cap 3) (SU.sliceL az aw I I oM oM) (by rw[show ((k:Int)+1).toNat=k+1 by omega])) ?_))))))));refine SP.o I (SO.cutA (j:=k) (n:=rs.length) (c:=cap) (p:=some ⟨bu,0,none⟩) (e:=encCell) 0 sty29 I I I I hkr) dC (.inl dC) ?_;rintro _ _ _ ⟨rfl,rfl,rfl⟩;refine oU I (fA cH I bG I) dC (.inl dC) (SP.on I (sK 2 bG I I I I I sB) (.inl dC) ?_);rintro _ _ _ ⟨rfl,rfl⟩;refine pN (bN (fT fun ga hlea hsa=>?_));refine fT fun gb hleb hsb=>?_;exact za7 (gb,(.slice (some ⟨bu,0,none⟩) (rs.length - 1) cap)) sB I I ⟨hlea.trans hleb,_,za3 (e:=encCell) hsa hleb,au.eraseIdx k (hfinA gb (hlea.trans hleb) ⟨I,I,hsb⟩)⟩
   ·refine rZ (lU (iB ja zT3 I I dC dC) (lK (qL (v:=vi q0) iT3 I (cO 4 I I)) (lW (cL dD I (ah E g1 _ q0 13 dC)) ?_)));rintro _ _ _ ⟨rfl,rfl,rfl⟩;rw[hm];refine tZ (bK (rZ (yE I (aT I (cF I (rZ (yE I (aT I (cF I (rZ (yE I (aT I (cF I (rZ (yE I (aT I ?_))))))))))))))));refine cT I (sW I (lU (nC I) (lU (fA am I aX I) (lK (aZ (e:=encCell) (a:=(⟨x.id,x.dim,⟨xp,x.sides.length,xc⟩⟩:Rc)) (j:=k) (o:=2) (u:=(.slice xp x.sides.length xc)) bH I (zb5 0 I) hgr I) (lU (eN bF I) (lU (gR I I) (tZ ?_)))))));refine iP I (fun hsl=>?_) (fun hsl=>?_)
    ·refine zd2 fun ⟨w0,hw0⟩=>?_;obtain ⟨bx,cx,hbx⟩:=bh (i:=1) hw0 rfl oM;obtain ⟨rfl,rfl⟩:xp=some ⟨bx,0,none⟩∧xc=cx:=by injection hbx with h1 _ h2; exact⟨h1,h2⟩
     clear hw0 w0 hbx;obtain ⟨hj,hjl⟩:=hj1 oM;have hgz:=hj2 oM;have hr4:=aB q2 4 dC dC;refine dW [10] [(0,2),(1,2),(2,2),(3,1),(4,2),(5,2),(6,0),(7,2),(8,2),(9,2),(10,0)] ze1 kR ?_;refine yM I (pU I (nC I) (pU I (fA am I aX I) (pK I (aZ (e:=encCell) (a:=(⟨x.id,x.dim,⟨some ⟨bx,0,none⟩,x.sides.length,xc⟩⟩:Rc)) (j:=k) (o:=2) (u:=(.slice (some ⟨bx,0,none⟩) x.sides.length xc)) bH I (zb5 0 I) hgr I) (yM I (yM I (SP.o I (cL dD I (ah E g1 _ q2 4 dC)) dC (.inr iR) ?_))))));rintro _ _ _ ⟨rfl,rfl,rfl⟩;refine pU I (sU I I oM) (pU I (iA bF bJ I I I oM sL) (pU I (fC de I zT3 I I) (SP.on I (SO.partA (e:=encSide) (a:=(x.sides.getD (dI x q2) tV)) (j:=(dI x q2)) (o:=1) 1 ⟨(x.sides.getD (dI x q2) tV).cell,aI q2 4 - 2⟩ zT3 I I I hgz I I dC I) (.inl dC) ?_)));rintro _ _ _ ⟨rfl,rfl⟩;refine pN (bN (fT fun ga hlea hsa=>?_));refine fT fun gb hleb hsb=>?_;exact za7 (gb,(.slice (some ⟨bu,0,none⟩) rs.length cap)) sB I I ⟨hlea.trans hleb,_,za3 (e:=encCell) hsa hleb,hfin0 gb _ (hlea.trans hleb) ⟨I,I,hsb⟩⟩
    ·have hsn:=hnil hsl;refine kP (bN (fT fun ga hlea hsa=>?_));refine fT fun gb hleb hsb=>?_;exact za7 (gb,(.slice (some ⟨bu,0,none⟩) rs.length cap)) sB I I ⟨hlea.trans hleb,_,za3 (e:=encCell) hsa hleb,hfin0 gb _ (hlea.trans hleb) ⟨I,I,by rw[hsn] at hsb ⊢; exact hsb⟩⟩
   ·refine rZ (lU (iB ja zT3 I I dC dC) (lK (qL (v:=vi q0) iT3 I (cO 4 I I)) (lW (cL dD I (ah E g1 _ q0 13 dC)) ?_)));rintro _ _ _ ⟨rfl,rfl,rfl⟩;rw[hm];refine tZ (bK (rZ (yE I (aT I (cF I (rZ (yE I (aT I (cF I (rZ (yE I (aT I (cF I (rZ (yE I (aT I ?_))))))))))))))));refine cF I (rZ (yE I (aT I (cT I (sW I (lU (nC I) (lU (fA am I aX I) (lK (aZ (e:=encCell) (a:=(⟨x.id,x.dim,⟨xp,x.sides.length,xc⟩⟩:Rc)) (j:=k) (o:=2) (u:=(.slice xp x.sides.length xc)) bH I (zb5 0 I) hgr I) (lU (eN bF I) (lU (gR I I) (tZ ?_)))))))))));refine iP I (fun hsl=>?_) (fun hsl=>?_)
    ·refine zd2 fun ⟨w0,hw0⟩=>?_;obtain ⟨bx,cx,hbx⟩:=bh (i:=1) hw0 rfl oM;obtain ⟨rfl,rfl⟩:xp=some ⟨bx,0,none⟩∧xc=cx:=by injection hbx with h1 _ h2; exact⟨h1,h2⟩
     clear hw0 w0 hbx;obtain ⟨hj,hjl⟩:=hj1 oM;have hgz:=hj2 oM;refine dW [16] [(0,2),(1,2),(2,2),(3,1),(4,2),(5,2),(6,2),(7,2),(8,1),(9,2),(10,2),(11,2),(12,1),(13,2),(14,2),(15,2),(16,0)] ze1 kR ?_;refine yM I (pU I (nC I) (pU I (fA am I aX I) (pK I (aZ (e:=encCell) (a:=(⟨x.id,x.dim,⟨some ⟨bx,0,none⟩,x.sides.length,xc⟩⟩:Rc)) (j:=k) (o:=2) (u:=(.slice (some ⟨bx,0,none⟩) x.sides.length xc)) bH I (zb5 0 I) hgr I) (yM I (yM I (pU I (nC I) (pU I (fA am I aX I) (pK I (aZ (e:=encCell) (a:=(⟨x.id,x.dim,⟨some ⟨bx,0,none⟩,x.sides.length,xc⟩⟩:Rc)) (j:=k) (o:=2) (u:=(.slice (some ⟨bx,0,none⟩) x.sides.length xc)) bH I (zb5 0 I) hgr I) (yM I (pU I (iA bF bJ I I I oM sL) (pU I (fC de I zT3 I I) (pK I (aZ (e:=encSide) (a:=(x.sides.getD (dI x q2) tV)) (j:=(dI x q2)) (o:=1) (u:=vi (x.sides.getD (dI x q2) tV).sign) iT3 I (zb5 1 I) hgz I) (pU I (SU.neg I) (pU I (iA bF bJ I I I oM sL) (pU I (fC de I zT3 I I) (SP.on I (SO.partA (e:=encSide) (a:=(x.sides.getD (dI x q2) tV)) (j:=(dI x q2)) (o:=1) 1 (AZ (x.sides.getD (dI x q2) tV)) zT3 I I I hgz I I dC I) (.inl dC) ?_))))))))))))))));rintro _ _ _ ⟨rfl,rfl⟩;refine pN (bN (fT fun ga hlea hsa=>?_));refine fT fun gb hleb hsb=>?_;exact za7 (gb,(.slice (some ⟨bu,0,none⟩) rs.length cap)) sB I I ⟨hlea.trans hleb,_,za3 (e:=encCell) hsa hleb,hfin0 gb _ (hlea.trans hleb) ⟨I,I,hsb⟩⟩
    ·have hsn:=hnil hsl;refine kP (bN (fT fun ga hlea hsa=>?_));refine fT fun gb hleb hsb=>?_;exact za7 (gb,(.slice (some ⟨bu,0,none⟩) rs.length cap)) sB I I ⟨hlea.trans hleb,_,za3 (e:=encCell) hsa hleb,hfin0 gb _ (hlea.trans hleb) ⟨I,I,by rw[hsn] at hsb ⊢; exact hsb⟩⟩
   ·refine rZ (lU (iB ja zT3 I I dC dC) (lK (qL (v:=vi q0) iT3 I (cO 4 I I)) (lW (cL dD I (ah E g1 _ q0 13 dC)) ?_)));rintro _ _ _ ⟨rfl,rfl,rfl⟩;rw[hm];refine tZ (bK (rZ (yE I (aT I (cF I (rZ (yE I (aT I (cF I (rZ (yE I (aT I (cF I (rZ (yE I (aT I ?_))))))))))))))));refine cF I (rZ (yE I (aT I (cF I (rZ (yE I (aT I (cT I (sW I (lU (nC I) (lU (fA am I aX I) (lK (aZ (e:=encCell) (a:=(⟨x.id,x.dim,⟨xp,x.sides.length,xc⟩⟩:Rc)) (j:=k) (o:=2) (u:=(.slice xp x.sides.length xc)) bH I (zb5 0 I) hgr I) (lU (eN bF I) (lU (gR I I) (tZ ?_)))))))))))))));refine iP I (fun hsl=>?_) (fun hsl=>?_)
    ·refine zd2 fun ⟨w0,hw0⟩=>?_;obtain ⟨bx,cx,hbx⟩:=bh (i:=1) hw0 rfl oM;obtain ⟨rfl,rfl⟩:xp=some ⟨bx,0,none⟩∧xc=cx:=by injection hbx with h1 _ h2; exact⟨h1,h2⟩
     clear hw0 w0 hbx;obtain ⟨hj,hjl⟩:=hj1 oM;have hgz:=hj2 oM;obtain ⟨kk,yi,yd,yp,yc,hkk,hkl,hgy,hyi,_,_⟩:=hpick (IntKind.i64.wrap (q2.tdiv 3));refine dW [18] [(0,2),(1,2),(2,2),(3,1),(4,2),(5,2),(6,1),(7,2),(8,2),(9,2),(10,1),(11,2),(12,0),(13,2),(14,2),(15,1),(16,2),(17,2),(18,0)] ze1 kR ?_;refine yM I (pU I (nC I) (pU I (fA am I aX I) (pK I (aZ (e:=encCell) (a:=(⟨x.id,x.dim,⟨some ⟨bx,0,none⟩,x.sides.length,xc⟩⟩:Rc)) (j:=k) (o:=2) (u:=(.slice (some ⟨bx,0,none⟩) x.sides.length xc)) bH I (zb5 0 I) hgr I) (yM I (pU I (fA cH I bG I) (pK I (qL (v:=(.slice (some ⟨bu,0,none⟩) rs.length cap)) dg I (cO 2 I I)) (yM I (pU I (SU.quo I I dC) (pU I (fA cH I bG I) (pK I (qL (v:=(.slice (some ⟨bu,0,none⟩) rs.length cap)) dg I (cO 2 I I)) (pU I (eN az I) (SP.o I (cL dD I (ah E g1 _ _ rs.length oM)) dC (.inr iR) ?_))))))))))));rintro _ _ _ ⟨rfl,rfl,rfl⟩;rw[hkk];refine pU I (iA az aw I I I oM sL) (pU I (fC am I zT3 I I) (pK I (aZ (e:=encCell) (j:=kk) (o:=0) (u:=vi yi) iT3 I (zb5 0 I) hgy I) (pU I (iA bF bJ I I I oM sL) (pU I (fC de I zT3 I I) (SP.on I (SO.partA (e:=encSide) (a:=(x.sides.getD (dI x q2) tV)) (j:=(dI x q2)) (o:=0) 1 ⟨yi,(x.sides.getD (dI x q2) tV).sign⟩ zT3 I I I hgz I I dC I) (.inl dC) ?_)))));rintro _ _ _ ⟨rfl,rfl⟩;refine pN (bN (fT fun ga hlea hsa=>?_));refine fT fun gb hleb hsb=>?_;rw[hyi] at hsb;exact za7 (gb,(.slice (some ⟨bu,0,none⟩) rs.length cap)) sB I I ⟨hlea.trans hleb,_,za3 (e:=encCell) hsa hleb,hfin0 gb _ (hlea.trans hleb) ⟨I,I,hsb⟩⟩
    ·have hsn:=hnil hsl;refine kP (bN (fT fun ga hlea hsa=>?_));refine fT fun gb hleb hsb=>?_;exact za7 (gb,(.slice (some ⟨bu,0,none⟩) rs.length cap)) sB I I ⟨hlea.trans hleb,_,za3 (e:=encCell) hsa hleb,hfin0 gb _ (hlea.trans hleb) ⟨I,I,by rw[hsn] at hsb ⊢; exact hsb⟩⟩
   ·refine rZ (lU (iB ja zT3 I I dC dC) (lK (qL (v:=vi q0) iT3 I (cO 4 I I)) (lW (cL dD I (ah E g1 _ q0 13 dC)) ?_)));rintro _ _ _ ⟨rfl,rfl,rfl⟩;rw[hm];refine tZ (bK (rZ (yE I (aT I (cF I (rZ (yE I (aT I (cF I (rZ (yE I (aT I (cF I (rZ (yE I (aT I ?_))))))))))))))));refine cF I (rZ (yE I (aT I (cF I (rZ (yE I (aT I (cF I (rZ (yE I (aT I (cT I (sW I (lU (nC I) (lU (fA am I aX I) (lK (aZ (e:=encCell) (a:=(⟨x.id,x.dim,⟨xp,x.sides.length,xc⟩⟩:Rc)) (j:=k) (o:=2) (u:=(.slice xp x.sides.length xc)) bH I (zb5 0 I) hgr I) (lU (eN bF I) (lU (gR I I) ?_))))))))))))))))));refine tZ ?_;refine iP I (fun hsl=>?_) (fun hsl=>?_)
    ·obtain ⟨hj,hjl⟩:=hj1 oM;refine zd2 fun ⟨w0,hw0⟩=>?_;have hcapx:x.sides.length≤xc:=(by obtain ⟨_,_,_,h1,h2⟩:=qh (i:=1) hw0 rfl (by omega:0<x.sides.length); omega);clear hw0 w0;refine dW [14,15,16,17] [(0,2),(1,2),(2,2),(3,2),(4,1),(5,2),(6,2),(7,2),(8,2),(9,2),(10,1),(11,2),(12,2),(13,2),(14,0),(15,0),(16,0),(17,0)] ze1 kR ?_;refine yM I (yM I (pU I (nC I) (pU I (fA am I aX I) (pK I (aZ (e:=encCell) (a:=(⟨x.id,x.dim,⟨xp,x.sides.length,xc⟩⟩:Rc)) (j:=k) (o:=2) (u:=(.slice xp x.sides.length xc)) bH I (zb5 0 I) hgr I) (yM I (pU I (SU.sliceH bF bJ I I oM oM) (yM I (pU I (nC I) (pU I (fA am I aX I) (pK I (aZ (e:=encCell) (a:=(⟨x.id,x.dim,⟨xp,x.sides.length,xc⟩⟩:Rc)) (j:=k) (o:=2) (u:=(.slice xp x.sides.length xc)) bH I (zb5 0 I) hgr I) (yM I (pU I (aD I I oM) (pU I (SU.eq (v':=sliced xp ((dI x q2)+1) x.sides.length xc 2) (SU.sliceL bF bJ I I oM oM) (by rw[show (((dI x q2):Int)+1).toNat=(dI x q2)+1 by omega])) ?_)))))))))))));refine SP.o I (SO.cutA (j:=(dI x q2)) (n:=x.sides.length) (c:=xc) (p:=xp) (e:=encSide) 1 sty62 I I I I hjl) dC (.inl dC) ?_;rintro _ _ _ ⟨rfl,rfl,rfl⟩;refine oU I (nC I) dC (.inl dC) (oU I (fA am I aX I) dC (.inl dC) (SP.on I (SO.partA (e:=encCell) (a:=(⟨x.id,x.dim,⟨xp,x.sides.length,xc⟩⟩:Rc)) (j:=k) (o:=2) 0 ⟨x.id,x.dim,⟨xp,x.sides.length - 1,xc⟩⟩ aX I I I hgr I I dC I) (.inl dC) ?_));rintro _ _ _ ⟨rfl,rfl⟩;refine pN (bN (fT fun ga hlea hsa=>?_));refine fT fun gb hleb hsb=>?_;exact za7 (gb,(.slice (some ⟨bu,0,none⟩) rs.length cap)) sB I I ⟨hlea.trans hleb,_,za3 (e:=encCell) hsa hleb,hfin gb _ _ (hlea.trans hleb) ⟨I,I,hsb⟩⟩
    ·have hsn:=hnil hsl;refine kP (bN (fT fun ga hlea hsa=>?_));refine fT fun gb hleb hsb=>?_;exact za7 (gb,(.slice (some ⟨bu,0,none⟩) rs.length cap)) sB I I ⟨hlea.trans hleb,_,za3 (e:=encCell) hsa hleb,hfin0 gb _ (hlea.trans hleb) ⟨I,I,by rw[hsn] at hsb ⊢; exact hsb⟩⟩
   ·have hr2:=aB q2 2 dC dC;obtain ⟨kk,yi,yd,yp,yc,hkk,hkl,hgy,hyi,_,_⟩:=hpick q2;refine rZ (lU (iB ja zT3 I I dC dC) (lK (qL (v:=vi q0) iT3 I (cO 4 I I)) (lW (cL dD I (ah E g1 _ q0 13 dC)) ?_)));rintro _ _ _ ⟨rfl,rfl,rfl⟩;rw[hm];refine tZ (bK (rZ (yE I (aT I (cF I (rZ (yE I (aT I (cF I (rZ (yE I (aT I (cF I (rZ (yE I (aT I ?_))))))))))))))));refine cF I (rZ (yE I (aT I (cF I (rZ (yE I (aT I (cF I (rZ (yE I (aT I (cF I (rZ (yE I (aT I (cT I ?_))))))))))))))));refine dW [21,22,23,24] [(0,2),(1,2),(2,2),(3,2),(4,1),(5,2),(6,1),(7,2),(8,2),(9,1),(10,2),(15,2),(11,0),(12,2),(13,2),(14,1),(16,0),(17,2),(18,2),(19,2),(20,0),(21,0),(22,0),(23,0),(24,0)] ze1 kR ?_;refine yM I (yM I (pU I (nC I) (pU I (fA am I aX I) (pK I (aZ (e:=encCell) (a:=(⟨x.id,x.dim,⟨xp,x.sides.length,xc⟩⟩:Rc)) (j:=k) (o:=2) (u:=(.slice xp x.sides.length xc)) bH I (zb5 0 I) hgr I) (pU I (fA cH I bG I) (pK I (qL (v:=(.slice (some ⟨bu,0,none⟩) rs.length cap)) dg I (cO 2 I I)) (yM I (pU I (fA cH I bG I) (pK I (qL (v:=(.slice (some ⟨bu,0,none⟩) rs.length cap)) dg I (cO 2 I I)) (pU I (eN az I) (yM I (SP.o I (cL dD I (ah E g1 _ q2 rs.length oM)) dC (.inr iR) ?_))))))))))));rintro _ _ _ ⟨rfl,rfl,rfl⟩;rw[hkk];refine pU I (iA az aw I I I oM sL) (pU I (fC am I zT3 I I) (pK I (aZ (e:=encCell) (j:=kk) (o:=0) (u:=vi yi) iT3 I (zb5 0 I) hgy I) (SP.o I (cL dD I (ah E g1 _ q2 2 dC)) dC (.inr iR) ?_)));rintro _ _ _ ⟨rfl,rfl,rfl⟩;refine pU I (SU.mul I I oM) (pU I (sU I I oM) (pU I (za1 I (buildS67 _ _)) (SP.o I (bS sty62 I I I (ab sB) dC) dC (.inr iR) ?_)));rintro _ _ _ ⟨b195,rfl,rfl,rfl⟩;refine SP.o I (aP (e:=encSide) 1 ⟨yi,1 - 2 * aI q2 2⟩ sty62 I I I I I oM oM) dC (.inl dC) ?_;rintro v196 _ _ ⟨rfl,rfl⟩;refine zc9 fun ⟨w0,hw0⟩=>?_;obtain ⟨q7,d7,rfl⟩:=ag (i:=1) hw0 rfl;clear hw0 w0;refine oU I (nC I) dC (.inl dC) (oU I (fA am I aX I) dC (.inl dC) (SP.on I (SO.partA (e:=encCell) (a:=(⟨x.id,x.dim,⟨xp,x.sides.length,xc⟩⟩:Rc)) (j:=k) (o:=2) 0 ⟨x.id,x.dim,⟨q7,(x.sides++[((⟨yi,1 - 2 * aI q2 2⟩):aj)]).length,d7⟩⟩ aX I I I hgr I I dC I) (.inl dC) ?_));rintro _ _ _ ⟨rfl,rfl⟩;refine pN (bN (fT fun ga hlea hsa=>?_));refine fT fun gb hleb hsb=>?_;exact za7 (gb,(.slice (some ⟨bu,0,none⟩) rs.length cap)) sB I I ⟨hlea.trans hleb,_,za3 (e:=encCell) hsa hleb,hfin gb _ _ (hlea.trans hleb) ⟨I,I,by subst hyi; exact hsb⟩⟩
   ·refine rZ (lU (iB ja zT3 I I dC dC) (lK (qL (v:=vi q0) iT3 I (cO 4 I I)) (lW (cL dD I (ah E g1 _ q0 13 dC)) ?_)));rintro _ _ _ ⟨rfl,rfl,rfl⟩;rw[hm];refine tZ (bK (rZ (yE I (aT I (cF I (rZ (yE I (aT I (cF I (rZ (yE I (aT I (cF I (rZ (yE I (aT I ?_))))))))))))))));refine cF I (rZ (yE I (aT I (cF I (rZ (yE I (aT I (cF I (rZ (yE I (aT I (cF I (rZ (yE I (aT I (cF I (sQ ?_)))))))))))))))));refine rG (yE I (aT I (cT I ?_)));refine dW [6,7,8] [(0,2),(1,1),(2,2),(3,2),(4,1),(5,0),(6,0),(7,0),(8,0)] ze1 kR ?_;refine pU I (fA cH I bG I) (pK I (qL (v:=(.slice (some ⟨bu,0,none⟩) rs.length cap)) dg I (cO 2 I I)) (yM I (pU I (nC I) (pK I (eA (e:=encCell) (a:=(⟨x.id,x.dim,⟨xp,x.sides.length,xc⟩⟩:Rc)) (j:=k) eO aw I (zb5 0 I) hgr) (SP.o I (bS sty29 I I I (ab sB) dC) dC (.inr iR) ?_)))));rintro _ _ _ ⟨b206,rfl,rfl,rfl⟩;refine SP.o I (aP (e:=encCell) 0 (⟨x.id,x.dim,⟨xp,x.sides.length,xc⟩⟩:Rc) sty29 I I I I I oM oM) dC (.inl dC) ?_;rintro v207 _ _ ⟨rfl,rfl⟩;refine zc9 fun ⟨w0,hw0⟩=>?_;obtain ⟨q7,d7,rfl⟩:=ag (i:=0) hw0 rfl;clear hw0 w0;refine oU I (fA cH I bG I) dC (.inl dC) (SP.on I (sK 2 bG I I I I I sB) (.inl dC) ?_);rintro _ _ _ ⟨rfl,rfl⟩;refine pN (bN (fT fun ga hlea hsa=>?_));refine fT fun gb hleb hsb=>?_;exact za7 (gb,_) sB I I ⟨hlea.trans hleb,_,za3 (e:=encCell) hsa hleb,(hfinA gb (hlea.trans hleb) ⟨I,I,hsb⟩).append ⟨⟨I,I,hsb⟩,trivial⟩⟩
   ·obtain ⟨kk,yi,yd,yp,yc,hkk,hkl,hgy,hyi,hyl,hyr⟩:=hpick q2;refine rZ (lU (iB ja zT3 I I dC dC) (lK (qL (v:=vi q0) iT3 I (cO 4 I I)) (lW (cL dD I (ah E g1 _ q0 13 dC)) ?_)));rintro _ _ _ ⟨rfl,rfl,rfl⟩;rw[hm];refine tZ (bK (rZ (yE I (aT I (cF I (rZ (yE I (aT I (cF I (rZ (yE I (aT I (cF I (rZ (yE I (aT I ?_))))))))))))))));refine cF I (rZ (yE I (aT I (cF I (rZ (yE I (aT I (cF I (rZ (yE I (aT I (cF I (rZ (yE I (aT I (cF I (sQ ?_)))))))))))))))));refine rG (yE I (aT I (cF I (rZ (yE I (aT I (cT I ?_)))))));refine SC.cut (ι:=Nat) (fun b10=>[(2,pp b2 0),(3,pp b3 0),(4,pp b4 0),(5,pp b5 0),(6,vi (k:Nat)),(7,mF (.slice (some ⟨bu,0,none⟩) rs.length cap) (k * 3)),(8,vi q2),(9,vi ((dI x q2):Nat)),(10,pp b10 0)]) (fun _=>g1) (fun b10=>pt b10 (.cells #[vi yi,vi yd,(.slice yp (di l q2).sides.length yc)] 64 (0,0))::rowA encCell 64 (.slice (some ⟨bu,0,none⟩) rs.length cap) rs::rowA encSide 67 (.slice xp x.sides.length xc) x.sides::pt b5 (.cells #[(.slice (some ⟨bu,0,none⟩) rs.length cap)] 31 (0,0))::pt b4 (.cells #[.slice none 0 0] 31 (0,0))::pt b3 (.cells #[vi q0,vi q1,vi q2] 26 (0,0))::pt b2 (.cells #[.slice p l.length c] 31 (0,0))::s) (fun _=>True) ?_ ?_
    ·refine SC.drawX [] ze1 kR ?_;refine SX.u (i:=0) I kR (fA cH I bG I) dC (SX.q (i:=1) I kR (qL (v:=(.slice (some ⟨bu,0,none⟩) rs.length cap)) dg I (cO 2 I I)) dC (SX.u (i:=2) I kR (mV I) dC (SX.u (i:=3) I kR (fA cH I bG I) dC (SX.q (i:=4) I kR (qL (v:=(.slice (some ⟨bu,0,none⟩) rs.length cap)) dg I (cO 2 I I)) dC (SX.u (i:=5) I kR (eN az I) dC ?_)))))
     repeat' (first
      | (refine SB.o (i:=6) I (cL dD I (ah E g1 _ q2 rs.length oM)) dC (.inr iR) ?_; rintro _ _ _ ⟨rfl,rfl,rfl⟩; rw[hkk]; refine SX.u (i:=7) I kD (iA az aw I I I oM sL) dC ?_; refine SX.q (i:=8) I kD (eA (e:=encCell) (j:=kk) eO aw I (zb5 0 I) hgy) dC ?_)
      | (refine SB.o (i:=6) I (cL dD I (ah E g1 _ q2 rs.length oM)) dC (.inr iR) ?_; rintro _ _ _ ⟨rfl,rfl,rfl⟩; rw[hkk]; refine SX.u (i:=7) I kD (iA az aw I I I oM sL) dC ?_; refine SX.q (i:=8) I kD (eA (e:=encCell) (j:=kk) eO aw I (zb5 0 I) hgy) dC ?_)
      | (refine SB.o (i:=9) I (aL zk9) dC (.inr iR) ?_; rintro _ _ _ ⟨b10,rfl,rfl,rfl⟩)
      | (refine SB.on (i:=10) I (sK 0 aw I I I I I sB) (.inr iR) ?_; rintro _ _ _ ⟨rfl,rfl⟩)
      | refine zd5 6 9 kD ?_ ?_
      | refine zd4 9 kD ?_
      | refine zd4 10 kD ?_
      | refine zd4 6 kD ?_
      | (refine SX.nil kD ?_; exact za7 b10 sB I I trivial))
    rintro b10 -;try dsimp only
    have hrd:∀ S:Own,S[2]?=some (rowA encSide 67 (.slice xp x.sides.length xc) x.sides)→Rd g1 S (.slice yp (di l q2).sides.length yc) ((di l q2).sides.flatMap encSide.enc):=fun S hS=>by
     rcases hyr with ⟨h1,h2,h3⟩ | h
     ·rw[h1,h2,h3]; exact zb5 2 hS
     ·exact Sl.rd h
    refine dW [7,8,9,10] [(0,2),(1,2),(2,2),(3,2),(4,1),(5,2),(6,1),(7,0),(8,0),(9,0),(10,0)] ze1 kR ?_;refine yM I (yM I (pU I (nC I) (pU I (fA am I aX I) (pK I (aZ (e:=encCell) (a:=(⟨x.id,x.dim,⟨xp,x.sides.length,xc⟩⟩:Rc)) (j:=k) (o:=2) (u:=(.slice xp x.sides.length xc)) bH I (zb5 1 I) hgr I) (pU I (fA am I aX I) (pK I (qL (v:=(.slice yp (di l q2).sides.length yc)) bH I (cO 0 I I)) (SP.o I (SO.appendE (m:=(di l q2).sides.length) 2 (x.sides++(di l q2).sides).length ((x.sides++(di l q2).sides).flatMap encSide.enc) sty62 I I I I I (hrd _ I) (encSide.length _) (encSide.ones _) (by simp) (by simp) (by rw[ze3]; omega) (by rw[ze3]; omega)) dC (.inl dC) ?_)))))));rintro v227 _ _ ⟨rfl,rfl⟩;refine zc9 fun ⟨w0,hw0⟩=>?_;obtain ⟨q7,d7,rfl⟩:=ag (e:=encSide) (l:=x.sides++(di l q2).sides) (i:=2) hw0 rfl;clear hw0 w0;refine oU I (nC I) dC (.inl dC) (oU I (fA am I aX I) dC (.inl dC) (SP.on I (SO.partA (e:=encCell) (a:=(⟨x.id,x.dim,⟨xp,x.sides.length,xc⟩⟩:Rc)) (j:=k) (o:=2) 1 ⟨x.id,x.dim,⟨q7,(x.sides++(di l q2).sides).length,d7⟩⟩ aX I I I hgr I I dC I) (.inl dC) ?_));rintro _ _ _ ⟨rfl,rfl⟩;refine pN (bN (dR (.cons _ (.refl _)) (fT fun ga hlea hsa=>?_)));refine fT fun gb hleb hsb=>?_;exact za7 (gb,(.slice (some ⟨bu,0,none⟩) rs.length cap)) sB I I ⟨hlea.trans hleb,_,za3 (e:=encCell) hsa hleb,hfin gb _ _ (hlea.trans hleb) ⟨I,I,hsb⟩⟩
   ·refine rZ (lU (iB ja zT3 I I dC dC) (lK (qL (v:=vi q0) iT3 I (cO 4 I I)) (lW (cL dD I (ah E g1 _ q0 13 dC)) ?_)));rintro _ _ _ ⟨rfl,rfl,rfl⟩;rw[hm];refine tZ (bK (rZ (yE I (aT I (cF I (rZ (yE I (aT I (cF I (rZ (yE I (aT I (cF I (rZ (yE I (aT I ?_))))))))))))))));refine cF I (rZ (yE I (aT I (cF I (rZ (yE I (aT I (cF I (rZ (yE I (aT I (cF I (rZ (yE I (aT I (cF I (sQ ?_)))))))))))))))));refine rG (yE I (aT I (cF I (rZ (yE I (aT I (cF I (rZ (yE I (aT I (cT I (rZ (aT I (bK ?_))))))))))))));have hn0:jV x.sides 0=x.sides:=by simp[jV]
    refine SC.to (fun w hw=>?_) (g':=g1) (s':=rowA encCell 64 (.slice (some ⟨bu,0,none⟩) rs.length cap) rs::rowA encSide 67 (.slice xp x.sides.length xc) (jV x.sides 0)::pt b5 (.cells #[(.slice (some ⟨bu,0,none⟩) rs.length cap)] 31 (0,0))::pt b4 (.cells #[.slice none 0 0] 31 (0,0))::pt b3 (.cells #[vi q0,vi q1,vi q2] 26 (0,0))::pt b2 (.cells #[.slice p l.length c] 31 (0,0))::s) ?_
    ·rw[hn0]; exact hw
    refine oP (ι:=Nat) (fun i=>[(2,pp b2 0),(3,pp b3 0),(4,pp b4 0),(5,pp b5 0),(6,vi (k:Nat)),(7,mF (.slice (some ⟨bu,0,none⟩) rs.length cap) (k * 3)),(8,vi q2),(9,vi ((dI x q2):Nat)),(11,vi i)]) (fun _=>g1) (fun i=>rowA encCell 64 (.slice (some ⟨bu,0,none⟩) rs.length cap) rs::rowA encSide 67 (.slice xp x.sides.length xc) (jV x.sides i)::pt b5 (.cells #[(.slice (some ⟨bu,0,none⟩) rs.length cap)] 31 (0,0))::pt b4 (.cells #[.slice none 0 0] 31 (0,0))::pt b3 (.cells #[vi q0,vi q1,vi q2] 26 (0,0))::pt b2 (.cells #[.slice p l.length c] 31 (0,0))::s) (fun i=>i≤x.sides.length) (fun i=>x.sides.length - i) 0 sB I I (zf4 _) ?_;rintro i hi;refine sQ (sW I (lM I (lU (nC I) (lU (fA am I aX I) (lK (aZ (e:=encCell) (a:=(⟨x.id,x.dim,⟨xp,x.sides.length,xc⟩⟩:Rc)) (j:=k) (o:=2) (u:=(.slice xp x.sides.length xc)) bH I (zb5 0 I) hgr I) (lU (eN bF I) (yL I (tZ ?_))))))));refine iP I (fun hlt=>?_) (fun hlt=>?_)
    ·have hil:i<x.sides.length:=oM;refine zd2 fun ⟨w0,hw0⟩=>?_;obtain ⟨bx,cx,hbx⟩:=bh (i:=1) hw0 rfl (by rw[my _ _ hi]; omega);rw[my _ _ hi] at hbx;obtain ⟨rfl,rfl⟩:xp=some ⟨bx,0,none⟩∧xc=cx:=by injection hbx with h1 _ h2; exact⟨h1,h2⟩
     clear hw0 w0 hbx;have hgz:=z7 hil;have hst:=z6 hil;refine kP (tN (sQ (bK ?_)));refine dW [16] [(0,2),(1,2),(2,2),(3,1),(4,2),(5,2),(6,2),(7,2),(8,1),(9,2),(10,2),(11,2),(12,1),(13,2),(14,2),(15,2),(16,0)] ze1 kR ?_;refine yM I (pU I (nC I) (pU I (fA am I aX I) (pK I (aZ (e:=encCell) (a:=(⟨x.id,x.dim,⟨some ⟨bx,0,none⟩,x.sides.length,xc⟩⟩:Rc)) (j:=k) (o:=2) (u:=(.slice (some ⟨bx,0,none⟩) x.sides.length xc)) bH I (zb5 0 I) hgr I) (yM I (yM I (pU I (nC I) (pU I (fA am I aX I) (pK I (aZ (e:=encCell) (a:=(⟨x.id,x.dim,⟨some ⟨bx,0,none⟩,x.sides.length,xc⟩⟩:Rc)) (j:=k) (o:=2) (u:=(.slice (some ⟨bx,0,none⟩) x.sides.length xc)) bH I (zb5 0 I) hgr I) (yM I (pU I (iA bF bJ I I I oM sL) (pU I (fC de I zT3 I I) (pK I (aZ (e:=encSide) (a:=x.sides[i]) (j:=i) (o:=1) (u:=vi x.sides[i].sign) iT3 I (zb5 1 I) hgz I) (pU I (SU.neg I) (pU I (iA bF bJ I I I oM sL) (pU I (fC de I zT3 I I) (SP.on I (SO.partA (e:=encSide) (a:=x.sides[i]) (j:=i) (o:=1) 1 (AZ x.sides[i]) zT3 I I I hgz I I dC I) (.inl dC) ?_))))))))))))))));rintro _ _ _ ⟨rfl,rfl⟩;rw[hst];refine pN (bN (tN (rG (lM I (yD I (lA I (nL ?_)))))));exact gA (i+1) sB I I oM oM
    ·have hii:jV x.sides i=x.sides.map AZ:=by
      have:i=x.sides.length:=oM;subst this;simp[jV]
     rw[hii];refine xI (tX (tX (bX (bN (fT fun ga hlea hsa=>?_)))));refine fT fun gb hleb hsb=>?_;exact za7 (gb,(.slice (some ⟨bu,0,none⟩) rs.length cap)) sB I I ⟨hlea.trans hleb,_,za3 (e:=encCell) hsa hleb,hfin0 gb _ (hlea.trans hleb) ⟨I,I,hsb⟩⟩
   ·have hr3:=aB q2 3 dC dC;refine rZ (lU (iB ja zT3 I I dC dC) (lK (qL (v:=vi q0) iT3 I (cO 4 I I)) (lW (cL dD I (ah E g1 _ q0 13 dC)) ?_)));rintro _ _ _ ⟨rfl,rfl,rfl⟩;rw[hm];refine tZ (bK (rZ (yE I (aT I (cF I (rZ (yE I (aT I (cF I (rZ (yE I (aT I (cF I (rZ (yE I (aT I ?_))))))))))))))));refine cF I (rZ (yE I (aT I (cF I (rZ (yE I (aT I (cF I (rZ (yE I (aT I (cF I (rZ (yE I (aT I (cF I (sQ ?_)))))))))))))))));refine rG (yE I (aT I (cF I (rZ (yE I (aT I (cF I (rZ (yE I (aT I (cF I (rZ (yE I (aT I (cT I ?_)))))))))))))));refine SC.drawX [15,17] ze1 kR ?_;refine SX.u (i:=0) I kR (fA cH I bG I) dC (SX.q (i:=1) I kR (qL (v:=(.slice (some ⟨bu,0,none⟩) rs.length cap)) dg I (cO 2 I I)) dC (SX.u (i:=2) I kR (mV I) dC (SX.u (i:=5) I kR (mV I) dC (SX.u (i:=8) I kR (mV I) dC (SX.u (i:=9) I kR (nC I) dC (SX.u (i:=10) I kR (fA am I aX I) dC (SX.q (i:=11) I kR (aZ (e:=encCell) (a:=(⟨x.id,x.dim,⟨xp,x.sides.length,xc⟩⟩:Rc)) (j:=k) (o:=2) (u:=(.slice xp x.sides.length xc)) bH I (zb5 0 I) hgr I) dC ?_)))))))
    repeat' (first
     | (refine SB.o (i:=3) I (cL dD I (ah E g1 _ q2 3 dC)) dC (.inr iR) ?_; rintro _ _ _ ⟨rfl,rfl,rfl⟩; refine SX.u (i:=4) I kD (aD I I oM) dC ?_)
     | (refine SB.o (i:=3) I (cL dD I (ah E g1 _ q2 3 dC)) dC (.inr iR) ?_; rintro _ _ _ ⟨rfl,rfl,rfl⟩; refine SX.u (i:=4) I kD (aD I I oM) dC ?_)
     | (refine SB.o (i:=6) I (cL dD I (ah E g1 _ q2 4 dC)) dC (.inr iR) ?_; rintro _ _ _ ⟨rfl,rfl,rfl⟩)
     | (refine SB.o (i:=6) I (cL dD I (ah E g1 _ q2 4 dC)) dC (.inr iR) ?_; rintro _ _ _ ⟨rfl,rfl,rfl⟩)
     | (refine SB.o (i:=7) I (bS sty62 I I I (ab trivial) dC) dC (.inr iR) ?_; rintro _ _ _ ⟨b266,rfl,rfl,rfl⟩; refine SX.to (fun w hw=>(hw.sublist (List.Sublist.cons _ (.refl _))).emptyRow 67 2 (some ⟨b266,0,none⟩)) ?_)
     | (refine SB.o (i:=12) I (SO.appendE (m:=x.sides.length) 0 x.sides.length (x.sides.flatMap encSide.enc) sty62 I I I I I (zb5 2 I) (encSide.length _) (encSide.ones _) oM (by simp) oM oM) dC (.inr iR) ?_; rintro v271 _ _ ⟨rfl,rfl⟩; refine SX.freezeRow fun gq hleq hsq=>?_; have hsd:SlA encSide gq v271 x.sides:=hsq; obtain ⟨q7,d7,rfl⟩:=za2 hsd; refine SX.u (i:=13) I kD (za1 I (buildF64 _ _ _ I)) dC ?_)
     | (refine SB.o (i:=14) I (bS sty29 I I I (ab sB) dC) dC (.inr iR) ?_; rintro _ _ _ ⟨b273,rfl,rfl,rfl⟩)
     | (refine SB.o (i:=15) I (aP (e:=encCell) 0 ⟨500+aI q2 3,aI q2 4,⟨q7,x.sides.length,d7⟩⟩ sty29 I I I I I oM oM) dC (.inl dC) ?_; rintro v274 _ _ ⟨rfl,rfl⟩; refine SX.facts fun ⟨w0,hw0⟩=>?_; obtain ⟨q8,d8,rfl⟩:=ag (i:=0) hw0 rfl; clear hw0 w0; refine SX.u (i:=16) I kD (fA cH I bG I) dC ?_)
     | (refine SB.on (i:=17) I (sK 2 bG I I I I I sB) (.inl dC) ?_; rintro _ _ _ ⟨rfl,rfl⟩)
     | refine zd5 3 7 kD ?_ ?_
     | refine zd5 6 7 kD ?_ ?_
     | refine zd4 7 kD ?_
     | refine zd4 12 kD ?_
     | refine zd4 14 kD ?_
     | refine zd4 15 kD ?_
     | refine zd4 17 kD ?_
     | refine zd4 6 kD ?_
     | refine zd4 3 kD ?_
     | (refine SX.nil kD ?_; refine bN ?_; (refine fT fun ga hlea hsa=>?_; refine fT fun gb hleb hsb=>?_; exact za7 (gb,_) sB I I ⟨hleq.trans (hlea.trans hleb),_,za3 (e:=encCell) hsa hleb,(hfinA gb (hleq.trans (hlea.trans hleb)) ⟨I,I,hsb⟩).append ⟨⟨I,I,hsd.mono (hlea.trans hleb)⟩,trivial⟩⟩)))
   ·refine rZ (lU (iB ja zT3 I I dC dC) (lK (qL (v:=vi q0) iT3 I (cO 4 I I)) (lW (cL dD I (ah E g1 _ q0 13 dC)) ?_)));rintro _ _ _ ⟨rfl,rfl,rfl⟩;rw[hm];refine tZ (bK (rZ (yE I (aT I (cF I (rZ (yE I (aT I (cF I (rZ (yE I (aT I (cF I (rZ (yE I (aT I ?_))))))))))))))));refine cF I (rZ (yE I (aT I (cF I (rZ (yE I (aT I (cF I (rZ (yE I (aT I (cF I (rZ (yE I (aT I (cF I (sQ ?_)))))))))))))))));refine rG (yE I (aT I (cF I (rZ (yE I (aT I (cF I (rZ (yE I (aT I (cF I (rZ (yE I (aT I (cF I (kP (bN (fT fun ga hlea hsa=>?_))))))))))))))))));refine fT fun gb hleb hsb=>?_;exact za7 (gb,(.slice (some ⟨bu,0,none⟩) rs.length cap)) sB I I ⟨hlea.trans hleb,_,za3 (e:=encCell) hsa hleb,hfinA gb (hlea.trans hleb) ⟨I,I,hsb⟩⟩
  rintro ⟨g2,bv⟩ ⟨hle2,hbv⟩;dsimp only at hle2 hbv ⊢;obtain ⟨q3,d3,rfl⟩:=hbv.form;refine rZ (lK (qV 0 aY ar I I I) (oZ (sK 1 ar I I I I I sB) ?_));refine tZ (rE ?_);exact ST.retCD 1 s (.inl I) results8 I aY ar I I uR ⟨I,hle1.trans hle2,_,I,hbv⟩
open Go.ChangeShapes Go.WideShapes Go.ChangeAt Go.RowKit
set_option maxRecDepth 100000
def vK (W:World):PH:=fun b=>W.heap[b]?
def E0 (W:World):World:={ W with drawn:=0 }
theorem Ca (W:World):At (E0 W) (vK W) [] W:=⟨rfl,⟨rfl,zf4 _⟩,rfl,fun _ _ h=>h,by simp,by simp,List.Pairwise.nil⟩
theorem Cc {W W':World}{g:PH}{s:Own}(h:At (E0 W) g s W')(hl:Le (vK W) g):Below W.heap.size W W':=by
 have hb:∀ k,k<W.heap.size→W'.heap[k]?=W.heap[k]?:=fun k hk=>by
  have h1:W.heap[k]?=some W.heap[k]:=Array.getElem?_eq_getElem hk;rw[h1];exact h.known k _ (hl k _ h1)
 refine⟨h.os,h.tape.1,h.output,?_,hb⟩;refine zg7 fun hc=>?_;have h1:=hb W'.heap.size oM;rw[Array.getElem?_eq_none (lR _),Array.getElem?_eq_getElem oM] at h1;cases h1
theorem Cq {W:World}{a:Addr}{len cap:Nat}{xs:List Value}(hl:len≤cap)(hx:xs.length=len)(hc:∀ i x,xs[i]?=some x→W.cell? (a.add i)=some x):Sl (vK W) 1 (.slice (some a) len cap) len xs:=by
 refine⟨some a,cap,I,⟨oM,hl⟩,fun hne=>?_⟩;obtain ⟨b,o,sp⟩:=a;have h0:0<xs.length:=List.length_pos_iff.2 hne;have hc0:=hc 0 xs[0] (gE h0);have hsp:sp=none:=by simpa [Addr.add] using World.cell?_spot hc0
 subst hsp;have hadd:∀ i,(⟨b,o,none⟩:Addr).add i=⟨b,o+i,none⟩:=fun i=>by unfold Addr.add; split <;> simp_all
 simp only[hadd] at hc;have hcell:∀ i x,xs[i]?=some x→∃ cs T fr,W.heap[b]?=some (.cells cs T fr)∧cs[o+i]?=some x:=fun i x hi=>by
  have h1:=hc i x hi;unfold World.cell? at h1;split at h1
  ·rename_i cs T fr hh;exact⟨cs,T,fr,hh,by simpa using h1⟩
  ·cases h1
 obtain ⟨cs,T,fr,hb,_⟩:=hcell 0 xs[0] (gE h0);refine⟨b,o,cs,T,fr,I,hb,fun j x hj=>?_⟩;obtain ⟨cs',T',fr',hb',h2⟩:=hcell j x hj;rw[hb] at hb';cases hb';exact h2
section
variable {H:Type}{enc:TypeId×Value→H}{W:World}{base:Nat}{spare:Nat→Bool}{hd:Bool}
theorem Tryz.cells3:Tryz.prog.cellsOf 3=1:=by kernel_rfl
theorem Tryz.cells25:Tryz.prog.cellsOf 25=1:=by kernel_rfl
theorem Tryz.cells26:Tryz.prog.cellsOf 26=3:=by kernel_rfl
theorem Tryz.cells24:Tryz.prog.cellsOf 24=3:=by kernel_rfl
theorem y5 {fuel:Nat}{v:Value}{x:DataW H×List MemPlace}(h:DataW.trod enc Tryz.prog W base spare hd fuel 25 [v]=some x):∃ (l:List Int) (r:Sv),v = .slice r.p r.n r.c∧bZ (vK W) v l:=by
 rcases open_ints ak uT3 cells3 h with ⟨hcs,_⟩ | ⟨a,len,cap,zs,hcs,_,hl,_,hz,_,hcell,_⟩
 ·simp at hcs;subst hcs;exact⟨[],⟨none,0,0⟩,I,zb8 _ _⟩
 ·simp at hcs;subst hcs;have hlz:len≤zs.length:=by rw[hz]; split <;> omega
  have hlen:(zs.take len).length=len:=by rw[ze2]; omega
  have he:(zs.take len).flatMap encInt.enc=(zs.take len).map vi:=by
   rw[List.flatMap_def];induction zs.take len with
   | nil=>rfl
   | cons y t ih=>simp[encInt] at ih ⊢; exact ih
  refine⟨zs.take len,⟨some a,len,cap⟩,I,?_⟩;show Sl (vK W) 1 _ (zs.take len).length ((zs.take len).flatMap encInt.enc);rw[he,hlen];refine Cq hl (by rw[ze4,hlen]) fun i y hi=>?_;rw[zh7] at hi;cases hc:(zs.take len)[i]? with
  | none=>rw[hc] at hi; cases hi
  | some z =>
   rw[hc] at hi;cases hi;have hil:i<(zs.take len).length:=(zf3.1 hc).1;have hi2:i<zs.length:=oM;rw[hcell i hi2];have:zs.getD i 0=z:=by
    rw[zh8] at hc;split at hc
    ·rw[zg8,hc]; rfl
    ·cases hc
   rw[this]
theorem wJ {α β γ:Type}{R:α→β→Prop}{f:γ→α}{k:γ→β}:∀ {l:List γ},(∀ i∈l,R (f i) (k i))→au R (l.map f) (l.map k)
 | [],_=>trivial
 | x::l,h=>⟨h x (by simp),wJ fun i hi=>h i (by simp[hi])⟩
instance:Inhabited (List Int×Sv):=⟨([],⟨none,0,0⟩)⟩
theorem BH {fuel:Nat}{v:Value}{x:DataW H×List MemPlace}(h:DataW.trod enc Tryz.prog W base spare hd fuel 22 [v]=some x):∃ ls,aH (vK W) v ls:=by
 rcases Go.Deep.open_slice1 br cells25 h with ⟨hcs,_⟩ | ⟨a,len,cap,m,n,V,D,Pl,hcs,_,hl,_,hmm,_,hx⟩
 ·simp at hcs;subst hcs;exact⟨[],[],zb8 _ _,trivial⟩
 ·simp at hcs;subst hcs;have hlm:len≤m:=by rw[hmm]; split <;> omega
  obtain ⟨f,hf⟩:=Go.Deep.choose_lt (α:=List Int×Sv) (n:=len) (p:=fun i y=>V i = .slice y.2.p y.2.n y.2.c∧bZ (vK W) (V i) y.1) fun i hi=>by
   obtain ⟨l,r,h1,h2⟩:=y5 (hx i oM).2;exact⟨(l,r),h1,h2⟩
  refine⟨(List.range len).map fun i=>(f i).1,(List.range len).map fun i=>(f i).2,?_,wJ fun i hi=>?_⟩
  ·show Sl (vK W) 1 _ ((List.range len).map fun i=>(f i).2).length (((List.range len).map fun i=>(f i).2).flatMap aA.enc);have he:((List.range len).map fun i=>(f i).2).flatMap aA.enc=(List.range len).map fun i=>V i:=by
    have:∀ l:List Nat,(∀ i∈l,i<len)→(l.map fun i=>(f i).2).flatMap aA.enc=l.map fun i=>V i:=by
     intro l;induction l with
     | nil=>intro _; rfl
     | cons y t ih =>
      intro hy;rw[zg2,zh3,ih fun i hi=>hy i (by simp[hi]),zg2,(hf y (hy y (by simp))).1];rfl
    exact this _ fun i hi=>List.mem_range.1 hi
   rw[he,ze4,zi2];refine Cq hl (by simp) fun i y hi=>?_;rw[zh7] at hi;cases hc:(List.range len)[i]? with
   | none=>rw[hc] at hi; cases hi
   | some z =>
    rw[hc] at hi;cases hi;obtain ⟨h1,h2⟩:=zf3.1 hc;simp at h1 h2;subst h2;exact (hx i oM).1
  ·have:=hf i (List.mem_range.1 hi);unfold be;rw[← this.1];exact this.2
theorem tD {r:Reach}{b0:Nat}{P:Program}{w:World}{t e:TypeId}{n:Nat}{v:Value}(ht:P.underlying t=some (.array n e))(h:Value.okWide P w r b0 t v):∃ cs,v = .agg cs∧cs.size=P.cellsOf t:=by
 simp only[Value.okWide,ht] at h;obtain ⟨cs,h1,h2,_⟩:=h;exact⟨cs,h1,h2⟩
theorem Bi {r:Reach}{b0:Nat}{v:Value}{d:DataW H}{p:List MemPlace}(hv:Value.okWide Tryz.prog W r b0 24 v)(h:DataW.Trod enc Tryz.prog W base spare hd 24 v d p):∃ (k y:Int) (u:Value) (ls:List (List Int)),v = .agg #[vi k,u,vi y]∧aH (vK W) u ls:=by
 obtain ⟨c0,c1,c2,y0,y1,y2,n,rfl,_,_,h0,h1,h2⟩:=Go.Joins.open_agg3 j9 kR cells24 hv h;obtain ⟨a,e0,_,_⟩:=DataW.trod_int uT3 h0;obtain ⟨c,e2,_,_⟩:=DataW.trod_int uT3 h2;obtain ⟨ls,hls⟩:=BH h1;simp at e0 e2;subst e0;subst e2;exact⟨a,c,c1,ls,I,hls⟩
end
set_option maxHeartbeats 1000000
end Go.Proofs.YtcfkpajlakidbaaGreatDoor
namespace Go.Sy
open Go
section
variable {P:Program}{N:Nat}{E:World}{f:Fr}{g:PH}{s s1:Own}{dst:Option Tmp}{ty:TypeId}{pos:String}{af:Array Edge}{gd:Option (Nat×Bool)}{α:Type}{k:Nat}{e:Enc α k}
def que (e:Enc α k)(T:TypeId)(v:Value)(l:List α):Ent :=
 ⟨ii v,fun oo=>(∃ p,v = .slice p 0 0∧l=[]) ∨
  ∃ b o cap cur,v = .slice (some ⟨b,o,none⟩) l.length (cap+1)∧oo=some (.cells cur T (0,0))∧l.length≤cap+1∧cap+1≤maxLen∧cur.size=o+(cap+1) * k∧(cur.toList.drop o).take (l.length * k)=l.flatMap e.enc⟩
theorem ur {w:World}{T:TypeId}{i:Nat}{v:Value}{l:List α}(h:At E g s w)(hi:s[i]?=some (que e T v l)):(∃ p,v = .slice p 0 0∧l=[]) ∨
  ∃ b o cap cur,v = .slice (some ⟨b,o,none⟩) l.length (cap+1)∧w.heap[b]?=some (.cells cur T (0,0))∧l.length≤cap+1∧cap+1≤maxLen∧cur.size=o+(cap+1) * k∧(cur.toList.drop o).take (l.length * k)=l.flatMap e.enc:=by
 rcases h.own _ (zf9 hi) with h2 | ⟨b,o,cap,cur,rfl,ho,h3⟩
 ·exact .inl h2
 ·refine .inr ⟨b,o,cap,cur,I,?_,h3⟩;simpa [que,ii] using ho
theorem kI {w:World}{T:TypeId}{b o cap:Nat}{l:List α}{cur:Array Value}(hb:w.heap[b]?=some (.cells cur T (0,0)))(hn:l.length≤cap+1)(hc:cap+1≤maxLen)(hs:cur.size=o+(cap+1) * k)(ht:(cur.toList.drop o).take (l.length * k)=l.flatMap e.enc) :
  (que e T (.slice (some ⟨b,o,none⟩) l.length (cap+1)) l).holds ((que e T (.slice (some ⟨b,o,none⟩) l.length (cap+1)) l).blk.bind fun b=>w.heap[b]?) :=
 .inr ⟨b,o,cap,cur,rfl,by simpa [que,ii] using hb,hn,hc,hs,ht⟩
theorem Bu {w:World}{T:TypeId}{i:Nat}{v:Value}{l:List α}(h:At E g s w)(hi:s[i]?=some (que e T v l)):∃ p c,v = .slice p l.length c∧(0<l.length→based v=true):=by
 rcases ur h hi with ⟨p,rfl,rfl⟩ | ⟨b,o,cap,cur,rfl,_⟩
 ·exact⟨_,_,I,fun h=>absurd h (by simp)⟩
 ·exact⟨_,_,I,fun _=>I⟩
theorem At.toQue {w:World}{T:TypeId}{i:Nat}{v:Value}{l:List α}(h:At E g s w)(hi:s[i]?=some (rowA e T v l)):At E g (s.set i (que e T v l)) w:=by
 obtain ⟨hxl,hform⟩:=eV h hi;refine h.turn hi I ⟨I,lR _⟩ I (lR _) (fun _ _ _=>I) ?_ (fun b hb=>⟨(h.fresh _ (zf9 hi) b hb).2,.inl hb⟩)
 rcases hform with ⟨q,rfl,h0⟩ | ⟨b,cap,cur,rfl,hg,hle,hcm,hcs,htake⟩
 ·exact .inl ⟨q,I,zf2 h0⟩
 ·exact kI hg hle hcm (by rw[hcs]; omega) (by simpa using htake)
theorem At.front {w:World}{T:TypeId}{i c n:Nat}{p:Option Addr}{a:α}{l:List α}(h:At E g s w)(hi:s[i]?=some (que e T (.slice p n c) (a::l))):At E g (s.set i (que e T (sliced p 1 n c k) l)) w:=by
 rcases ur h hi with ⟨q,he,h0⟩ | ⟨b,o,cap,cur,he,hg,hle,hcm,hcs,htake⟩
 ·cases h0
 ·injection he with e1 e2 e3
  subst e1; subst e2; subst e3;have hfr:=h.fresh _ (zf9 hi) b rfl;cases cap with
  | zero =>
   have hl0:l=[]:=by simpa using hle
   subst hl0;refine h.turn hi I ⟨I,lR _⟩ I (lR _) (fun _ _ _=>I) (.inl ⟨_,I,I⟩) (fun b' hb'=>?_);simp[que,sliced,ii] at hb'
  | succ cap =>
   have hsl:sliced (some ⟨b,o,none⟩) 1 (a::l).length (cap+1+1) k = .slice (some ⟨b,o+k,none⟩) l.length (cap+1):=by
    simp[sliced,Addr.add_lit]
   rw[hsl];refine h.turn hi I ⟨I,lR _⟩ I (lR _) (fun _ _ _=>I) ?_ (fun b' hb'=>?_)
   ·refine kI hg (by simpa using hle) oM (by rw[hcs,Nat.succ_mul (cap+1)]; omega) ?_;have h1:=zd9 (List.drop k) htake;rw[zh3,List.drop_left' (e.len a),List.drop_take,List.drop_drop] at h1;have h2:(a::l).length * k - k=l.length * k:=by rw[ze6,Nat.succ_mul]; omega
    rw[h2] at h1;exact h1
   ·simp only[que,ii,zg5] at hb';subst hb';exact⟨hfr.2,.inl I⟩
theorem Rd.que {T:TypeId}{v:Value}{l:List α}(i:Nat)(hi:s[i]?=some (que e T v l)):Rd g s v (l.flatMap e.enc):=by
 intro E w hw j x hj
 rcases ur hw hi with ⟨p,rfl,rfl⟩ | ⟨b,o,cap,cur,rfl,hb,_,_,_,ht⟩
 ·simp at hj
 ·refine⟨⟨b,o,none⟩,l.length,cap+1,I,I,?_⟩;rw[← ht,zh8] at hj;split at hj
  ·rw[zh9] at hj;simp[World.cell?,hb];simpa using hj
  ·cases hj
theorem mZ (w:World)(t ty e:TypeId)(i:TypeInfo)(ht:P.underlying t=some (.slice e))(hi:P.info? e=some i)
  (g o sLen sCap:Nat) (cur:Array Value) (hg:w.heap[g]?=some (.cells cur e (0,0)))
  (a:Addr) (m c:Nat) (news:List Value) (hl:news.length=m * i.size) (hnews:∀ j u,news[j]?=some u→w.cell? (a.add j)=some u) (h1:∀ u∈news,u.oneCell'=true)
  (hroom:sLen+m≤sCap) (hfit:o+sLen * i.size+news.length≤cur.size) :
  (Builtin.append_ #[t,t] ty #[.slice (some ⟨g,o,none⟩) sLen sCap,.slice (some a) m c]).run P w =
   .ok (.slice (some ⟨g,o,none⟩) (sLen+m) sCap) (w.setRow g (cur.toList.take (o+sLen * i.size)++news++cur.toList.drop (o+sLen * i.size+news.length)).toArray):=by
 have hf:=run_firstCells_some (P:=P) w i.size m a m c news hl hnews;have hst:=run_storeCells_at P g (o+sLen * i.size) e news 0 cur w hg (by simpa using hfit) h1;simp only[Nat.add_zero] at hst;simp[Builtin.append_,run_underlying ht,sizeOf,typeInfo,hi,Builtin.lenOf,hroom,hf,Addr.add_lit,hst]
theorem At.newQue {w w':World}{T:TypeId}{i cap:Nat}{v:Value}{l:List α}{a:α}{zs:List Value}(h:At E g s w)(hi:s[i]?=some (que e T v l))(hw':w'=w.drew.alloc (.cells ((l.flatMap e.enc).toArray++(e.enc a).toArray++zs.toArray) T))
  (hc:l.length+1≤cap) (hcm:cap≤maxLen) (hz:zs.length=(cap - (l.length+1)) * k) :
  At E g (s.set i (que e T (.slice (some ⟨w.heap.size,0,none⟩) (l.length+1) cap) (l++[a]))) w':=by
 subst hw';obtain ⟨cap,rfl⟩:∃ c,cap=c+1:=⟨cap - 1,oM⟩;have hnew:(w.drew.alloc (.cells ((l.flatMap e.enc).toArray++(e.enc a).toArray++zs.toArray) T)).heap[w.heap.size]?=some (.cells ((l.flatMap e.enc).toArray++(e.enc a).toArray++zs.toArray) T (0,0)):=heap_alloc_new w.drew _;have hlen:l.length+1=(l++[a]).length:=by simp
 rw[hlen];refine h.turn hi I ⟨I,(by exact Nat.le_add_right _ _)⟩ I (by simp) (fun k hk _=>by (first | exact heap_alloc_old w.drew _ k hk | exact heap_alloc_old w.drew _ hk)) (kI hnew (by simpa using hc) hcm ?_ ?_) (fun b hb=>?_)
 ·simp only[Array.size_append,List.size_toArray,e.length,e.len,hz];have:(cap+1) * k=(l.length+1) * k+(cap+1 - (l.length+1)) * k:=by rw[← Nat.add_mul]; congr 1; omega
  rw[this,Nat.add_mul];omega
 ·have:(l++[a]).length * k=(l.flatMap e.enc++e.enc a).length:=by simp[e.length,e.len,Nat.add_mul]
  rw[this];simp only[Array.toList_append,List.drop_zero];rw[List.take_left,List.flatMap_append];simp
 ·simp only[que,ii,zg5] at hb;subst hb;exact⟨by simp,.inr (lR _)⟩
theorem SO.queA {bytes b:Nat}{x y:Operand}{t T:TypeId}{z v:Value}{l:List α}{cs:Array Value}(i:Nat)(a:α)(hT:STy P t T k bytes z)(hx:ev f x=some v)(hy:ev f y=some (.slice (some ⟨b,0,none⟩) 1 1))
  (hs:s=pt b (.cells cs T (0,0))::s1) (hi:s1[i]?=some (que e T v l)) (hc:cs.toList=e.enc a) (hb:(l.length+1) * bytes≤140737488355328) (hlen:l.length+1≤4611686018427387904) :
  SO P N E ⟨dst,.call ⟨.builtin .append,#[x,y],#[t,t]⟩,ty,pos,af,gd⟩ f g s fun v' g' s'=>g=g'∧s'=s1.set i (que e T v' (l++[a])) :=
 SO.of_run fun a0 w ha hw0=>by
  have hr:Rd g s (.slice (some ⟨b,0,none⟩) 1 1) cs.toList:=Rd.pt 0 (by rw[hs]; rfl);have hw:At E g s1 w:=hw0.sublist (by rw[hs]; exact .cons _ (.refl _));obtain ⟨ti,ht1,ht2,ht3,ht4⟩:=hT.info;rw[hc] at hr;have hcells:∀ j q,(e.enc a)[j]?=some q→w.cell? ((⟨b,0,none⟩:Addr).add j)=some q:=fun j q hq=>by
   obtain ⟨a',_,_,he,_,hc⟩:=hr E w hw0 j q hq;cases he;have hadd:(⟨b,0,none⟩:Addr).add j=⟨b,0+j,none⟩:=by unfold Addr.add; split <;> simp_all
   rw[hadd];exact hc
  have hl1:(e.enc a).length=1 * k:=by rw[e.len]; omega
  have hzs:∀ c,(Builtin.zeroCells z.cells c).toList.length=c * k:=fun c=>by simp[size_zeroCells,hT.zs]
  have key:∃ v' w',(Builtin.append_ #[t,t] ty #[v,.slice (some ⟨b,0,none⟩) 1 1]).run P w = .ok v' w'∧At E g (s1.set i (que e T v' (l++[a]))) w':=by
   rcases ur hw hi with ⟨q,rfl,rfl⟩ | ⟨bq,o,cap,cur,rfl,hg,hle,hcm,hcs,htake⟩
   ·have hge:=grownCap_ge w (0+1) 0 T;have hcm:=grownCap_le_maxLen w (0+1) 0 T (by unfold maxLen; omega);cases q with
    | none =>
     have h5:=run_append_nil (P:=P) w t ty T ti z hT.und ht1 ht2 ⟨b,0,none⟩ 1 1 (e.enc a) (by rw[ht3]; exact hl1) hcells oM oM (by rw[ht4]; simp at hb; omega);have h6:=hw.newQue (e:=e) (l:=[]) (a:=a) (zs:=(Builtin.zeroCells z.cells (grownCap w (0+1) 0 T - (0+1))).toList) hi rfl hge hcm (by rw[hzs]; rfl);refine⟨_,_,h5,?_⟩;simpa using h6
    | some q =>
     have h5:=run_append_grow (P:=P) w t ty T ti z hT.und ht1 ht2 q 0 0 [] (by simp) (by simp) ⟨b,0,none⟩ 1 1 (e.enc a) (by rw[ht3]; exact hl1) hcells oM oM (by rw[ht4]; exact growslice_fits oM (by simpa using hb));have h6:=hw.newQue (e:=e) (l:=[]) (a:=a) (zs:=(Builtin.zeroCells z.cells (grownCap w (0+1) 0 T - (0+1))).toList) hi rfl hge hcm (by rw[hzs]; rfl);refine⟨_,_,h5,?_⟩;simpa using h6
   ·by_cases hroom:l.length+1≤cap+1
    ·have hfit:o+l.length * k+(e.enc a).length≤cur.size:=by
      rw[hl1,hcs,Nat.add_assoc,← Nat.add_mul];exact Nat.add_le_add_left (Nat.mul_le_mul_right _ hroom) _
     have h5:=mZ (P:=P) w t ty T ti hT.und ht1 bq o l.length (cap+1) cur hg ⟨b,0,none⟩ 1 1 (e.enc a) (by rw[ht3]; exact hl1) hcells (e.one a) hroom (by rw[ht3]; exact hfit);refine⟨_,_,h5,?_⟩;have hfr:=hw.fresh _ (zf9 hi) bq rfl;have hlen:l.length+1=(l++[a]).length:=by simp
     rw[hlen];refine hw.turn hi I ⟨I,(by exact lR _)⟩ I (by simp) (fun k' _ hk'=>setRow_other w bq k' _ (fun e1=>hk' (by simp[que,ii,e1]))) (kI (setRow_heap w bq cur _ T _ hg) (by simpa using hroom) hcm ?_ ?_) (fun b' hb'=>?_)
     ·rw[ht3];simp only[List.size_toArray,ze3,ze2,ze7,Array.length_toList];omega
     ·rw[ht3];have hsz:cur.toList.length=cur.size:=by simp
      have h1:cur.toList.take (o+l.length * k)=cur.toList.take o++l.flatMap e.enc:=by
       rw[← htake,List.take_add]
      have h2:(cur.toList.take o).length=o:=by rw[ze2]; omega
      simp only[h1,zg6];rw[List.drop_left' h2,← zg6];have h3:(l++[a]).length * k=(l.flatMap e.enc++e.enc a).length:=by simp[e.length,e.len,Nat.add_mul]
      rw[h3,List.take_left,List.flatMap_append];simp
     ·simp only[que,ii,zg5] at hb';subst hb';exact⟨by simpa using hfr.2,.inl I⟩
    ·have holds:∀ j q,(l.flatMap e.enc)[j]?=some q→w.cell? ((⟨bq,o,none⟩:Addr).add j)=some q:=fun j q hq=>by
      have hadd:(⟨bq,o,none⟩:Addr).add j=⟨bq,o+j,none⟩:=by unfold Addr.add; split <;> simp_all
      rw[← htake,zh8] at hq;split at hq
      ·rw[zh9] at hq;rw[hadd]; simp[World.cell?,hg]; simpa using hq
      ·cases hq
     have hge:=grownCap_ge w (l.length+1) (cap+1) T;have hcm':=grownCap_le_maxLen w (l.length+1) (cap+1) T (by unfold maxLen; omega);have h5:=run_append_grow (P:=P) w t ty T ti z hT.und ht1 ht2 ⟨bq,o,none⟩ l.length (cap+1) (l.flatMap e.enc) (by rw[ht3]; exact e.length l) holds ⟨b,0,none⟩ 1 1 (e.enc a) (by rw[ht3]; exact hl1) hcells oM oM (by rw[ht4]; exact growslice_fits oM hb);have h6:=hw.newQue (a:=a) (zs:=(Builtin.zeroCells z.cells (grownCap w (l.length+1) (cap+1) T - (l.length+1))).toList) hi rfl hge hcm' (by rw[hzs]);refine⟨_,_,h5,?_⟩;simpa using h6
  obtain ⟨v',w',hr1,hr2⟩:=key;exact⟨v',w',g,_,mf (ha.ev hx) (ha.ev hy) hr1,hr2,I,I⟩
end
end Go.Sy
namespace Go.Proofs.YtcfkpajlakidbaaGreatDoor
open _root_.Go.Proofs.Tryz _root_.Go.Proofs.YtcfkpajlakidbaaGreatDoor.Tryz
open Go Go.Sy Go.Pl Go.Proofs
def gU (A:List Cl)(k:Int):Option (List Int):=(aG A k).map fun c=>c.sides.map aj.cell
theorem px (A:List Cl):∀ (n:Nat) (id:Int) (vis:List Int),cq A n id vis=dfs (gU A) n id vis
 | 0,_,_=>rfl
 | n+1,id,vis=>by
  rw[oa,i8];unfold gU;cases aG A id with
  | none=>rfl
  | some c =>
   simp only[Option.map_some,List.foldl_map];congr 2;funext v x;exact px A n x.cell v
theorem AJ {A:List Cl}{k:Int}{l:List Int}(h:gU A k=some l):∃ c,aG A k=some c∧c.sides.map aj.cell=l:=by
 unfold gU at h;cases hf:aG A k with
 | none=>rw[hf] at h; cases h
 | some c=>rw[hf] at h; injection h with h; exact⟨c,I,h⟩
theorem vw (A:List Cl):∀ v k l,gU A k=some l→l≠[]→v.contains k=false→oE A (v++[k])<oE A v:=by
 intro v k l hl _ hv;obtain ⟨c,hf,_⟩:=AJ hl;obtain ⟨hm,rfl⟩:=cV hf;exact zm hm hv
def um (A:List Cl)(v:List Int):Prop:=∀ x∈v,∀ l,gU A x=some l→∀ y∈l,gU A y≠none→y∈v
theorem sF (A:List Cl):∀ (ids v:List Int),um A v→um A (ids.foldl (fun v id=>cq A (A.length+1) id v) v)∧(∀ x∈v,x∈ids.foldl (fun v id=>cq A (A.length+1) id v) v) ∧
  (∀ id∈ids,gU A id≠none→id∈ids.foldl (fun v id=>cq A (A.length+1) id v) v)∧∀ x∈ids.foldl (fun v id=>cq A (A.length+1) id v) v,x∈v∨∃ id∈ids,Rch (gU A) id x
 | [],v,h=>⟨h,fun _ h=>h,by simp,fun _ h=>.inl h⟩
 | id::ids,v,h=>by
  have hc:=jj (gU A) (oE A) (fun v v' h=>nG h) (vw A) (A.length+1) id v (zk4 (zn _ _));have hs:=qm (gU A) (A.length+1) id v;have hd:=nF (gU A) (A.length+1) id v;rw[← px] at hc hs hd;have hcl:um A (cq A (A.length+1) id v):=by
   intro x hx l hl y hy hn;by_cases hv:x∈v
   ·exact hs y (h x hv l hl y hy hn)
   ·exact hc.2 x hx hv l hl y hy hn
  obtain ⟨h1,h2,h3,h4⟩:=sF A ids _ hcl;simp only[zi5];refine⟨h1,fun x hx=>h2 x (hs x hx),fun q hq hn=>?_,fun x hx=>?_⟩
  ·rcases ze8.1 hq with rfl | hq
   ·exact h2 _ (hc.1 hn)
   ·exact h3 q hq hn
  ·rcases h4 x hx with h5 | ⟨q,hq,h5⟩
   ·rcases hd x h5 with h6 | h6
    ·exact .inl h6
    ·exact .inr ⟨id,by simp,h6⟩
   ·exact .inr ⟨q,by simp[hq],h5⟩
theorem kL (A:List Cl)(ids:List Int)(x:Int):x∈cQ A ids↔∃ id∈ids,Rch (gU A) id x:=by
 obtain ⟨h1,_,h3,h4⟩:=sF A ids [] (fun x hx=>absurd hx (by simp));refine⟨fun h=>(h4 x h).resolve_left (by simp),fun ⟨id,hid,hr⟩=>?_⟩;have key:∀ a b,Rch (gU A) a b→a∈cQ A ids→b∈cQ A ids:=by
  intro a b hr;induction hr with
  | refl a _=>exact fun h=>h
  | step a b c l hl hb r ih=>exact fun h=>ih (h1 a h l hl b hb r.node)
 exact key id x hr (h3 id hid hr.node)
def fv (A:List Cl)(m:List Int):Nat:=((A.filter fun c=>!m.contains c.id).map fun c=>c.sides.length).sum
theorem jv (d:Cl)(A:List Cl)(m:List Int):fv (d::A) m=(if m.contains d.id then 0 else d.sides.length)+fv A m:=by
 unfold fv;rw[zi4];cases m.contains d.id <;> simp
theorem xO (A:List Cl)(m:List Int)(x:Int):fv A (m++[x])≤fv A m:=by
 induction A with
 | nil=>exact lR _
 | cons d t ih =>
  rw[jv,jv];have:m.contains d.id=true→(m++[x]).contains d.id=true:=fun h=>by simp at h ⊢; exact .inl h
  cases h1:m.contains d.id <;> cases h2:(m++[x]).contains d.id <;> simp_all <;> omega
theorem sE {A:List Cl}{m:List Int}{c:Cl}(hc:c∈A)(hn:m.contains c.id=false):fv A (m++[c.id])+c.sides.length≤fv A m:=by
 induction A with
 | nil=>simp at hc
 | cons d t ih =>
  have hm:=xO t m c.id;rw[jv,jv]
  rcases ze8.1 hc with rfl | hc'
  ·have:(m++[c.id]).contains c.id=true:=by simp
   rw[this,hn];simp;omega
  ·have h0:=ih hc';have:m.contains d.id=true→(m++[c.id]).contains d.id=true:=fun h=>by simp at h ⊢; exact .inl h
   cases h1:m.contains d.id <;> cases h2:(m++[c.id]).contains d.id <;> simp_all <;> omega
structure tY (A:List Cl)(ids left m:List Int):Prop where
 sound:∀ x∈m,∃ id∈ids,Rch (gU A) id x
 todo:∀ x∈left,gU A x≠none→∃ id∈ids,Rch (gU A) id x
 start:∀ x∈ids,gU A x≠none→x∈left∨x∈m
 sides:∀ x∈m,∀ l,gU A x=some l→∀ y∈l,gU A y≠none→y∈left∨y∈m
 few:left.length+fv A m≤ids.length+fv A []
theorem tY.begin (A:List Cl)(ids:List Int):tY A ids ids []:=⟨by simp,fun x hx h=>⟨x,hx,.refl x h⟩,fun x hx _=>.inl hx,by simp,Nat.le_refl _⟩
theorem Rch.snoc {adj:Int→Option (List Int)}{a b c:Int}{l:List Int}(h:Rch adj a b)(hl:adj b=some l)(hc:c∈l)(hn:adj c≠none):Rch adj a c:=by
 induction h with
 | refl a _=>exact .step a c c l hl hc (.refl c hn)
 | step a b' c' l' h' hb' _ ih=>exact .step a b' c l' h' hb' (ih hl)
theorem tY.skip {A:List Cl}{ids left m:List Int}{x:Int}(h:tY A ids (x::left) m)(hx:gU A x=none∨x∈m):tY A ids left m:=by
 refine⟨h.sound,fun y hy=>h.todo y (by simp[hy]),fun y hy hn=>?_,fun y hy l hl z hz hn=>?_,by have:=h.few; simp at this; omega⟩
 ·rcases h.start y hy hn with h1 | h1
  ·rcases ze8.1 h1 with rfl | h1
   ·rcases hx with hx | hx
    ·exact absurd hx hn
    ·exact .inr hx
   ·exact .inl h1
  ·exact .inr h1
 ·rcases h.sides y hy l hl z hz hn with h1 | h1
  ·rcases ze8.1 h1 with rfl | h1
   ·rcases hx with hx | hx
    ·exact absurd hx hn
    ·exact .inr hx
   ·exact .inl h1
  ·exact .inr h1
theorem tY.mark {A:List Cl}{ids left m:List Int}{x:Int}{c:Cl}(h:tY A ids (x::left) m)(hf:aG A x=some c)(hx:m.contains x=false):tY A ids (left++c.sides.map aj.cell) (m++[x]):=by
 have ha:gU A x=some (c.sides.map aj.cell):=by unfold gU; rw[hf]; rfl
 have hr:∃ id∈ids,Rch (gU A) id x:=h.todo x (by simp) (by rw[ha]; simp);obtain ⟨hcm,hcid⟩:=cV hf;refine⟨fun y hy=>?_,fun y hy hn=>?_,fun y hy hn=>?_,fun y hy l hl z hz hn=>?_,?_⟩
 ·rcases zf1.1 hy with hy | hy
  ·exact h.sound y hy
  ·simp at hy; subst hy; exact hr
 ·rcases zf1.1 hy with hy | hy
  ·exact h.todo y (by simp[hy]) hn
  ·obtain ⟨id,hid,hr⟩:=hr;exact⟨id,hid,hr.snoc ha hy hn⟩
 ·rcases h.start y hy hn with h1 | h1
  ·rcases ze8.1 h1 with rfl | h1
   ·exact .inr (by simp)
   ·exact .inl (by simp[h1])
  ·exact .inr (by simp[h1])
 ·rcases zf1.1 hy with hy | hy
  ·rcases h.sides y hy l hl z hz hn with h1 | h1
   ·rcases ze8.1 h1 with rfl | h1
    ·exact .inr (by simp)
    ·exact .inl (by simp[h1])
   ·exact .inr (by simp[h1])
  ·simp at hy;subst hy;rw[ha] at hl;injection hl with hl
   subst hl;exact .inl (zf1.2 (.inr hz))
 ·have h1:=h.few;have h2:=sE hcm (by rw[hcid]; exact hx);rw[hcid] at h2;simp at h1 ⊢;omega
theorem tY.done {A:List Cl}{ids m:List Int}(h:tY A ids [] m)(x:Int):m.contains x=(cQ A ids).contains x:=by
 have key:∀ a b,Rch (gU A) a b→a∈m→b∈m:=by
  intro a b hr;induction hr with
  | refl a _=>exact fun h=>h
  | step a b c l hl hb r ih=>exact fun h1=>ih ((h.sides a h1 l hl b hb r.node).resolve_left (by simp))
 have:x∈m↔x∈cQ A ids:=by
  rw[kL];exact⟨h.sound x,fun ⟨id,hid,hr⟩=>key id x hr ((h.start id hid hr.node).resolve_left (by simp))⟩
 rw[Bool.eq_iff_iff];simpa using this
set_option maxRecDepth 100000
set_option maxHeartbeats 1000000
theorem Tryz.sty123:STy Tryz.prog 123 4 1 1 (vb false):=⟨underlying123,⟨t4,by kernel_rfl,by kernel_rfl,by kernel_rfl,by kernel_rfl⟩,rfl,by decide⟩
def cG:Enc Bool 1:=⟨fun n=>[vb n],fun _=>rfl,fun _ u hu=>by simp at hu; subst hu; rfl,by decide⟩
def cD (A:List Cl)(m:List Int):List Bool:=A.map fun c=>m.contains c.id
theorem sz (A:List Cl):cD A []=List.replicate A.length false:=by
 unfold cD;induction A with
 | nil=>rfl
 | cons d t ih=>simp[List.replicate_succ] at ih ⊢; exact ih
theorem nD {A:List Cl}{m:List Int}{k:Nat}{c:Cl}(h:A[k]?=some c):(cD A m)[k]?=some (m.contains c.id):=by simp[cD,h]
theorem sw {A:List Cl}{m:List Int}{k:Nat}{c:Cl}(hn:(A.map Cl.id).Nodup)(h:A[k]?=some c):(cD A m).set k true=cD A (m++[c.id]):=by
 obtain ⟨hk,hc⟩:=zf3.1 h;apply List.ext_getElem?;intro q;rw[List.getElem?_set];unfold cD;simp only[zh7,ze4];split
 ·rename_i e;subst e;simp[hk,hc]
 ·rename_i hne;cases hq:A[q]? with
  | none=>rfl
  | some d =>
   obtain ⟨hq1,hq2⟩:=zf3.1 hq;have hd:¬ d.id=c.id:=fun e=>by
    have h1:(A.map Cl.id)[q]?=some c.id:=by simp[hq,e]
    have h2:(A.map Cl.id)[k]?=some c.id:=by simp[h]
    obtain ⟨i1,e1⟩:=zf3.1 h1;obtain ⟨i2,e2⟩:=zf3.1 h2
    rcases Nat.lt_or_gt_of_ne hne with h3 | h3
    ·exact zc7.1 hn k q i2 i1 h3 (e2.trans e1.symm)
    ·exact zc7.1 hn q k i1 i2 h3 (e1.trans e2.symm)
   simp[hd]
theorem tx (E:World)(g:PH)(s:Own)(v iv:Value)(A:List Cl)(ids:List Int)(hv:ao g v A)(hi:bZ g iv ids)(hA:cU A)(hs:(A.map Cl.id).Pairwise (· ≤ ·))(hn:(A.map Cl.id).Nodup)(hb:ids.length+fv A []<1099511627776) :
  Ctr Tryz.prog E 150 #[v,iv] g s (fun r g' s'=>s=s'∧Le g g'∧SlA cG g' r (cD A (cQ A ids))):=by
 obtain ⟨rs,hrs,hall⟩:=hv;have hv:ao g v A:=⟨rs,hrs,hall⟩;have hrl:=hall.length;have hAl:=hA.1;obtain ⟨vp,vc,rfl⟩:=hrs.form;obtain ⟨ip,ic,rfl⟩:=za2 hi;refine za9 (args:=[.slice vp rs.length vc,.slice ip ids.length ic]) func150 I ntmps150 (bE I) ?_;refine rZ (aT I (sW I (lU (eN az I) (lW (mK cG false sty123 I I I oM oM) ?_))));rintro _ _ _ ⟨b5,rfl,rfl,rfl⟩;refine aT I (rZ (lW (bS sty25 I I I (ab trivial) dC) ?_));rintro _ _ _ ⟨b12,rfl,rfl,rfl⟩;refine SL.drop (.cons _ (.refl _)) (SL.emptyRow 3 1 (some ⟨b12,0,none⟩) (lM I (lW (aQ (e:=encInt) (l:=[]) (m:=ids) 0 sty25 I I I hi (by simp; omega) (by simp; omega)) ?_)));rintro v14 _ _ ⟨rfl,rfl⟩;refine aT I (sQ (bK ?_));refine SC.to (g':=g) (s':=que encInt 3 v14 ids::rowA cG 4 (.slice (some ⟨b5,0,none⟩) rs.length rs.length) (cD A [])::s) (fun w hw=>by rw[sz,hrl]; exact hw.toQue (i:=0) I) ?_;refine oP (ι:=Value×List Int×List Int) (fun i=>[(0,.slice vp rs.length vc),(5,.slice (some ⟨b5,0,none⟩) rs.length rs.length),(6,i.1)]) (fun _=>g)
  (fun i=>que encInt 3 i.1 i.2.1::rowA cG 4 (.slice (some ⟨b5,0,none⟩) rs.length rs.length) (cD A i.2.2)::s) (fun i=>tY A ids i.2.1 i.2.2) (fun i=>i.2.1.length+fv A i.2.2)
  (v14,ids,[]) sB rfl rfl (tY.begin A ids) ?_
 rintro ⟨lv,left,m⟩ hW;dsimp only at hW ⊢;refine zd2 fun ⟨w0,hw0⟩=>?_;obtain ⟨p6,c6,rfl,hbq⟩:=Bu (i:=0) hw0 rfl;clear hw0 w0;refine sQ (sW I (lU (eN ak I) (lU (gR I I) (tZ ?_))));refine iP I (fun hgt=>?_) (fun hgt=>?_)
 ·obtain ⟨x,rest,rfl⟩:∃ x rest,left=x::rest:=by
   cases left with
   | nil=>simp at hgt
   | cons x r=>exact⟨x,r,rfl⟩
  have hb0:=hbq (by simp);have hfew:=hW.few
  rcases lh hs x with ⟨hf0,hat⟩ | ⟨c,k,hf0,hat,hck⟩
  ·refine kP (tN (bK (sW I (lM I (lU (iA ak zT3 I I hb0 dC (by simp only[slen,ze6]; omega)) ?_)))));refine lK (eB (e:=encInt) (l:=x::rest) (a:=x) iT3 I (Rd.que 0 I) I I) (lW (cL call68 I (e8 E g _ _ A x hv oM hs)) ?_);rintro _ _ _ ⟨rfl,rfl,rfl⟩;rw[hat];refine aT I (sW I (lU (SU.sliceL (l:=1) ak zT3 I I dC (by simp only[ze6]; omega)) ?_));refine aT I (sQ (sQ ?_));refine SC.to (g':=g) (s':=que encInt 3 (sliced p6 1 (x::rest).length c6 1) rest::rowA cG 4 (.slice (some ⟨b5,0,none⟩) rs.length rs.length) (cD A m)::s) (fun w hw=>hw.front (i:=0) I) ?_;refine rG (lM I (lU (SU.eq (v':=vb true) (lS I I) I) (lM I (yA I (yA I (yA I (yA I (yP I (tZ (cT I (xI (tX (bX ?_)))))))))))));exact gA (_,rest,m) sB I I (hW.skip (.inl (by unfold gU; rw[hf0]; rfl))) (by simp only[ze6]; omega)
  ·have hkl:k<A.length:=(zf3.1 hck).1;have hkr:k<rs.length:=oM;have hcid:=(cV hf0).2;have hcm:=(cV hf0).1;have hgm:(cD A m)[((k:Nat):Int).toNat]?=some (m.contains x):=by rw[← hcid]; exact nD hck
   have hcr:=hall.get hck (gE hkr);have hgr:rs[((k:Nat):Int).toNat]?=some rs[k]:=gE hkr;have hbv:=hrs.based oM;obtain ⟨yp,ycap,hrk,hys⟩:=dq hcr;rw[hrk] at hgr;refine kP (tN (bK (sW I (lM I (lU (iA ak zT3 I I hb0 dC (by simp only[slen,ze6]; omega)) ?_)))));refine lK (eB (e:=encInt) (l:=x::rest) (a:=x) iT3 I (Rd.que 0 I) I I) (lW (cL call68 I (e8 E g _ _ A x hv oM hs)) ?_);rintro _ _ _ ⟨rfl,rfl,rfl⟩;rw[hat];refine aT I (sW I (lU (SU.sliceL (l:=1) ak zT3 I I dC (by simp only[ze6]; omega)) ?_));refine aT I (sQ (sQ ?_));refine SC.to (g':=g) (s':=que encInt 3 (sliced p6 1 (x::rest).length c6 1) rest::rowA cG 4 (.slice (some ⟨b5,0,none⟩) rs.length rs.length) (cD A m)::s) (fun w hw=>hw.front (i:=0) I) ?_;refine rG (lM I (lU (SU.eq (v':=vb false) (lS I I) (zd9 vb (zf5 oM))) (lM I (yC I (yC I (lY I I I (iA underlying123 sizeOf4 I I I oM sL) (SL.gq (gT I I I dC) (eB (e:=cG) isAgg4 I (zb5 1 I) hgm I) dC (yF I (tZ ?_)))))))));refine iQ I (fun hmk=>?_) (fun hmk=>?_)
   ·refine xI (tX (bX ?_));exact gA (_,rest,m) sB I I (hW.skip (.inr (by simpa using hmk))) (by simp only[ze6]; omega)
   ·have hW2:=hW.mark hf0 hmk;have hca:=sE hcm (by rw[hcid]; exact hmk);rw[hcid] at hca;have hfl:(cD A m).length=A.length:=by simp[cD]
    have hset:(cD A m).set k true=cD A (m++[x]):=by rw[sw hn hck,hcid]
    simp only[ze6] at hfew;refine kP (tN (sW I (lM I (lU (iA underlying123 sizeOf4 I I I oM sL) (oZ (sT (e:=cG) (a:=true) 1 sizeOf4 I I I (by rw[hfl]; omega) I) ?_)))));refine tZ (rZ (aT I (bK ?_)));refine SC.to (g':=g) (s':=que encInt 3 (sliced p6 1 (x::rest).length c6 1) rest::rowA cG 4 (.slice (some ⟨b5,0,none⟩) rs.length rs.length) (cD A (m++[x]))::s) (fun w hw=>by rw[← hset]; exact hw) ?_;refine oP (ι:=Value×Nat) (fun i=>[(0,.slice vp rs.length vc),(5,.slice (some ⟨b5,0,none⟩) rs.length rs.length),(6,i.1),(7,vi k),(8,vi i.2)]) (fun _=>g)
     (fun i=>que encInt 3 i.1 (rest++(c.sides.take i.2).map aj.cell)::rowA cG 4 (.slice (some ⟨b5,0,none⟩) rs.length rs.length) (cD A (m++[x]))::s) (fun i=>i.2≤c.sides.length) (fun i=>c.sides.length - i.2)
     (sliced p6 1 (x::rest).length c6 1,0) sB rfl (by simp only[List.take_zero,List.map_nil,zc4]) (zf4 _) ?_
    rintro ⟨lv2,j⟩ hj;dsimp only at hj ⊢;refine sQ (sW I (lM I (lM I (lU (iA az aw I I hbv oM sL) (lU (fC am I aX I hbv) (lK (aZ (e:=encCell) (o:=2) (u:=.slice yp c.sides.length ycap) bH I hrs.rd hgr I) (lU (eN bF I) (yL I (tZ ?_)))))))));refine iP I (fun hlt=>?_) (fun hlt=>?_)
    ·have hjl:j<c.sides.length:=oM;have hb2:=hys.based oM;have hjx:c.sides[((j:Nat):Int).toNat]?=some c.sides[j]:=gE hjl;have htj:c.sides.take (j+1)=c.sides.take j++[c.sides[j]]:=tS hjl;have hql:(rest++(c.sides.take j).map aj.cell).length=rest.length+j:=by simp; omega
     generalize c.sides[j]=z at *;refine kP (tN (sQ (bK (rG (lM I (lM I (lM I (lU (iA az aw I I hbv oM sL) (lU (fC am I aX I hbv) (lK (aZ (e:=encCell) (o:=2) (u:=.slice yp c.sides.length ycap) bH I hrs.rd hgr I) (lM I (lU (iA bF bJ I I hb2 oM sL) (lU (fC de I zT3 I hb2) (lK (aZ (e:=encSide) (o:=0) (u:=vi z.cell) iT3 I hys.rd hjx I) (lW (bS sty25 I I I (ab sB) dC) ?_)))))))))))))));rintro _ _ _ ⟨b56,rfl,rfl,rfl⟩;refine lW (SO.queA (e:=encInt) 0 z.cell sty25 I I I I I (by rw[hql]; omega) (by rw[hql]; omega)) ?_;rintro v57 _ _ ⟨rfl,rfl⟩;refine lA I (nL (bN (tN (rG (lM I (yD I (lA I (nL ?_))))))));exact gA (v57,j+1) sB I (by dsimp only; rw[htj,zg3,← zg6]; rfl) lN lN
    ·have hjj:c.sides.take j=c.sides:=tL oM;rw[hjj];refine xI (tX (tX (bX (bN ?_))));exact gA (lv2,rest++c.sides.map aj.cell,m++[x]) sB I I hW2 (by simp only[ze3,ze4,ze6]; omega)
 ·have hl0:left=[]:=zf2 oM;subst hl0;refine xI (tX (tX (bX (tN (sW I (aT I (rE (dR (s':=rowA cG 4 (.slice (some ⟨b5,0,none⟩) rs.length rs.length) (cD A m)::s) (.cons _ (.refl _)) (fT fun g2 hle2 hrow=>?_)))))))));have hfe:cD A m=cD A (cQ A ids):=zc6 fun c _=>hW.done c.id;exact za6 (.inl I) results150 I ⟨I,hle2,by rw[← hfe]; exact hrow⟩
def x5 (L:List (Int×List aj)):List (Int×Int):=L.foldl (fun zl p=>p.2.foldl (fun zl r=>gh zl r.cell (p.1 * r.sign)) zl) []
def CL (L:List (Int×List aj)):List (Int×List Int):=L.zipIdx.foldl (fun ml p=>p.1.2.foldl (ez p.2) ml) []
def li (L:List (Int×List aj)):Int :=
 if (x5 L).any (fun p=>decide (p.2≠0)) then 24
 else if (CL L).any (fun p=>decide ((p.2.length:Int)≠2)) then 25
 else if ((iG (cX (CL L))).length:Int)≠L.length then 25 else 0
def oN (tl:List Cl)(c:Cl):List (Int×List aj):=c.sides.map fun x=>(x.sign,aC tl x)
theorem AH (tl:List Cl)(c:Cl):cM tl c=li (oN tl c):=by
 have h1:gv tl c.sides=x5 (oN tl c):=by
  unfold gv x5 oN;rw[List.foldl_map];rfl
 have h2:ex tl c.sides=CL (oN tl c):=by
  unfold ex CL oN;rw[List.zipIdx_map,List.foldl_map];rfl
 have h3:(oN tl c).length=c.sides.length:=by simp[oN]
 unfold cM li;rw[h1,h2,h3]
def AY (φ:Int→Int)(r:aj):aj:=⟨φ r.cell,r.sign⟩
def vJ (φ:Int→Int)(L:List (Int×List aj)):List (Int×List aj):=L.map fun p=>(p.1,p.2.map (AY φ))
def yg (L:List (Int×List aj)):List Int:=L.flatMap fun p=>p.2.map aj.cell
def kE {α:Type}(φ:Int→Int)(zl:List (Int×α)):List (Int×α):=zl.map fun p=>(φ p.1,p.2)
section
variable {φ:Int→Int}{K:Int→Prop}(hφ:∀ a b,K a→K b→φ a=φ b→a=b)
include hφ
theorem Ch {zl:List (Int×Int)}{k:Int}(x:Int)(hz:∀ p∈zl,K p.1)(hk:K k):gh (kE φ zl) (φ k) x=kE φ (gh zl k x):=by
 induction zl with
 | nil=>rfl
 | cons p r ih =>
  obtain ⟨a,z⟩:=p;have ha:=hz (a,z) (by simp);simp only[kE,zg2,gh] at ih ⊢;by_cases h:k=a
  ·subst h; simp
  ·rw[zf7 h,zf7 fun e=>h (hφ k a hk ha e)];simp only[zg2];rw[ih fun p hp=>hz p (by simp[hp])]
theorem Ck {zl:List (Int×List Int)}{k:Int}(x:Int)(hz:∀ p∈zl,K p.1)(hk:K k):fo (kE φ zl) (φ k) x=kE φ (fo zl k x):=by
 induction zl with
 | nil=>rfl
 | cons p r ih =>
  obtain ⟨a,z⟩:=p;have ha:=hz (a,z) (by simp);simp only[kE,zg2,fo] at ih ⊢;by_cases h:k=a
  ·subst h; simp
  ·rw[zf7 h,zf7 fun e=>h (hφ k a hk ha e)];simp only[zg2];rw[ih fun p hp=>hz p (by simp[hp])]
omit hφ in
theorem Cj {zl:List (Int×Int)}{k x:Int}(hz:∀ p∈zl,K p.1)(hk:K k):∀ p∈gh zl k x,K p.1:=by
 induction zl with
 | nil=>intro p hp; simp[gh] at hp; subst hp; exact hk
 | cons q r ih =>
  obtain ⟨a,z⟩:=q;have ha:=hz (a,z) (by simp);intro p hp;simp only[gh] at hp;split at hp
  ·rcases ze8.1 hp with rfl | hp
   ·exact ha
   ·exact hz p (by simp[hp])
  ·rcases ze8.1 hp with rfl | hp
   ·exact ha
   ·exact ih (fun p hp=>hz p (by simp[hp])) p hp
omit hφ in
theorem Cm {zl:List (Int×List Int)}{k x:Int}(hz:∀ p∈zl,K p.1)(hk:K k):∀ p∈fo zl k x,K p.1:=by
 induction zl with
 | nil=>intro p hp; simp[fo] at hp; subst hp; exact hk
 | cons q r ih =>
  obtain ⟨a,z⟩:=q;have ha:=hz (a,z) (by simp);intro p hp;simp only[fo] at hp;split at hp
  ·rcases ze8.1 hp with rfl | hp
   ·exact ha
   ·exact hz p (by simp[hp])
  ·rcases ze8.1 hp with rfl | hp
   ·exact ha
   ·exact ih (fun p hp=>hz p (by simp[hp])) p hp
theorem rV (t:Int):∀ (l:List aj) (zl:List (Int×Int)),(∀ r∈l,K r.cell)→(∀ p∈zl,K p.1) →
  (l.map (AY φ)).foldl (fun zl r=>gh zl r.cell (t * r.sign)) (kE φ zl)=kE φ (l.foldl (fun zl r=>gh zl r.cell (t * r.sign)) zl)∧∀ p∈l.foldl (fun zl r=>gh zl r.cell (t * r.sign)) zl,K p.1
 | [],zl,_,hz=>⟨rfl,hz⟩
 | r::l,zl,hl,hz=>by
  have hr:=hl r (by simp);have:=rV t l (gh zl r.cell (t * r.sign)) (fun q hq=>hl q (by simp[hq])) (Cj hz hr);simp only[zg2,zi5];rw[show (AY φ r).cell=φ r.cell from rfl,show (AY φ r).sign=r.sign from rfl,Ch hφ _ hz hr];exact this
theorem wj (t:Int):∀ (l:List aj) (zl:List (Int×List Int)),(∀ r∈l,K r.cell)→(∀ p∈zl,K p.1) →
  (l.map (AY φ)).foldl (ez t) (kE φ zl)=kE φ (l.foldl (ez t) zl)∧∀ p∈l.foldl (ez t) zl,K p.1
 | [],zl,_,hz=>⟨rfl,hz⟩
 | r::l,zl,hl,hz=>by
  have hr:=hl r (by simp);have:=wj t l (fo zl r.cell t) (fun q hq=>hl q (by simp[hq])) (Cm hz hr);simp only[zg2,zi5];rw[show ez t (kE φ zl) (AY φ r)=kE φ (fo zl r.cell t) from Ck hφ _ hz hr];exact this
theorem vR:∀ (L:List (Int×List aj)) (zl:List (Int×Int)),(∀ k∈yg L,K k)→(∀ p∈zl,K p.1) →
  (vJ φ L).foldl (fun zl p=>p.2.foldl (fun zl r=>gh zl r.cell (p.1 * r.sign)) zl) (kE φ zl)=kE φ (L.foldl (fun zl p=>p.2.foldl (fun zl r=>gh zl r.cell (p.1 * r.sign)) zl) zl)
 | [],_,_,_=>rfl
 | p::L,zl,hl,hz=>by
  obtain ⟨h1,h2⟩:=rV hφ p.1 p.2 zl (fun r hr=>hl _ (List.mem_flatMap.2 ⟨p,by simp,ze9.2 ⟨r,hr,rfl⟩⟩)) hz;simp only[vJ,zg2,zi5] at h1 ⊢;rw[h1];exact vR L _ (fun k hk=>hl k (by simp only[yg,zh3,zf1]; exact .inr hk)) h2
theorem yV:∀ (L:List (Int×List aj)) (i:Nat) (zl:List (Int×List Int)),(∀ k∈yg L,K k)→(∀ p∈zl,K p.1) →
  ((vJ φ L).zipIdx i).foldl (fun ml p=>p.1.2.foldl (ez p.2) ml) (kE φ zl)=kE φ ((L.zipIdx i).foldl (fun ml p=>p.1.2.foldl (ez p.2) ml) zl)
 | [],_,_,_,_=>rfl
 | p::L,i,zl,hl,hz=>by
  obtain ⟨h1,h2⟩:=wj hφ i p.2 zl (fun r hr=>hl _ (List.mem_flatMap.2 ⟨p,by simp,ze9.2 ⟨r,hr,rfl⟩⟩)) hz;simp only[vJ,zg2,List.zipIdx_cons,zi5] at h1 ⊢;rw[h1];exact yV L (i+1) _ (fun k hk=>hl k (by simp only[yg,zh3,zf1]; exact .inr hk)) h2
end
theorem zz {α:Type}(φ:Int→Int)(zl:List (Int×α))(q:α→Bool):(kE φ zl).any (fun p=>q p.2)=zl.any (fun p=>q p.2):=by
 simp only[kE,List.any_map];rfl
theorem BJ (φ:Int→Int)(ml:List (Int×List Int)):cX (kE φ ml)=cX ml:=by
 simp only[cX,kE,List.foldl_map];rfl
theorem vE {φ:Int→Int}{L:List (Int×List aj)}(hφ:∀ a∈yg L,∀ b∈yg L,φ a=φ b→a=b):li (vJ φ L)=li L:=by
 have h1:x5 (vJ φ L)=kE φ (x5 L):=vR (K:=fun k=>k∈yg L) (fun a b ha hb=>hφ a ha b hb) L [] (fun _ h=>h) (by simp);have h2:CL (vJ φ L)=kE φ (CL L):=yV (K:=fun k=>k∈yg L) (fun a b ha hb=>hφ a ha b hb) L 0 [] (fun _ h=>h) (by simp);unfold li;rw[h1,h2,zz φ _ fun z=>decide (z≠0),zz φ _ fun l:List Int=>decide ((l.length:Int)≠2),BJ];have h3:(vJ φ L).length=L.length:=by simp[vJ]
 rw[h3]
def code (k q:Nat):Int:=if q<k then ((q * 16+k:Nat):Int) else ((k * 16+(q+1):Nat):Int)
def D6 (n:Nat):List (Int×List aj):=(List.range n).reverse.map fun k:Nat=>(cI k,(List.range (n - 1)).reverse.map fun q:Nat=>⟨code k q,cI q⟩)
theorem Dl:∀ n,n<10→2<n→li (D6 n)=0:=by decide +kernel
theorem gG (b:Nat)(a:Int)(l:List Int):eo b (a::l)=(if b % 2=1 then [a] else [])++eo (b / 2) l:=by
 unfold eo;have hz:∀ (l:List Int) (i:Nat),((l.zipIdx (i+1)).filter fun p=>b / 2 ^ p.2 % 2 == 1).map (·.1)=((l.zipIdx i).filter fun p=>b / 2 / 2 ^ p.2 % 2 == 1).map (·.1):=by
  intro l;induction l with
  | nil=>intro i; rfl
  | cons x r ih =>
   intro i;have hp:b / 2 ^ (i+1)=b / 2 / 2 ^ i:=by rw[Nat.pow_succ,Nat.mul_comm,Nat.div_div_eq_div_mul]
   simp only[List.zipIdx_cons,zi4,hp];have:=ih (i+1);split
   ·simp only[zg2,this]
   ·exact this
 simp only[List.zipIdx_cons,zi4,Nat.pow_zero,Nat.div_one];by_cases h:b % 2=1
 ·simp only[h,if_true,beq_self_eq_true,zg2];rw[hz l 0];rfl
 ·have h2:(b % 2 == 1)=false:=by simpa using h
  simp only[h,h2,if_false,Bool.false_eq_true];rw[hz l 0];rfl
theorem zV (l:List Int):∀ b,(eo b l).Sublist l:=by
 induction l with
 | nil=>intro b; exact .slnil
 | cons a r ih =>
  intro b;rw[gG];split
  ·exact (ih _).cons_cons a
  ·exact (ih _).cons a
theorem Bx (l:List Int):∀ b,b≠0→b<2 ^ l.length→eo b l≠[]:=by
 induction l with
 | nil=>intro b h0 h; simp at h; exact absurd h h0
 | cons a r ih =>
  intro b h0 h;rw[gG];split
  ·simp
  ·rename_i h1;rw[ze6,Nat.pow_succ] at h;simpa using ih (b / 2) oM oM
theorem uT {x l:List Int}(h:x.Sublist l):∃ b,b<2 ^ l.length∧eo b l=x:=by
 induction h with
 | slnil=>exact⟨0,by simp,rfl⟩
 | cons a _ ih =>
  obtain ⟨b,hb,e⟩:=ih;refine⟨2 * b,by rw[ze6,Nat.pow_succ]; omega,?_⟩;rw[gG,zf7 oM,show 2 * b / 2=b by omega,e];rfl
 | cons_cons a _ ih =>
  obtain ⟨b,hb,e⟩:=ih;refine⟨2 * b+1,by rw[ze6,Nat.pow_succ]; omega,?_⟩;rw[gG,zf8 oM,show (2 * b+1) / 2=b by omega,e];rfl
theorem fX (t x:List Int):x∈bD t↔x.Sublist t∧x≠[]:=by
 unfold bD;constructor
 ·intro h;obtain ⟨i,hi,rfl⟩:=ze9.1 h;have:=List.mem_range.1 hi;exact⟨zV _ _,Bx _ _ oM oM⟩
 ·rintro ⟨h,hne⟩;obtain ⟨b,hb,rfl⟩:=uT h;have h0:b≠0:=fun e=>by
   subst e;apply hne;have:∀ l:List Int,eo 0 l=[]:=by
    intro l;induction l with
    | nil=>rfl
    | cons a r ih=>rw[gG]; simpa using ih
   exact this t
  exact ze9.2 ⟨b - 1,List.mem_range.2 oM,by rw[show b - 1+1=b by omega]⟩
structure gp (all:List (List Int)):Prop where
 strict:ew all
 form:∀ s∈all,s≠[]∧dA s∧s.length≤9
 faces:∀ s∈all,2≤s.length→∀ k,k<s.length→s.eraseIdx k∈all
theorem gp.nil:gp []:=⟨List.Pairwise.nil,by simp,by simp⟩
theorem gp.add {all:List (List Int)}{t:List Int}(h:gp all)(ht:dA t)(hl:t.length≤9):gp (dY all t):=by
 refine⟨jI all t,fun s hs=>?_,fun s hs h2 k hk=>?_⟩
 ·rcases (fJ all t s).1 hs with h1 | h1
  ·exact h.form s h1
  ·obtain ⟨h2,h3⟩:=(fX t s).1 h1;exact⟨h3,ht.sublist h2,zk3 h2.length_le hl⟩
 ·refine (fJ all t _).2 ?_
  rcases (fJ all t s).1 hs with h1 | h1
  ·exact .inl (h.faces s h1 h2 k hk)
  ·refine .inr ((fX t _).2 ⟨(List.eraseIdx_sublist s k).trans ((fX t s).1 h1).1,fun e=>?_⟩);have:=zd9 List.length e;rw[List.length_eraseIdx] at this;simp[hk] at this;omega
theorem fY:∀ (ls acc:List (List Int)) {all:List (List Int)},aM acc ls=some all→gp acc→acc.length≤4000→gp all∧all.length≤4000
 | [],acc,all,h,hg,hl=>by cases h; exact⟨hg,hl⟩
 | s::r,acc,all,h,hg,hl=>by
  unfold aM at h;split at h
  ·exact fY r acc h hg hl
  ·rename_i hb;split at h
   ·cases h
   ·rename_i hlen;refine fY r _ h (hg.add (jS s) ?_) oM;cases hc:cg s with
    | nil=>simp
    | cons a q =>
     rw[hc] at hb;simp[iH] at hb;simp;omega
section
variable {all:List (List Int)}(hg:gp all)
include hg
theorem gp.get_lb {t:List Int}(ht:t∈all):all[lbL all t]?=some t:=by
 obtain ⟨h1,h2⟩:=nu t hg.strict.srt;have hs:ew (all.take (lbL all t)++all.drop (lbL all t)):=by rw[zi8]; exact hg.strict
 have hd:=(List.pairwise_append.1 hs).2.1;have hm:t∈all.drop (lbL all t):=by
  have:t∈all.take (lbL all t)++all.drop (lbL all t):=by rw[zi8]; exact ht
  rcases zf1.1 this with h | h
  ·have:=h1 t h;rw[cu] at this;exact absurd this dC
  ·exact h
 have e:all[lbL all t]?=(all.drop (lbL all t))[0]?:=by simp
 rw[e];cases hc:all.drop (lbL all t) with
 | nil=>rw[hc] at hm; simp at hm
 | cons y r =>
  rw[hc] at hm hd h2
  rcases ze8.1 hm with rfl | hm
  ·rfl
  ·exact absurd ((zj7.1 hd).1 t hm) (h2 y (by simp))
theorem gp.lb_get {k:Nat}(hk:k<all.length):lbL all all[k]=k:=by
 have h1:=hg.get_lb (gM hk);obtain ⟨h2,h3⟩:=zf3.1 h1;have hself:¬ ai all[k] all[k]<0:=by rw[cu]; decide
 rcases Nat.lt_trichotomy (lbL all all[k]) k with h | h | h
 ·have:=zc7.1 hg.strict _ _ h2 hk h;rw[h3] at this;exact absurd this hself
 ·exact h
 ·have:=zc7.1 hg.strict _ _ hk h2 h;rw[h3] at this;exact absurd this hself
end
def ixC (all:List (List Int))(t:List Int):Int:=((lbL all t:Nat):Int)+1
theorem gp.inj {all:List (List Int)}(hg:gp all){t u:List Int}(ht:t∈all)(hu:u∈all)(h:ixC all t=ixC all u):t=u:=by
 have h1:=hg.get_lb ht;have h2:=hg.get_lb hu;have:lbL all t=lbL all u:=by unfold ixC at h; omega
 rw[this,h2] at h1;injection h1 with h1
 exact h1.symm
theorem gp.lt {all:List (List Int)}(hg:gp all){t u:List Int}(ht:t∈all)(hu:u∈all)(h:ai t u<0):ixC all t<ixC all u:=by
 obtain ⟨i1,e1⟩:=zf3.1 (hg.get_lb ht);obtain ⟨i2,e2⟩:=zf3.1 (hg.get_lb hu);unfold ixC
 rcases Nat.lt_trichotomy (lbL all t) (lbL all u) with h1 | h1 | h1
 ·omega
 ·have:t=u:=hg.inj ht hu (by unfold ixC; omega);subst this;rw[cu] at h;exact absurd h dC
 ·have:=zc7.1 hg.strict _ _ i2 i1 h1;rw[e1,e2] at this;exact absurd h (gy this)
def eW (all:List (List Int))(s:List Int):List aj:=if s.length≤1 then [] else (List.range s.length).reverse.map fun k:Nat=>⟨ixC all (s.eraseIdx k),cI k⟩
def gS (all:List (List Int))(s:List Int):Cl:=⟨ixC all s,(s.length:Int) - 1,eW all s⟩
theorem wx {s:List Int}(hs:dA s):∀ {i j:Nat},i<j→j<s.length→ai (s.eraseIdx j) (s.eraseIdx i)<0:=by
 induction s with
 | nil=>intro i j _ h; simp at h
 | cons a r ih =>
  intro i j hij hj;obtain ⟨h1,h2⟩:=zj7.1 hs;cases j with
  | zero=>omega
  | succ j =>
   simp only[ze6] at hj;cases i with
   | zero =>
    cases r with
    | nil=>simp at hj
    | cons b q =>
     have hab:=h1 b (by simp);have hl:((a::b::q).eraseIdx (j+1)).length=((a::b::q).eraseIdx 0).length:=by
      simp[List.length_eraseIdx] at hj ⊢;omega
     rw[fz hl];simp only[List.eraseIdx_cons_succ,List.eraseIdx_cons_zero,fM];have:lL a b = -1:=by unfold lL; rw[zf8 hab]
     simp[this]
   | succ i =>
    have h3:=ih h2 (i:=i) (j:=j) oM oM;have hl:(r.eraseIdx j).length=(r.eraseIdx i).length:=by
     rw[List.length_eraseIdx,List.length_eraseIdx,zf8 oM,zf8 oM]
    have hl2:((a::r).eraseIdx (j+1)).length=((a::r).eraseIdx (i+1)).length:=by simp[hl]
    rw[fz hl] at h3;rw[fz hl2];simp only[List.eraseIdx_cons_succ,fM];have:lL a a=0:=by unfold lL; rw[zf7 oM,zf7 oM]
    simpa [this] using h3
theorem qH {A:List Cl}(h:(A.map Cl.id).Nodup){x:Cl}(hx:x∈A):aG A x.id=some x:=by
 induction A with
 | nil=>simp at hx
 | cons c t ih =>
  simp only[zg2,zj6] at h;unfold aG
  rcases ze8.1 hx with rfl | hx
  ·simp
  ·have hne:¬ c.id=x.id:=fun e=>h.1 (by rw[e]; exact ze9.2 ⟨x,hx,I⟩);rw[List.find?_cons];simp only[hne,decide_false];exact ih h.2 hx
theorem xx (c:Cl):cN (cN c)=cN c:=by
 unfold cN;rw[← dX (eu c.sides) (aV.refl _)]
theorem fI (l:List Cl):aa (aa l)=aa l:=by
 have h1:sortBy Cl.id (aa l)=aa l:=(dX (gH l) (aV.refl _)).symm;show (sortBy Cl.id (aa l)).map cN=aa l;rw[h1];unfold aa;rw[zi3];exact zc6 fun c _=>xx c
theorem Bf {α:Type}{key:α→Int}{l:List α}(h:l.Pairwise fun a b=>key b<key a):sortBy key l=l.reverse:=by
 refine (dX ?_ ⟨by simp,fun c=>?_⟩).symm
 ·unfold Srt;rw[List.pairwise_reverse];exact h.imp fun h=>by omega
 ·rw[List.filter_reverse];have:∀ m:List α,m.Pairwise (fun a b=>key b<key a)→(∀ a∈m,(key a == c)=true)→m.reverse=m:=by
   intro m hm hc
   match m,hm,hc with
   | [],_,_=>rfl
   | [_],_,_=>rfl
   | a::b::r,hm,hc =>
    have h1:=(zj7.1 hm).1 b (by simp);have h2:=hc a (by simp);have h3:=hc b (by simp);simp at h2 h3;omega
  exact this _ (h.sublist List.filter_sublist) fun a ha=>(zh2.1 ha).2
section
variable {all:List (List Int)}(hg:gp all)
include hg
theorem gp.face {s:List Int}(hs:s∈all){k:Nat}(hk:k<s.length)(h2:2≤s.length):s.eraseIdx k∈all∧(s.eraseIdx k).length=s.length - 1 :=
 ⟨hg.faces s hs h2 k hk,by rw[List.length_eraseIdx,zf8 hk]⟩
theorem gp.sides {s:List Int}(hs:s∈all):sortBy aj.cell (a6 all s s.length)=eW all s:=by
 have hne:=(hg.form s hs).1;have hst:=(hg.form s hs).2.1;by_cases h1:s.length≤1
 ·have h0:s.length=1:=by have:=List.length_pos_iff.2 hne; omega
  unfold eW;rw[zf8 h1,h0];have:eU all s 0=[]:=by
   unfold eU;have h3:(s.eraseIdx 0).length=0:=by rw[List.length_eraseIdx,zf8 oM]; omega
   rw[zf7 oM]
  simp[a6,List.range_succ,this,sortBy]
 ·have h2:2≤s.length:=oM;have e:a6 all s s.length=(List.range s.length).map fun k:Nat=>(⟨ixC all (s.eraseIdx k),cI k⟩:aj):=by
   unfold a6;rw[List.flatMap_def];have:(List.range s.length).map (eU all s)=(List.range s.length).map fun k:Nat=>[(⟨ixC all (s.eraseIdx k),cI k⟩:aj)]:=zc6 fun k hk=>by
    have hk:=List.mem_range.1 hk;unfold eU;rw[(hg.face hs hk h2).2,zf8 oM];rfl
   rw[this];generalize List.range s.length=R;induction R with
   | nil=>rfl
   | cons x r ih=>simp only[zg2,List.flatten_cons,ih]; rfl
  unfold eW;rw[zf7 h1,e,List.map_reverse];refine Bf ?_;rw[zj8];refine List.Pairwise.imp_of_mem ?_ (List.pairwise_lt_range (n:=s.length));intro i j hi hj hij;have hi:=List.mem_range.1 hi;have hj:=List.mem_range.1 hj;exact hg.lt (hg.face hs hj h2).1 (hg.face hs hi h2).1 (wx hst hij hj)
theorem gp.cells:aa (a8 all)=all.map (gS all):=by
 rw[pY];apply List.ext_getElem?;intro k;simp only[zh7];by_cases hk:k<all.length
 ·rw[ir hk,gE hk];simp only[Option.map_some,zg5];unfold cN mO gS;simp only[hg.sides (gM hk),ixC,hg.lb_get hk]
 ·rw[List.getElem?_eq_none (by rw[bC]; omega),List.getElem?_eq_none oM];rfl
theorem gp.ids:((all.map (gS all)).map Cl.id).Pairwise (· < ·):=by
 rw[zi3,zj8];refine List.Pairwise.imp_of_mem ?_ hg.strict;intro a b ha hb h;exact hg.lt ha hb h
theorem gp.find {s:List Int}(hs:s∈all):aG (all.map (gS all)) (ixC all s)=some (gS all s) :=
 qH (x:=gS all s) (hg.ids.imp fun h=>by omega) (ze9.2 ⟨s,hs,rfl⟩)
end
theorem zO (k:Nat):cI k=1∨cI k = -1:=by unfold cI; omega
theorem pT {all:List (List Int)}{s:List Int}(h:2≤s.length){i:Nat}(hi:i<s.length):(eW all s)[i]?=some ⟨ixC all (s.eraseIdx (s.length - 1 - i)),cI ((s.length - 1 - i:Nat):Int)⟩:=by
 unfold eW;rw[zf7 oM,zh7,List.getElem?_reverse (by simpa using hi)];simp only[zi2];rw[List.getElem?_range oM];rfl
theorem rB {all:List (List Int)}{s:List Int}:(eW all s).length=if s.length≤1 then 0 else s.length:=by
 unfold eW;split <;> simp
section
variable {all:List (List Int)}(hg:gp all)
include hg
theorem gp.formOk {s:List Int}(hs:s∈all):cz (all.map (gS all)) (gS all s)=0:=by
 obtain ⟨hne,hst,h9⟩:=hg.form s hs;have hp:=List.length_pos_iff.2 hne;have hlen:(gS all s).sides.length=if s.length≤1 then 0 else s.length:=rB
 have hdim:(gS all s).dim=(s.length:Int) - 1:=rfl;have h1:eX (gS all s)=false:=by unfold eX; rw[hdim]; simp; omega
 have h2:aW (gS all s)=false:=by
  unfold aW;rw[hdim,hlen];split
  ·simp; omega
  ·simp; omega
 have h3:(List.range (gS all s).sides.length).any (hX (all.map (gS all)) (gS all s))=false:=by
  rw[zj9];intro i hi;have hi:=List.mem_range.1 hi;rw[hlen] at hi;split at hi
  ·omega
  ·rename_i hl;have h2:2≤s.length:=oM;have hgi:=pT (all:=all) h2 hi;have hf:=hg.face hs (k:=s.length - 1 - i) oM h2;unfold hX;rw[show (gS all s).sides[i]?=_ from hgi];show ¬ cj _ _ i ⟨ixC all (s.eraseIdx (s.length - 1 - i)),_⟩=true;unfold cj;dsimp only;rw[hg.find hf.1];have hd:(gS all (s.eraseIdx (s.length - 1 - i))).dim=(gS all s).dim - 1:=by
    show ((s.eraseIdx (s.length - 1 - i)).length:Int) - 1=(s.length:Int) - 1 - 1;rw[hf.2];omega
   simp only[Option.isSome_some,Bool.not_true,Bool.false_or,Option.getD_some,hd,ne_eq,not_true_eq_false,decide_false];by_cases hi0:i>0
   ·have hgp:=pT (all:=all) h2 (i:=i - 1) oM;rw[show (gS all s).sides[i - 1]?=_ from hgp];have hf2:=hg.face hs (k:=s.length - 1 - (i - 1)) oM h2;have:=hg.lt hf2.1 hf.1 (wx hst oM oM);simp;omega
   ·simp[hi0]
 have h4:(gS all s).sides.any bL=false:=by
  rw[zj9];intro x hx;show ¬ bL x=true;have hx:x∈eW all s:=hx;unfold eW at hx;split at hx
  ·simp at hx
  ·obtain ⟨k,_,rfl⟩:=ze9.1 hx
   rcases zO k with h | h <;> simp[bL,h]
 have h5:(decide ((gS all s).dim=1)&&decide (mC (gS all s).sides≠0))=false:=by
  by_cases hd:(gS all s).dim=1
  ·rw[hdim] at hd;have hl2:s.length=2:=oM;have:mC (gS all s).sides=0:=by
    show mC (eW all s)=0;unfold eW;rw[zf7 oM,hl2];simp[List.range_succ,mC,cI]
   rw[this];simp
  ·simp[hd]
 unfold cz;rw[h1,h2,h3,h4,h5];rfl
end
theorem xK (s:List Int):∀ {k q:Nat},k≤q→(s.eraseIdx k).eraseIdx q=(s.eraseIdx (q+1)).eraseIdx k:=by
 induction s with
 | nil=>intro k q _; rfl
 | cons a r ih =>
  intro k q h;cases k with
  | zero=>simp
  | succ k =>
   cases q with
   | zero=>omega
   | succ q =>
    simp only[List.eraseIdx_cons_succ];rw[ih oM]
theorem pI {s:List Int}(hs:s.Nodup){a b i:Nat}(hab:a<b)(hb:b<s.length)(hi:i<s.length):s[i]∈(s.eraseIdx b).eraseIdx a↔i≠a∧i≠b:=by
 have hinj:∀ {j k:Nat} (hj:j<s.length) (hk:k<s.length),s[j]=s[k]→j=k:=fun {j k} hj hk e=>by
  rcases Nat.lt_trichotomy j k with h | h | h
  ·exact absurd e (zc7.1 hs j k hj hk h)
  ·exact h
  ·exact absurd e.symm (zc7.1 hs k j hk hj h)
 rw[List.mem_eraseIdx_iff_getElem];constructor
 ·rintro ⟨j,hj1,hj2,e⟩;have hj1':=hj1;rw[List.length_eraseIdx,zf8 hb] at hj1';rw[List.getElem_eraseIdx] at e;split at e
  ·have:=hinj _ _ e;omega
  ·have:=hinj _ _ e;omega
 ·rintro ⟨h1,h2⟩
  rcases Nat.lt_or_ge i b with h | h
  ·refine⟨i,by rw[List.length_eraseIdx,zf8 hb]; omega,h1,?_⟩;rw[List.getElem_eraseIdx,dif_pos h]
  ·refine⟨i - 1,by rw[List.length_eraseIdx,zf8 hb]; omega,oM,?_⟩;rw[List.getElem_eraseIdx,dif_neg oM];congr 1;omega
theorem xL {s:List Int}(hs:s.Nodup){a b c d:Nat}(hab:a<b)(hb:b<s.length)(hcd:c<d)(hd:d<s.length)(h:(s.eraseIdx b).eraseIdx a=(s.eraseIdx d).eraseIdx c):a=c∧b=d:=by
 have key:∀ i,i<s.length→((i≠a∧i≠b)↔(i≠c∧i≠d)):=fun i hi=>by
  rw[← pI hs hab hb hi,← pI hs hcd hd hi,h]
 have ha:=key a oM;have hb':=key b hb;have hc:=key c oM;have hd':=key d hd;omega
def ED (all:List (List Int))(s:List Int)(c:Int):Int:=ixC all ((s.eraseIdx (c % 16).toNat).eraseIdx (c / 16).toNat)
theorem zj {n k q:Nat}(hk:k<n)(hq:q<n - 1):∃ a b:Nat,a<b∧b<n∧code k q=((a * 16+b:Nat):Int)∧((q<k∧a=q∧b=k)∨(k≤q∧a=k∧b=q+1)):=by
 unfold code;by_cases h:q<k
 ·rw[zf8 h]; exact⟨q,k,h,hk,I,.inl ⟨h,I,I⟩⟩
 ·rw[zf7 h]; exact⟨k,q+1,oM,oM,I,.inr ⟨oM,I,I⟩⟩
theorem i9 {a b:Nat}(h:b<16):((((a * 16+b:Nat):Int) % 16).toNat=b)∧((((a * 16+b:Nat):Int) / 16).toNat=a):=oM
section
variable {all:List (List Int)}(hg:gp all)
include hg
theorem gp.aroundOk {s:List Int}(hs:s∈all)(h3:2<s.length):cM (all.map (gS all)) (gS all s)=0:=by
 obtain ⟨hne,hst,h9⟩:=hg.form s hs;have hnd:s.Nodup:=hst.imp fun h=>by omega
 have hE:∀ a b,a<b→b<s.length→(s.eraseIdx b).eraseIdx a∈all:=fun a b hab hb=>by
  have h1:=hg.face hs (k:=b) hb oM;exact (hg.face h1.1 (k:=a) (by rw[h1.2]; omega) (by rw[h1.2]; omega)).1
 have hlook:oN (all.map (gS all)) (gS all s)=vJ (ED all s) (D6 s.length):=by
  unfold oN vJ D6;show (eW all s).map _=_;unfold eW;rw[zf7 oM,zi3,zi3];refine zc6 fun k hk=>?_;have hk:k<s.length:=by simpa using hk
  have hf:=hg.face hs hk oM;simp only[Function.comp_def];congr 1;unfold aC;rw[hg.find hf.1];show eW all (s.eraseIdx k)=_;unfold eW;rw[hf.2,zf7 oM,zi3];refine zc6 fun q hq=>?_;have hq:q<s.length - 1:=by simpa using hq
  obtain ⟨a,b,hab,hb,hc,hcase⟩:=zj hk hq;simp only[Function.comp_def,AY];congr 1;unfold ED;rw[hc,(i9 (a:=a) (b:=b) oM).1,(i9 (a:=a) (b:=b) oM).2]
  rcases hcase with ⟨_,rfl,rfl⟩ | ⟨h,rfl,rfl⟩
  ·rfl
  ·rw[xK s h]
 rw[AH,hlook,vE,Dl _ oM h3];have hkey:∀ x∈yg (D6 s.length),∃ a b:Nat,a<b∧b<s.length∧x=((a * 16+b:Nat):Int):=by
  intro x hx;obtain ⟨p,hp,hx⟩:=List.mem_flatMap.1 hx;obtain ⟨k,hk,rfl⟩:=ze9.1 hp;obtain ⟨r,hr,rfl⟩:=ze9.1 hx;obtain ⟨q,hq,rfl⟩:=ze9.1 hr;obtain ⟨a,b,hab,hb,hc,_⟩:=zj (n:=s.length) (k:=k) (q:=q) (by simpa using hk) (by simpa using hq);exact⟨a,b,hab,hb,hc⟩
 intro x hx y hy h;obtain ⟨a,b,hab,hb,rfl⟩:=hkey x hx;obtain ⟨c,d,hcd,hd,rfl⟩:=hkey y hy;unfold ED at h;rw[(i9 (a:=a) (b:=b) oM).1,(i9 (a:=a) (b:=b) oM).2,(i9 (a:=c) (b:=d) oM).1,(i9 (a:=c) (b:=d) oM).2] at h;obtain ⟨rfl,rfl⟩:=xL hnd hab hb hcd hd (hg.inj (hE a b hab hb) (hE c d hcd hd) h);rfl
end
theorem sJ {tl:List Cl}:∀ {l:List Cl} {n:Int},(∀ x∈l,n<x.id)→l.Pairwise (fun a b=>a.id<b.id)→(∀ x∈l,cz tl x=0)→gg tl l n=none
 | [],_,_,_,_=>rfl
 | x::r,n,h1,h2,h3=>by
  have hx:=h1 x (by simp);obtain ⟨h4,h5⟩:=zj7.1 h2;unfold gg;rw[zf7 oM,zf7 (by rw[h3 x (by simp)]; simp)];exact sJ h4 h5 fun y hy=>h3 y (by simp[hy])
theorem sI {tl:List Cl}:∀ {l:List Cl},(∀ x∈l,x.dim>1→cM tl x=0)→m6 tl l=none
 | [],_=>rfl
 | x::r,h=>by
  unfold m6;rw[zf7 fun ⟨h1,h2⟩=>h2 (h x (by simp) h1)];exact sI fun y hy=>h y (by simp[hy])
theorem wB {l:List Cl}(h0:l.length≤4000)(h1:∀ x∈aa l,0<x.id)(h2:(aa l).Pairwise fun a b=>a.id<b.id)(h3:∀ x∈aa l,cz (aa l) x=0)(h4:∀ x∈aa l,x.dim>1→cM (aa l) x=0):aU l=(0,0):=by
 unfold aU;rw[zf7 oM,aJ h2,sJ h1 h2 h3,sI h4];rfl
theorem n5 (ls:List (List Int)):aU (bT ls)=(0,0):=by
 unfold bT;cases h:aM [] ls with
 | none=>rfl
 | some all =>
  obtain ⟨hg,hl⟩:=fY ls [] h gp.nil (by simp);dsimp only;have hc:aa (aa (a8 all))=all.map (gS all):=by rw[fI,hg.cells]
  have hi:=hg.ids;rw[zj8] at hi;refine wB (by rw[hg.cells]; simpa using hl) ?_ ?_ ?_ ?_ <;> rw[hc]
  ·intro x hx;obtain ⟨s,_,rfl⟩:=ze9.1 hx;show 0<ixC all s;unfold ixC;omega
  ·exact hi
  ·intro x hx;obtain ⟨s,hs,rfl⟩:=ze9.1 hx;exact hg.formOk hs
  ·intro x hx hd;obtain ⟨s,hs,rfl⟩:=ze9.1 hx;refine hg.aroundOk hs ?_;have:(s.length:Int) - 1>1:=hd;omega
open Go.ChangeShapes Go.WideShapes Go.ChangeAt Go.RowKit
set_option maxRecDepth 100000
section
variable {H:Type}{enc:TypeId×Value→H}{W:World}{base:Nat}{spare:Nat→Bool}{hd:Bool}
end
end Go.Proofs.YtcfkpajlakidbaaGreatDoor
