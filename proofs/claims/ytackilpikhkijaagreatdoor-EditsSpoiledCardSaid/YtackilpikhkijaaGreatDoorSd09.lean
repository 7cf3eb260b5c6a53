/- 9 -/
import Derived.Test.YtackilpikhkijaaGreatDoorSd08
import Derived.Test.YtackilpikhkijaaGreatDoorRows
import Derived.WalkKit
import Derived.ProofKit
import Derived.OpenShut
import Derived.ShutString
import Derived.ChangeOld
import Derived.Deep.Slices
import Derived.Lib.SmallJoins
import Derived.Laws.IdiomArrays
import Derived.SizedLaws
import Derived.RangeFuncLeaves
import Derived.RangeFuncRecord
import Derived.RangeFuncSeq
import Derived.OrdersIn
import Derived.TacticsIn
set_option linter.unusedSimpArgs false
set_option linter.unusedVariables false
namespace Go.Proofs.YtackilpikhkijaaGreatDoor
open _root_.Go.Proofs.Tryz _root_.Go.Proofs.YtackilpikhkijaaGreatDoor.Tryz
open Go Go.Sy Go.Pl Go.Proofs
set_option maxRecDepth 100000
set_option maxHeartbeats 2000000
theorem aA.eraseIdx {α β:Type}{R:α→β→Prop}:∀ {l:List α} {rs:List β} (k:Nat),aA R l rs→aA R (l.eraseIdx k) (rs.eraseIdx k)
 | [],[],_,_=>trivial
 | _::_,_::_,0,h=>h.2
 | _::_,_::_,k+1,h=>⟨h.1,aA.eraseIdx k h.2⟩
 | [],_::_,_,h=>h.elim
 | _::_,[],_,h=>h.elim
def kg (l:List Side)(i:Nat):List Side:=(l.take i).map zA++l.drop i
theorem mi (l:List Side)(i:Nat)(h:i≤l.length):(kg l i).length=l.length:=by simp[kg]; omega
theorem yj {l:List Side}{i:Nat}(h:i<l.length):(kg l i)[i]?=some l[i]:=by
 unfold kg;have h1:l.drop i=l[i]::l.drop (i+1):=zg9 h;rw[h1];exact wV (by simp; omega)
theorem yh {l:List Side}{i:Nat}(h:i<l.length):(kg l i).set i (zA l[i])=kg l (i+1):=by
 unfold kg;have h1:l.drop i=l[i]::l.drop (i+1):=zg9 h;have h2:l.take (i+1)=l.take i++[l[i]]:=tS h;rw[h2,h1,zg8,tj (by simp; omega),zh2];rfl
theorem sj (E:World)(g:PH)(s:Own)(v:Value)(l:List Cl)(q0 q1 q2:Int)(hv:ao g v l)(hf:bo l) :
  Ctr Tryz.prog E 22 #[.agg #[v],.agg #[vi q0,vi q1,vi q2]] g s (fun r g' s'=>s=s'∧Le g g'∧∃ x,r = .agg #[x]∧ao g' x (mC l q0 q1 q2)):=by
 obtain ⟨p,c,rfl⟩:=hv.form;have hll:=hf.1;refine zb2 (args:=[.agg #[.slice p l.length c],.agg #[vi q0,vi q1,vi q2]]) func22 I ntmps22 (bE I)<|rZ (bW (bO I) fun b2=>?_);refine bW (bO I) fun b3=>bW (aL zl5) fun b4=>tZ<|rZ<|lK (qV 2 aw ah I I I)<|lW (cL call15 I<|AA E g _ _ l hv hf) ?_;rintro _ _ _ ⟨rfl,u,rs,rfl,hO,rfl⟩;have el:=hO.length;refine zd4 fun ⟨w0,hw0⟩=>?_;obtain ⟨q,d,rfl⟩:=ag (i:=0) hw0 rfl;clear hw0 w0;refine bW (aL zl5) fun b5=>oZ (sK 0 ah I I I I I sB)<|tZ<|sQ<|sQ ?_;refine SC.to (fun w hw=>hw) (g':=g) (s':=pt b5 (.cells #[.slice q rs.length d] 29 (0,0))::rowA encCell 53 (.slice q rs.length d) rs::(dM l rs++(pt b4 (.cells #[.slice none 0 0] 29 (0,0))::pt b3 (.cells #[vi q0,vi q1,vi q2] 61 (0,0))::pt b2 (.cells #[.slice p l.length c] 29 (0,0))::s))) ?_;refine rG<|lU (fA bM I bt I)<|lK (qL (v:=.slice q rs.length d) de I<|cO 0 I I)<|lU (eN aI I)<|yE I<|tZ<|iP I (fun h0=>?_) (fun h0=>?_)
 ·have hl0:l=[]:=zf7 oM;subst hl0;have hr0:rs=[]:=zf7 oM;subst hr0;refine sQ ?_;refine SC.to (fun w hw=>hw) (g':=g) (s':=pt b5 (.cells #[.slice q 0 d] 29 (0,0))::rowA encCell 53 (.slice q 0 d) []::(pt b4 (.cells #[.slice none 0 0] 29 (0,0))::pt b3 (.cells #[vi q0,vi q1,vi q2] 61 (0,0))::pt b2 (.cells #[.slice p ([]:List Cl).length c] 29 (0,0))::s)) ?_;refine rG<|lU (iB mT zT3 I I dC dC)<|lK (qL (v:=vi q1) iT3 I<|cO 3 I I)<|lU (za3 I<|buildD53 _)<|lW (bS sty27 I I I (ae ⟨I,trivial⟩) dC) ?_;rintro _ _ _ ⟨b21,rfl,rfl,rfl⟩;refine zb5 fun g1 hle1 hb21=>?_;exact lU (za3 I<|build29 _ I)<|oZ (sK 2 ah I I I I I sB)<|tZ<|rE<|tR<|ST.retCD 2 s (.inl I) results22 I aw ah I I uR ⟨I,hle1,_,I,[⟨q1,0,⟨none,0,0⟩⟩],SlA.lit hb21 I I,⟨I,I,zc1 _ _⟩,trivial⟩
 ·have hpos:0<l.length:=oM;obtain ⟨hk1,hk2⟩:=jq q1 l.length hpos oM;have hsp0:mC l q0 q1 q2=th (a7 q0 13) l (a7 q1 l.length).toNat (ei l q1) q2 (eh (ei l q1) q2):=by unfold mC; rw[zg3 oM]
  rw[hsp0];obtain ⟨A,x,B,RA,rx,RB,hl,hr,hA,hRA,hOA,hOx,hOB⟩:=aA.split hO hk2;have hpx:ei l q1=x:=by
   unfold ei;rw[zh4,hl] at *;rw[wV hA];rfl
  rw[hpx];have hmk:a7 q1 (rs.length:Int)=(((a7 q1 l.length).toNat:Nat):Int):=by rw[← el]; exact hk1
  generalize (a7 q1 l.length).toNat=k at *;obtain ⟨xi,xd,xp,xn,xc⟩:=rx;obtain ⟨e1,e2,e3⟩:=hOx;dsimp only at e1 e2 e3;subst e1;subst e2;subst e3;have hgr:rs[k]?=some (⟨x.id,x.dim,⟨xp,x.sides.length,xc⟩⟩:Rc):=by rw[hr]; exact wV hRA
  have hkr:k<rs.length:=oM;have hxl:x.sides.length<1099511627776:=hf.2 x (by rw[hl]; simp);refine SC.freezeBut' hl hr hOA hOB fun g1 hle1 hAR hBR=>?_;refine zd5 fun ⟨w0,hw0⟩=>?_;obtain ⟨bu,cap,hbu⟩:=aO (i:=0) hw0 rfl oM;obtain ⟨rfl,rfl⟩:q=some ⟨bu,0,none⟩∧d=cap:=by injection hbu with h1 _ h2; exact⟨h1,h2⟩
  clear hw0 w0 hbu;have hdc:d=d:=rfl;refine SC.to (fun w hw=>hw) (g':=g1) (s':=rowA encCell 53 (.slice (some ⟨bu,0,none⟩) rs.length d) rs::rowA encSide 55 (.slice xp x.sides.length xc) x.sides::pt b5 (.cells #[(.slice (some ⟨bu,0,none⟩) rs.length d)] 29 (0,0))::pt b4 (.cells #[.slice none 0 0] 29 (0,0))::pt b3 (.cells #[vi q0,vi q1,vi q2] 61 (0,0))::pt b2 (.cells #[.slice p l.length c] 29 (0,0))::s) ?_;obtain ⟨cap,hcap⟩:∃ cap,cap=d:=⟨_,rfl⟩;rw[← hcap];have hfin:∀ g' x' r',Le g1 g'→ar g' x' r'→aA (ar g') (l.set k x') (rs.set k r'):=fun g' x' r' hle hx'=>by
   rw[hl,hr,tj hA,tj hRA];exact (hAR.mono fun _ _=>ar.mono hle).append ⟨hx',hBR.mono fun _ _=>ar.mono hle⟩
  have hfin0:∀ g' x',Le g1 g'→ar g' x' (⟨x.id,x.dim,⟨xp,x.sides.length,xc⟩⟩:Rc)→aA (ar g') (l.set k x') rs:=fun g' x' hle hx'=>by
   rw[hl,hr,tj hA];exact (hAR.mono fun _ _=>ar.mono hle).append ⟨hx',hBR.mono fun _ _=>ar.mono hle⟩
  have hfinA:∀ g',Le g1 g'→ar g' x (⟨x.id,x.dim,⟨xp,x.sides.length,xc⟩⟩:Rc)→aA (ar g') l rs:=fun g' hle hx'=>by
   rw[hl,hr];exact (hAR.mono fun _ _=>ar.mono hle).append ⟨hx',hBR.mono fun _ _=>ar.mono hle⟩
  have hpick:∀ y:Int,∃ (kk:Nat) (yi yd:Int) (yp:Option Addr) (yc:Nat),a7 y (rs.length:Int)=((kk:Nat):Int)∧kk<rs.length∧rs[kk]?=some ⟨yi,yd,⟨yp,(ei l y).sides.length,yc⟩⟩∧yi=(ei l y).id∧(ei l y).sides.length<1099511627776 ∧
    (((ei l y)=x∧yp=xp∧yc=xc)∨SlA encSide g1 (.slice yp (ei l y).sides.length yc) (ei l y).sides):=fun y=>by
   obtain ⟨h1,h2⟩:=jq y l.length hpos oM;have hg:l[(a7 y l.length).toNat]?=some (ei l y):=by
    unfold ei;rw[zh4,gE h2];rfl
   rw[el] at h1;refine⟨(a7 y l.length).toNat,?_⟩;rw[el] at *;generalize (a7 y rs.length).toNat=kk at *;generalize ei l y=cy at *;have hm:cy∈l:=zg5 hg;obtain ⟨ry,hry⟩:∃ ry,rs[kk]?=some ry:=⟨_,gE h2⟩;have hoy:=hO.get hg hry;obtain ⟨yi,yd,yp,yn,yc⟩:=ry;obtain ⟨f1,f2,f3⟩:=hoy;dsimp only at f1 f2 f3;subst f3;refine⟨yi,yd,yp,yc,h1,h2,hry,f1,hf.2 _ hm,?_⟩;rw[hl] at hg;rw[hr] at hry;by_cases hlt:kk<k
   ·rw[zh5 oM] at hg hry;exact .inr (hAR.get hg hry).2.2
   ·rw[zh6 oM] at hg hry;rw[hA] at hg;rw[hRA] at hry;cases hd:kk - k with
    | zero =>
     rw[hd] at hg hry;simp at hg hry;exact .inl ⟨hg.symm,hry.2.2.1.symm,hry.2.2.2.2.symm⟩
    | succ t =>
     rw[hd] at hg hry;simp at hg hry;exact .inr (hBR.get hg hry).2.2
  clear hO hpx hsp0 hdc;have hj1:0<x.sides.length→a7 q2 (x.sides.length:Int)=((((eh x q2):Nat)):Int)∧(eh x q2)<x.sides.length:=fun h=>by
   unfold eh;rw[zg4 h];exact jq q2 x.sides.length h oM
  refine kP<|tN<|rZ<|lU (iB mT zT3 I I dC dC)<|lK (qL (v:=vi q1) iT3 I<|cO 4 I I)<|lU (fA bM I bt I)<|lK (qL (v:=(.slice (some ⟨bu,0,none⟩) rs.length cap)) de I<|cO 2 I I)<|lU (eN aI I)<|lW (cL eJ I<|aC E g1 _ q1 rs.length oM) ?_;rintro _ _ _ ⟨rfl,rfl,rfl⟩;rw[hmk];refine aT I<|rZ<|lU (fA bM I bt I)<|lK (qL (v:=(.slice (some ⟨bu,0,none⟩) rs.length cap)) de I<|cO 2 I I)<|lM I<|lU (iA aI au I I I oM sL)<|aT I<|rZ<|lU (iB mT zT3 I I dC dC)<|lK (qL (v:=vi q2) iT3 I<|cO 4 I I)<|aT I<|rZ<|aT I<|SC.cut (ι:=Unit) (fun _=>[(2,pp b2 0),(3,pp b3 0),(4,pp b4 0),(5,pp b5 0),(6,vi (k:Nat)),(7,kG (.slice (some ⟨bu,0,none⟩) rs.length cap)<|k * 3),(8,vi q2),(9,vi ((eh x q2):Nat))]) (fun _=>g1) (fun _=>rowA encCell 53 (.slice (some ⟨bu,0,none⟩) rs.length cap) rs::rowA encSide 55 (.slice xp x.sides.length xc) x.sides::pt b5 (.cells #[(.slice (some ⟨bu,0,none⟩) rs.length cap)] 29 (0,0))::pt b4 (.cells #[.slice none 0 0] 29 (0,0))::pt b3 (.cells #[vi q0,vi q1,vi q2] 61 (0,0))::pt b2 (.cells #[.slice p l.length c] 29 (0,0))::s) (fun _=>True) ?_ ?_
  ·refine sW I<|lU (nC I)<|lU (fA aq I aJ I)<|lK (aZ (e:=encCell) (a:=(⟨x.id,x.dim,⟨xp,x.sides.length,xc⟩⟩:Rc)) (j:=k) (o:=2) (u:=(.slice xp x.sides.length xc)) aX I (zb7 0 I) hgr I)<|lU (eN aM I)<|lU (gR I I)<|tZ<|iP I (fun hsp=>?_) (fun hsp=>?_)
   ·refine rG<|lM I<|lM I<|lU (nC I)<|lU (fA aq I aJ I)<|lK (aZ (e:=encCell) (a:=(⟨x.id,x.dim,⟨xp,x.sides.length,xc⟩⟩:Rc)) (j:=k) (o:=2) (u:=(.slice xp x.sides.length xc)) aX I (zb7 0 I) hgr I)<|lU (eN aM I)<|lW (cL eJ I<|aC E g1 _ q2 x.sides.length oM) ?_;rintro _ _ _ ⟨rfl,rfl,rfl⟩;rw[(hj1 oM).1];exact lA I<|nL<|za9 () sB I I trivial
   ·have hj0:(eh x q2)=0:=by unfold eh; rw[zg3 oM]
    rw[hj0];exact kP<|za9 () sB I I trivial
  rintro ⟨⟩ -;try dsimp only
  have hm13:=bU q0 13 dC dC;have hj2:∀ h:0<x.sides.length,x.sides[(eh x q2)]?=some (x.sides.getD (eh x q2) s4):=fun h=>by
   rw[zh4,gE (hj1 h).2]; rfl
  have hnil:¬ (x.sides.length:Int)>0→x.sides=[]:=fun h=>zf7 oM;refine SC.cut (ι:=PH×Value) (fun _=>[(2,pp b2 0),(4,pp b4 0),(5,pp b5 0)]) (fun i=>i.1) (fun i=>pt b5 (.cells #[i.2] 29 (0,0))::pt b4 (.cells #[.slice none 0 0] 29 (0,0))::pt b3 (.cells #[vi q0,vi q1,vi q2] 61 (0,0))::pt b2 (.cells #[.slice p l.length c] 29 (0,0))::s) (fun i=>Le g1 i.1∧ao i.1 i.2 (th (a7 q0 13) l k x q2<|eh x q2)) ?_ ?_
  ·rcases (by omega:a7 q0 13=0∨a7 q0 13=1∨a7 q0 13=2∨a7 q0 13=3∨a7 q0 13=4∨a7 q0 13=5∨a7 q0 13=6∨a7 q0 13=7∨a7 q0 13=8∨a7 q0 13=9∨a7 q0 13=10∨a7 q0 13=11∨a7 q0 13=12) with hm | hm | hm | hm | hm | hm | hm | hm | hm | hm | hm | hm | hm
   ·have hr9:=bU q2 9 dC dC;refine rZ<|lU (iB mT zT3 I I dC dC)<|lK (qL (v:=vi q0) iT3 I<|cO 4 I I)<|lW (cL eJ I<|aC E g1 _ q0 13 dC) ?_;rintro _ _ _ ⟨rfl,rfl,rfl⟩;rw[hm];refine tZ<|bK<|rZ<|yE I<|aT I<|za2 I<|rG<|lM I<|lM I<|lW (cL eJ I<|aC E g1 _ q2 9 dC) ?_;rintro _ _ _ ⟨rfl,rfl,rfl⟩;refine lU (sU I I oM) (lU (nC I)<|lU (fA aq I zT3 I)<|oZ (SO.partA (e:=encCell) (a:=(⟨x.id,x.dim,⟨xp,x.sides.length,xc⟩⟩:Rc)) (j:=k) (o:=0) 0 ⟨a7 q2 9 - 1,x.dim,⟨xp,x.sides.length,xc⟩⟩ zT3 I I I hgr I I dC I)<|nL<|bN<|fT fun ga hlea hsa=>?_);refine fT fun gb hleb hsb=>?_;exact za9 (gb,(.slice (some ⟨bu,0,none⟩) rs.length cap)) sB I I ⟨hlea.trans hleb,_,za5 (e:=encCell) hsa hleb,hfin gb _ _ (hlea.trans hleb) ⟨I,I,hsb⟩⟩
   ·have hr12:=bU q2 12 dC dC;refine rZ<|lU (iB mT zT3 I I dC dC)<|lK (qL (v:=vi q0) iT3 I<|cO 4 I I)<|lW (cL eJ I<|aC E g1 _ q0 13 dC) ?_;rintro _ _ _ ⟨rfl,rfl,rfl⟩;rw[hm];refine tZ<|bK<|rZ<|yE I<|aT I<|za1 I<|rZ<|yE I<|aT I<|za2 I<|rG<|lM I<|lM I<|lW (cL eJ I<|aC E g1 _ q2 12 dC) ?_;rintro _ _ _ ⟨rfl,rfl,rfl⟩;refine lU (sU I I oM) (lU (nC I)<|lU (fA aq I zT3 I)<|oZ (SO.partA (e:=encCell) (a:=(⟨x.id,x.dim,⟨xp,x.sides.length,xc⟩⟩:Rc)) (j:=k) (o:=1) 0 ⟨x.id,a7 q2 12 - 1,⟨xp,x.sides.length,xc⟩⟩ zT3 I I I hgr I I dC I)<|nL<|bN<|fT fun ga hlea hsa=>?_);refine fT fun gb hleb hsb=>?_;exact za9 (gb,(.slice (some ⟨bu,0,none⟩) rs.length cap)) sB I I ⟨hlea.trans hleb,_,za5 (e:=encCell) hsa hleb,hfin gb _ _ (hlea.trans hleb) ⟨I,I,hsb⟩⟩
   ·refine zd5 fun ⟨w0,hw0⟩=>?_;have hcapr:rs.length≤cap:=(by obtain ⟨_,_,_,h1,h2⟩:=py (i:=0) hw0 rfl (by omega:0<rs.length); omega);clear hw0 w0;refine rZ<|lU (iB mT zT3 I I dC dC)<|lK (qL (v:=vi q0) iT3 I<|cO 4 I I)<|lW (cL eJ I<|aC E g1 _ q0 13 dC) ?_;rintro _ _ _ ⟨rfl,rfl,rfl⟩;rw[hm];refine tZ<|bK<|rZ<|yE I<|aT I<|za1 I<|rZ<|yE I<|aT I<|za1 I<|rZ<|yE I<|aT I<|za2 I ?_;refine dW [9,10,11] [(0,2),(1,1),(2,2),(3,2),(4,2),(5,1),(6,2),(7,2),(8,2),(9,0),(10,0),(11,0)] ze6 kR ?_;refine pU I (fA bM I bt I)<|pK I (qL (v:=(.slice (some ⟨bu,0,none⟩) rs.length cap)) de I<|cO 2 I I)<|yM I<|pU I (SU.sliceH aI au I I oM oM)<|pU I (fA bM I bt I)<|pK I (qL (v:=(.slice (some ⟨bu,0,none⟩) rs.length cap)) de I<|cO 2 I I)<|yM I<|pU I (aD I I oM)<|pU I (SU.eq (v':=sliced (some ⟨bu,0,none⟩) (k+1) rs.length cap 3) (SU.sliceL aI au I I oM oM)<|by rw[show ((k:Int)+1).toNat=k+1 by omega]) ?_;refine SP.o I (SO.cutA (j:=k) (n:=rs.length) (c:=cap) (p:=some ⟨bu,0,none⟩) (e:=encCell) 0 sty27 I I I I hkr) dC (.inl dC) ?_;rintro _ _ _ ⟨rfl,rfl,rfl⟩;refine oU I (fA bM I bt I) dC (.inl dC)<|SP.on I (sK 2 bt I I I I I sB) (.inl dC) ?_;rintro _ _ _ ⟨rfl,rfl⟩;refine pN (bN<|fT fun ga hlea hsa=>?_);refine fT fun gb hleb hsb=>?_;exact za9 (gb,(.slice (some ⟨bu,0,none⟩) (rs.length - 1) cap)) sB I I ⟨hlea.trans hleb,_,za5 (e:=encCell) hsa hleb,aA.eraseIdx k<|hfinA gb (hlea.trans hleb) ⟨I,I,hsb⟩⟩
   ·refine rZ<|lU (iB mT zT3 I I dC dC)<|lK (qL (v:=vi q0) iT3 I<|cO 4 I I)<|lW (cL eJ I<|aC E g1 _ q0 13 dC) ?_;rintro _ _ _ ⟨rfl,rfl,rfl⟩;rw[hm];refine tZ<|bK<|rZ<|yE I<|aT I<|za1 I<|rZ<|yE I<|aT I<|za1 I<|rZ<|yE I<|aT I<|za1 I<|rZ<|yE I<|aT I<|za2 I<|sW I<|lU (nC I)<|lU (fA aq I aJ I)<|lK (aZ (e:=encCell) (a:=(⟨x.id,x.dim,⟨xp,x.sides.length,xc⟩⟩:Rc)) (j:=k) (o:=2) (u:=(.slice xp x.sides.length xc)) aX I (zb7 0 I) hgr I)<|lU (eN aM I)<|lU (gR I I)<|tZ<|iP I (fun hsl=>?_) (fun hsl=>?_)
    ·refine zd5 fun ⟨w0,hw0⟩=>?_;obtain ⟨bx,cx,hbx⟩:=aO (i:=1) hw0 rfl oM;obtain ⟨rfl,rfl⟩:xp=some ⟨bx,0,none⟩∧xc=cx:=by injection hbx with h1 _ h2; exact⟨h1,h2⟩
     clear hw0 w0 hbx;obtain ⟨hj,hjl⟩:=hj1 oM;have hgz:=hj2 oM;have hr4:=bU q2 4 dC dC;refine dW [10] [(0,2),(1,2),(2,2),(3,1),(4,2),(5,2),(6,0),(7,2),(8,2),(9,2),(10,0)] ze6 kR<|yM I<|pU I (nC I)<|pU I (fA aq I aJ I)<|pK I (aZ (e:=encCell) (a:=(⟨x.id,x.dim,⟨some ⟨bx,0,none⟩,x.sides.length,xc⟩⟩:Rc)) (j:=k) (o:=2) (u:=(.slice (some ⟨bx,0,none⟩) x.sides.length xc)) aX I (zb7 0 I) hgr I)<|yM I<|yM I<|SP.o I (cL eJ I<|aC E g1 _ q2 4 dC) dC (.inr iR) ?_;rintro _ _ _ ⟨rfl,rfl,rfl⟩;refine pU I (sU I I oM)<|pU I (iA aM aH I I I oM sL)<|pU I (fC bZ I zT3 I I)<|SP.on I (SO.partA (e:=encSide) (a:=(x.sides.getD (eh x q2) s4)) (j:=(eh x q2)) (o:=1) 1 ⟨(x.sides.getD (eh x q2) s4).cell,a7 q2 4 - 2⟩ zT3 I I I hgz I I dC I) (.inl dC) ?_;rintro _ _ _ ⟨rfl,rfl⟩;refine pN (bN<|fT fun ga hlea hsa=>?_);refine fT fun gb hleb hsb=>?_;exact za9 (gb,(.slice (some ⟨bu,0,none⟩) rs.length cap)) sB I I ⟨hlea.trans hleb,_,za5 (e:=encCell) hsa hleb,hfin0 gb _ (hlea.trans hleb) ⟨I,I,hsb⟩⟩
    ·have hsn:=hnil hsl;refine kP (bN<|fT fun ga hlea hsa=>?_);refine fT fun gb hleb hsb=>?_;exact za9 (gb,(.slice (some ⟨bu,0,none⟩) rs.length cap)) sB I I ⟨hlea.trans hleb,_,za5 (e:=encCell) hsa hleb,hfin0 gb _ (hlea.trans hleb) ⟨I,I,by rw[hsn] at hsb ⊢; exact hsb⟩⟩
   ·refine rZ<|lU (iB mT zT3 I I dC dC)<|lK (qL (v:=vi q0) iT3 I<|cO 4 I I)<|lW (cL eJ I<|aC E g1 _ q0 13 dC) ?_;rintro _ _ _ ⟨rfl,rfl,rfl⟩;rw[hm];refine tZ<|bK<|rZ<|yE I<|aT I<|za1 I<|rZ<|yE I<|aT I<|za1 I<|rZ<|yE I<|aT I<|za1 I<|rZ<|yE I<|aT I<|za1 I<|rZ<|yE I<|aT I<|za2 I<|sW I<|lU (nC I)<|lU (fA aq I aJ I)<|lK (aZ (e:=encCell) (a:=(⟨x.id,x.dim,⟨xp,x.sides.length,xc⟩⟩:Rc)) (j:=k) (o:=2) (u:=(.slice xp x.sides.length xc)) aX I (zb7 0 I) hgr I)<|lU (eN aM I)<|lU (gR I I)<|tZ<|iP I (fun hsl=>?_) (fun hsl=>?_)
    ·refine zd5 fun ⟨w0,hw0⟩=>?_;obtain ⟨bx,cx,hbx⟩:=aO (i:=1) hw0 rfl oM;obtain ⟨rfl,rfl⟩:xp=some ⟨bx,0,none⟩∧xc=cx:=by injection hbx with h1 _ h2; exact⟨h1,h2⟩
     clear hw0 w0 hbx;obtain ⟨hj,hjl⟩:=hj1 oM;have hgz:=hj2 oM;refine dW [16] [(0,2),(1,2),(2,2),(3,1),(4,2),(5,2),(6,2),(7,2),(8,1),(9,2),(10,2),(11,2),(12,1),(13,2),(14,2),(15,2),(16,0)] ze6 kR<|yM I<|pU I (nC I)<|pU I (fA aq I aJ I)<|pK I (aZ (e:=encCell) (a:=(⟨x.id,x.dim,⟨some ⟨bx,0,none⟩,x.sides.length,xc⟩⟩:Rc)) (j:=k) (o:=2) (u:=(.slice (some ⟨bx,0,none⟩) x.sides.length xc)) aX I (zb7 0 I) hgr I)<|yM I<|yM I<|pU I (nC I)<|pU I (fA aq I aJ I)<|pK I (aZ (e:=encCell) (a:=(⟨x.id,x.dim,⟨some ⟨bx,0,none⟩,x.sides.length,xc⟩⟩:Rc)) (j:=k) (o:=2) (u:=(.slice (some ⟨bx,0,none⟩) x.sides.length xc)) aX I (zb7 0 I) hgr I)<|yM I<|pU I (iA aM aH I I I oM sL)<|pU I (fC bZ I zT3 I I)<|pK I (aZ (e:=encSide) (a:=(x.sides.getD (eh x q2) s4)) (j:=(eh x q2)) (o:=1) (u:=vi (x.sides.getD (eh x q2) s4).sign) iT3 I (zb7 1 I) hgz I)<|pU I (SU.neg I)<|pU I (iA aM aH I I I oM sL)<|pU I (fC bZ I zT3 I I)<|SP.on I (SO.partA (e:=encSide) (a:=(x.sides.getD (eh x q2) s4)) (j:=(eh x q2)) (o:=1) 1 (zA<|x.sides.getD (eh x q2) s4) zT3 I I I hgz I I dC I) (.inl dC) ?_;rintro _ _ _ ⟨rfl,rfl⟩;refine pN (bN<|fT fun ga hlea hsa=>?_);refine fT fun gb hleb hsb=>?_;exact za9 (gb,(.slice (some ⟨bu,0,none⟩) rs.length cap)) sB I I ⟨hlea.trans hleb,_,za5 (e:=encCell) hsa hleb,hfin0 gb _ (hlea.trans hleb) ⟨I,I,hsb⟩⟩
    ·have hsn:=hnil hsl;refine kP (bN<|fT fun ga hlea hsa=>?_);refine fT fun gb hleb hsb=>?_;exact za9 (gb,(.slice (some ⟨bu,0,none⟩) rs.length cap)) sB I I ⟨hlea.trans hleb,_,za5 (e:=encCell) hsa hleb,hfin0 gb _ (hlea.trans hleb) ⟨I,I,by rw[hsn] at hsb ⊢; exact hsb⟩⟩
   ·refine rZ<|lU (iB mT zT3 I I dC dC)<|lK (qL (v:=vi q0) iT3 I<|cO 4 I I)<|lW (cL eJ I<|aC E g1 _ q0 13 dC) ?_;rintro _ _ _ ⟨rfl,rfl,rfl⟩;rw[hm];refine tZ<|bK<|rZ<|yE I<|aT I<|za1 I<|rZ<|yE I<|aT I<|za1 I<|rZ<|yE I<|aT I<|za1 I<|rZ<|yE I<|aT I<|za1 I<|rZ<|yE I<|aT I<|za1 I<|rZ<|yE I<|aT I<|za2 I<|sW I<|lU (nC I)<|lU (fA aq I aJ I)<|lK (aZ (e:=encCell) (a:=(⟨x.id,x.dim,⟨xp,x.sides.length,xc⟩⟩:Rc)) (j:=k) (o:=2) (u:=(.slice xp x.sides.length xc)) aX I (zb7 0 I) hgr I)<|lU (eN aM I)<|lU (gR I I)<|tZ<|iP I (fun hsl=>?_) (fun hsl=>?_)
    ·refine zd5 fun ⟨w0,hw0⟩=>?_;obtain ⟨bx,cx,hbx⟩:=aO (i:=1) hw0 rfl oM;obtain ⟨rfl,rfl⟩:xp=some ⟨bx,0,none⟩∧xc=cx:=by injection hbx with h1 _ h2; exact⟨h1,h2⟩
     clear hw0 w0 hbx;obtain ⟨hj,hjl⟩:=hj1 oM;have hgz:=hj2 oM;obtain ⟨kk,yi,yd,yp,yc,hkk,hkl,hgy,hyi,_,_⟩:=hpick<|IntKind.i64.wrap<|q2.tdiv 3;refine dW [18] [(0,2),(1,2),(2,2),(3,1),(4,2),(5,2),(6,1),(7,2),(8,2),(9,2),(10,1),(11,2),(12,0),(13,2),(14,2),(15,1),(16,2),(17,2),(18,0)] ze6 kR<|yM I<|pU I (nC I)<|pU I (fA aq I aJ I)<|pK I (aZ (e:=encCell) (a:=(⟨x.id,x.dim,⟨some ⟨bx,0,none⟩,x.sides.length,xc⟩⟩:Rc)) (j:=k) (o:=2) (u:=(.slice (some ⟨bx,0,none⟩) x.sides.length xc)) aX I (zb7 0 I) hgr I)<|yM I<|pU I (fA bM I bt I)<|pK I (qL (v:=(.slice (some ⟨bu,0,none⟩) rs.length cap)) de I<|cO 2 I I)<|yM I<|pU I (SU.quo I I dC)<|pU I (fA bM I bt I)<|pK I (qL (v:=(.slice (some ⟨bu,0,none⟩) rs.length cap)) de I<|cO 2 I I)<|pU I (eN aI I)<|SP.o I (cL eJ I<|aC E g1 _ _ rs.length oM) dC (.inr iR) ?_;rintro _ _ _ ⟨rfl,rfl,rfl⟩;rw[hkk];refine pU I (iA aI au I I I oM sL)<|pU I (fC aq I zT3 I I)<|pK I (aZ (e:=encCell) (j:=kk) (o:=0) (u:=vi yi) iT3 I (zb7 0 I) hgy I)<|pU I (iA aM aH I I I oM sL)<|pU I (fC bZ I zT3 I I)<|SP.on I (SO.partA (e:=encSide) (a:=(x.sides.getD (eh x q2) s4)) (j:=(eh x q2)) (o:=0) 1 ⟨yi,(x.sides.getD (eh x q2) s4).sign⟩ zT3 I I I hgz I I dC I) (.inl dC) ?_;rintro _ _ _ ⟨rfl,rfl⟩;refine pN (bN<|fT fun ga hlea hsa=>?_);refine fT fun gb hleb hsb=>?_;rw[hyi] at hsb;exact za9 (gb,(.slice (some ⟨bu,0,none⟩) rs.length cap)) sB I I ⟨hlea.trans hleb,_,za5 (e:=encCell) hsa hleb,hfin0 gb _ (hlea.trans hleb) ⟨I,I,hsb⟩⟩
    ·have hsn:=hnil hsl;refine kP (bN<|fT fun ga hlea hsa=>?_);refine fT fun gb hleb hsb=>?_;exact za9 (gb,(.slice (some ⟨bu,0,none⟩) rs.length cap)) sB I I ⟨hlea.trans hleb,_,za5 (e:=encCell) hsa hleb,hfin0 gb _ (hlea.trans hleb) ⟨I,I,by rw[hsn] at hsb ⊢; exact hsb⟩⟩
   ·refine rZ<|lU (iB mT zT3 I I dC dC)<|lK (qL (v:=vi q0) iT3 I<|cO 4 I I)<|lW (cL eJ I<|aC E g1 _ q0 13 dC) ?_;rintro _ _ _ ⟨rfl,rfl,rfl⟩;rw[hm];refine tZ<|bK<|rZ<|yE I<|aT I<|za1 I<|rZ<|yE I<|aT I<|za1 I<|rZ<|yE I<|aT I<|za1 I<|rZ<|yE I<|aT I<|za1 I<|rZ<|yE I<|aT I<|za1 I<|rZ<|yE I<|aT I<|za1 I<|rZ<|yE I<|aT I<|za2 I<|sW I<|lU (nC I)<|lU (fA aq I aJ I)<|lK (aZ (e:=encCell) (a:=(⟨x.id,x.dim,⟨xp,x.sides.length,xc⟩⟩:Rc)) (j:=k) (o:=2) (u:=(.slice xp x.sides.length xc)) aX I (zb7 0 I) hgr I)<|lU (eN aM I)<|lU (gR I I)<|tZ<|iP I (fun hsl=>?_) (fun hsl=>?_)
    ·obtain ⟨hj,hjl⟩:=hj1 oM;refine zd5 fun ⟨w0,hw0⟩=>?_;have hcapx:x.sides.length≤xc:=(by obtain ⟨_,_,_,h1,h2⟩:=py (i:=1) hw0 rfl (by omega:0<x.sides.length); omega);clear hw0 w0;refine dW [14,15,16,17] [(0,2),(1,2),(2,2),(3,2),(4,1),(5,2),(6,2),(7,2),(8,2),(9,2),(10,1),(11,2),(12,2),(13,2),(14,0),(15,0),(16,0),(17,0)] ze6 kR ?_;refine yM I<|yM I<|pU I (nC I)<|pU I (fA aq I aJ I)<|pK I (aZ (e:=encCell) (a:=(⟨x.id,x.dim,⟨xp,x.sides.length,xc⟩⟩:Rc)) (j:=k) (o:=2) (u:=(.slice xp x.sides.length xc)) aX I (zb7 0 I) hgr I)<|yM I<|pU I (SU.sliceH aM aH I I oM oM)<|yM I<|pU I (nC I)<|pU I (fA aq I aJ I)<|pK I (aZ (e:=encCell) (a:=(⟨x.id,x.dim,⟨xp,x.sides.length,xc⟩⟩:Rc)) (j:=k) (o:=2) (u:=(.slice xp x.sides.length xc)) aX I (zb7 0 I) hgr I)<|yM I<|pU I (aD I I oM)<|pU I (SU.eq (v':=sliced xp ((eh x q2)+1) x.sides.length xc 2) (SU.sliceL aM aH I I oM oM)<|by rw[show (((eh x q2):Int)+1).toNat=(eh x q2)+1 by omega]) ?_;refine SP.o I (SO.cutA (j:=(eh x q2)) (n:=x.sides.length) (c:=xc) (p:=xp) (e:=encSide) 1 sty32 I I I I hjl) dC (.inl dC) ?_;rintro _ _ _ ⟨rfl,rfl,rfl⟩;refine oU I (nC I) dC (.inl dC)<|oU I (fA aq I aJ I) dC (.inl dC)<|SP.on I (SO.partA (e:=encCell) (a:=(⟨x.id,x.dim,⟨xp,x.sides.length,xc⟩⟩:Rc)) (j:=k) (o:=2) 0 ⟨x.id,x.dim,⟨xp,x.sides.length - 1,xc⟩⟩ aJ I I I hgr I I dC I) (.inl dC) ?_;rintro _ _ _ ⟨rfl,rfl⟩;refine pN (bN<|fT fun ga hlea hsa=>?_);refine fT fun gb hleb hsb=>?_;exact za9 (gb,(.slice (some ⟨bu,0,none⟩) rs.length cap)) sB I I ⟨hlea.trans hleb,_,za5 (e:=encCell) hsa hleb,hfin gb _ _ (hlea.trans hleb) ⟨I,I,hsb⟩⟩
    ·have hsn:=hnil hsl;refine kP (bN<|fT fun ga hlea hsa=>?_);refine fT fun gb hleb hsb=>?_;exact za9 (gb,(.slice (some ⟨bu,0,none⟩) rs.length cap)) sB I I ⟨hlea.trans hleb,_,za5 (e:=encCell) hsa hleb,hfin0 gb _ (hlea.trans hleb) ⟨I,I,by rw[hsn] at hsb ⊢; exact hsb⟩⟩
   ·have hr2:=bU q2 2 dC dC;obtain ⟨kk,yi,yd,yp,yc,hkk,hkl,hgy,hyi,_,_⟩:=hpick q2;refine rZ<|lU (iB mT zT3 I I dC dC)<|lK (qL (v:=vi q0) iT3 I<|cO 4 I I)<|lW (cL eJ I<|aC E g1 _ q0 13 dC) ?_;rintro _ _ _ ⟨rfl,rfl,rfl⟩;rw[hm];refine tZ<|bK<|rZ<|yE I<|aT I<|za1 I<|rZ<|yE I<|aT I<|za1 I<|rZ<|yE I<|aT I<|za1 I<|rZ<|yE I<|aT I<|za1 I<|rZ<|yE I<|aT I<|za1 I<|rZ<|yE I<|aT I<|za1 I<|rZ<|yE I<|aT I<|za1 I<|rZ<|yE I<|aT I<|za2 I<|dW [21,22,23,24] [(0,2),(1,2),(2,2),(3,2),(4,1),(5,2),(6,1),(7,2),(8,2),(9,1),(10,2),(15,2),(11,0),(12,2),(13,2),(14,1),(16,0),(17,2),(18,2),(19,2),(20,0),(21,0),(22,0),(23,0),(24,0)] ze6 kR<|yM I<|yM I<|pU I (nC I)<|pU I (fA aq I aJ I)<|pK I (aZ (e:=encCell) (a:=(⟨x.id,x.dim,⟨xp,x.sides.length,xc⟩⟩:Rc)) (j:=k) (o:=2) (u:=(.slice xp x.sides.length xc)) aX I (zb7 0 I) hgr I)<|pU I (fA bM I bt I)<|pK I (qL (v:=(.slice (some ⟨bu,0,none⟩) rs.length cap)) de I<|cO 2 I I)<|yM I<|pU I (fA bM I bt I)<|pK I (qL (v:=(.slice (some ⟨bu,0,none⟩) rs.length cap)) de I<|cO 2 I I)<|pU I (eN aI I)<|yM I<|SP.o I (cL eJ I<|aC E g1 _ q2 rs.length oM) dC (.inr iR) ?_;rintro _ _ _ ⟨rfl,rfl,rfl⟩;rw[hkk];refine pU I (iA aI au I I I oM sL)<|pU I (fC aq I zT3 I I)<|pK I (aZ (e:=encCell) (j:=kk) (o:=0) (u:=vi yi) iT3 I (zb7 0 I) hgy I)<|SP.o I (cL eJ I<|aC E g1 _ q2 2 dC) dC (.inr iR) ?_;rintro _ _ _ ⟨rfl,rfl,rfl⟩;refine pU I (SU.mul I I oM)<|pU I (sU I I oM)<|pU I (za3 I<|buildS55 _ _)<|SP.o I (bS sty32 I I I (ae sB) dC) dC (.inr iR) ?_;rintro _ _ _ ⟨b195,rfl,rfl,rfl⟩;refine SP.o I (aP (e:=encSide) 1 ⟨yi,1 - 2 * a7 q2 2⟩ sty32 I I I I I oM oM) dC (.inl dC) ?_;rintro v196 _ _ ⟨rfl,rfl⟩;refine zd3 fun ⟨w0,hw0⟩=>?_;obtain ⟨q7,d7,rfl⟩:=ag (i:=1) hw0 rfl;clear hw0 w0;refine oU I (nC I) dC (.inl dC)<|oU I (fA aq I aJ I) dC (.inl dC)<|SP.on I (SO.partA (e:=encCell) (a:=(⟨x.id,x.dim,⟨xp,x.sides.length,xc⟩⟩:Rc)) (j:=k) (o:=2) 0 ⟨x.id,x.dim,⟨q7,(x.sides++[((⟨yi,1 - 2 * a7 q2 2⟩):Side)]).length,d7⟩⟩ aJ I I I hgr I I dC I) (.inl dC) ?_;rintro _ _ _ ⟨rfl,rfl⟩;refine pN (bN<|fT fun ga hlea hsa=>?_);refine fT fun gb hleb hsb=>?_;exact za9 (gb,(.slice (some ⟨bu,0,none⟩) rs.length cap)) sB I I ⟨hlea.trans hleb,_,za5 (e:=encCell) hsa hleb,hfin gb _ _ (hlea.trans hleb) ⟨I,I,by subst hyi; exact hsb⟩⟩
   ·refine rZ<|lU (iB mT zT3 I I dC dC)<|lK (qL (v:=vi q0) iT3 I<|cO 4 I I)<|lW (cL eJ I<|aC E g1 _ q0 13 dC) ?_;rintro _ _ _ ⟨rfl,rfl,rfl⟩;rw[hm];refine tZ<|bK<|rZ<|yE I<|aT I<|za1 I<|rZ<|yE I<|aT I<|za1 I<|rZ<|yE I<|aT I<|za1 I<|rZ<|yE I<|aT I<|za1 I<|rZ<|yE I<|aT I<|za1 I<|rZ<|yE I<|aT I<|za1 I<|rZ<|yE I<|aT I<|za1 I<|rZ<|yE I<|aT I<|za1 I<|sQ<|rG<|yE I<|aT I<|za2 I<|dW [6,7,8] [(0,2),(1,1),(2,2),(3,2),(4,1),(5,0),(6,0),(7,0),(8,0)] ze6 kR<|pU I (fA bM I bt I)<|pK I (qL (v:=(.slice (some ⟨bu,0,none⟩) rs.length cap)) de I<|cO 2 I I)<|yM I<|pU I (nC I)<|pK I (eA (e:=encCell) (a:=(⟨x.id,x.dim,⟨xp,x.sides.length,xc⟩⟩:Rc)) (j:=k) dn au I (zb7 0 I) hgr)<|SP.o I (bS sty27 I I I (ae sB) dC) dC (.inr iR) ?_;rintro _ _ _ ⟨b206,rfl,rfl,rfl⟩;refine SP.o I (aP (e:=encCell) 0 (⟨x.id,x.dim,⟨xp,x.sides.length,xc⟩⟩:Rc) sty27 I I I I I oM oM) dC (.inl dC) ?_;rintro v207 _ _ ⟨rfl,rfl⟩;refine zd3 fun ⟨w0,hw0⟩=>?_;obtain ⟨q7,d7,rfl⟩:=ag (i:=0) hw0 rfl;clear hw0 w0;refine oU I (fA bM I bt I) dC (.inl dC)<|SP.on I (sK 2 bt I I I I I sB) (.inl dC) ?_;rintro _ _ _ ⟨rfl,rfl⟩;refine pN (bN<|fT fun ga hlea hsa=>?_);refine fT fun gb hleb hsb=>?_;exact za9 (gb,_) sB I I ⟨hlea.trans hleb,_,za5 (e:=encCell) hsa hleb,(hfinA gb (hlea.trans hleb) ⟨I,I,hsb⟩).append ⟨⟨I,I,hsb⟩,trivial⟩⟩
   ·obtain ⟨kk,yi,yd,yp,yc,hkk,hkl,hgy,hyi,hyl,hyr⟩:=hpick q2;refine rZ<|lU (iB mT zT3 I I dC dC)<|lK (qL (v:=vi q0) iT3 I<|cO 4 I I)<|lW (cL eJ I<|aC E g1 _ q0 13 dC) ?_;rintro _ _ _ ⟨rfl,rfl,rfl⟩;rw[hm];refine tZ<|bK<|rZ<|yE I<|aT I<|za1 I<|rZ<|yE I<|aT I<|za1 I<|rZ<|yE I<|aT I<|za1 I<|rZ<|yE I<|aT I<|za1 I<|rZ<|yE I<|aT I<|za1 I<|rZ<|yE I<|aT I<|za1 I<|rZ<|yE I<|aT I<|za1 I<|rZ<|yE I<|aT I<|za1 I<|sQ<|rG<|yE I<|aT I<|za1 I<|rZ<|yE I<|aT I<|za2 I<|SC.cut (ι:=Nat) (fun b10=>[(2,pp b2 0),(3,pp b3 0),(4,pp b4 0),(5,pp b5 0),(6,vi (k:Nat)),(7,kG (.slice (some ⟨bu,0,none⟩) rs.length cap)<|k * 3),(8,vi q2),(9,vi ((eh x q2):Nat)),(10,pp b10 0)]) (fun _=>g1) (fun b10=>pt b10 (.cells #[vi yi,vi yd,(.slice yp (ei l q2).sides.length yc)] 53 (0,0))::rowA encCell 53 (.slice (some ⟨bu,0,none⟩) rs.length cap) rs::rowA encSide 55 (.slice xp x.sides.length xc) x.sides::pt b5 (.cells #[(.slice (some ⟨bu,0,none⟩) rs.length cap)] 29 (0,0))::pt b4 (.cells #[.slice none 0 0] 29 (0,0))::pt b3 (.cells #[vi q0,vi q1,vi q2] 61 (0,0))::pt b2 (.cells #[.slice p l.length c] 29 (0,0))::s) (fun _=>True) ?_ ?_
    ·refine SC.drawX [] ze6 kR ?_;refine SX.u (i:=0) I kR (fA bM I bt I) dC<|SX.q (i:=1) I kR (qL (v:=(.slice (some ⟨bu,0,none⟩) rs.length cap)) de I<|cO 2 I I) dC<|SX.u (i:=2) I kR (mV I) dC<|SX.u (i:=3) I kR (fA bM I bt I) dC<|SX.q (i:=4) I kR (qL (v:=(.slice (some ⟨bu,0,none⟩) rs.length cap)) de I<|cO 2 I I) dC<|SX.u (i:=5) I kR (eN aI I) dC ?_
     repeat' (first
      | (refine SB.o (i:=6) I (cL eJ I<|aC E g1 _ q2 rs.length oM) dC (.inr iR) ?_; rintro _ _ _ ⟨rfl,rfl,rfl⟩; rw[hkk]; refine SX.u (i:=7) I kD (iA aI au I I I oM sL) dC ?_; refine SX.q (i:=8) I kD (eA (e:=encCell) (j:=kk) dn au I (zb7 0 I) hgy) dC ?_)
      | (refine SB.o (i:=6) I (cL eJ I<|aC E g1 _ q2 rs.length oM) dC (.inr iR) ?_; rintro _ _ _ ⟨rfl,rfl,rfl⟩; rw[hkk]; refine SX.u (i:=7) I kD (iA aI au I I I oM sL) dC ?_; refine SX.q (i:=8) I kD (eA (e:=encCell) (j:=kk) dn au I (zb7 0 I) hgy) dC ?_)
      | (refine SB.o (i:=9) I (aL zl8) dC (.inr iR) ?_; rintro _ _ _ ⟨b10,rfl,rfl,rfl⟩)
      | (refine SB.on (i:=10) I (sK 0 au I I I I I sB) (.inr iR) ?_; rintro _ _ _ ⟨rfl,rfl⟩)
      | refine zd9 6 9 kD ?_ ?_
      | refine zd8 9 kD ?_
      | refine zd8 10 kD ?_
      | refine zd8 6 kD ?_
      | (refine SX.nil kD ?_; exact za9 b10 sB I I trivial))
    rintro b10 -;try dsimp only
    have hrd:∀ S:Own,S[2]?=some (rowA encSide 55 (.slice xp x.sides.length xc) x.sides)→Rd g1 S (.slice yp (ei l q2).sides.length yc) ((ei l q2).sides.flatMap encSide.enc):=fun S hS=>by
     rcases hyr with ⟨h1,h2,h3⟩ | h
     ·rw[h1,h2,h3]; exact zb7 2 hS
     ·exact Sl.rd h
    refine dW [7,8,9,10] [(0,2),(1,2),(2,2),(3,2),(4,1),(5,2),(6,1),(7,0),(8,0),(9,0),(10,0)] ze6 kR<|yM I<|yM I<|pU I (nC I)<|pU I (fA aq I aJ I)<|pK I (aZ (e:=encCell) (a:=(⟨x.id,x.dim,⟨xp,x.sides.length,xc⟩⟩:Rc)) (j:=k) (o:=2) (u:=(.slice xp x.sides.length xc)) aX I (zb7 1 I) hgr I)<|pU I (fA aq I aJ I)<|pK I (qL (v:=(.slice yp (ei l q2).sides.length yc)) aX I<|cO 0 I I)<|SP.o I (SO.appendE (m:=(ei l q2).sides.length) 2 (x.sides++(ei l q2).sides).length ((x.sides++(ei l q2).sides).flatMap encSide.enc) sty32 I I I I I (hrd _ I) (encSide.length _) (encSide.ones _) (by simp) (by simp) (by rw[ze8]; omega) (by rw[ze8]; omega)) dC (.inl dC) ?_;rintro v227 _ _ ⟨rfl,rfl⟩;refine zd3 fun ⟨w0,hw0⟩=>?_;obtain ⟨q7,d7,rfl⟩:=ag (e:=encSide) (l:=x.sides++(ei l q2).sides) (i:=2) hw0 rfl;clear hw0 w0;refine oU I (nC I) dC (.inl dC)<|oU I (fA aq I aJ I) dC (.inl dC)<|SP.on I (SO.partA (e:=encCell) (a:=(⟨x.id,x.dim,⟨xp,x.sides.length,xc⟩⟩:Rc)) (j:=k) (o:=2) 1 ⟨x.id,x.dim,⟨q7,(x.sides++(ei l q2).sides).length,d7⟩⟩ aJ I I I hgr I I dC I) (.inl dC) ?_;rintro _ _ _ ⟨rfl,rfl⟩;refine pN (bN<|dR (.cons _<|.refl _)<|fT fun ga hlea hsa=>?_);refine fT fun gb hleb hsb=>?_;exact za9 (gb,(.slice (some ⟨bu,0,none⟩) rs.length cap)) sB I I ⟨hlea.trans hleb,_,za5 (e:=encCell) hsa hleb,hfin gb _ _ (hlea.trans hleb) ⟨I,I,hsb⟩⟩
   ·refine rZ<|lU (iB mT zT3 I I dC dC)<|lK (qL (v:=vi q0) iT3 I<|cO 4 I I)<|lW (cL eJ I<|aC E g1 _ q0 13 dC) ?_;rintro _ _ _ ⟨rfl,rfl,rfl⟩;rw[hm];refine tZ<|bK<|rZ<|yE I<|aT I<|za1 I<|rZ<|yE I<|aT I<|za1 I<|rZ<|yE I<|aT I<|za1 I<|rZ<|yE I<|aT I<|za1 I<|rZ<|yE I<|aT I<|za1 I<|rZ<|yE I<|aT I<|za1 I<|rZ<|yE I<|aT I<|za1 I<|rZ<|yE I<|aT I<|za1 I<|sQ<|rG<|yE I<|aT I<|za1 I<|rZ<|yE I<|aT I<|za1 I<|rZ<|yE I<|aT I<|za2 I<|rZ<|aT I<|bK ?_;have hn0:kg x.sides 0=x.sides:=by simp[kg]
    refine SC.to (fun w hw=>?_) (g':=g1) (s':=rowA encCell 53 (.slice (some ⟨bu,0,none⟩) rs.length cap) rs::rowA encSide 55 (.slice xp x.sides.length xc) (kg x.sides 0)::pt b5 (.cells #[(.slice (some ⟨bu,0,none⟩) rs.length cap)] 29 (0,0))::pt b4 (.cells #[.slice none 0 0] 29 (0,0))::pt b3 (.cells #[vi q0,vi q1,vi q2] 61 (0,0))::pt b2 (.cells #[.slice p l.length c] 29 (0,0))::s) ?_
    ·rw[hn0]; exact hw
    refine oP (ι:=Nat) (fun i=>[(2,pp b2 0),(3,pp b3 0),(4,pp b4 0),(5,pp b5 0),(6,vi (k:Nat)),(7,kG (.slice (some ⟨bu,0,none⟩) rs.length cap)<|k * 3),(8,vi q2),(9,vi ((eh x q2):Nat)),(11,vi i)]) (fun _=>g1) (fun i=>rowA encCell 53 (.slice (some ⟨bu,0,none⟩) rs.length cap) rs::rowA encSide 55 (.slice xp x.sides.length xc) (kg x.sides i)::pt b5 (.cells #[(.slice (some ⟨bu,0,none⟩) rs.length cap)] 29 (0,0))::pt b4 (.cells #[.slice none 0 0] 29 (0,0))::pt b3 (.cells #[vi q0,vi q1,vi q2] 61 (0,0))::pt b2 (.cells #[.slice p l.length c] 29 (0,0))::s) (fun i=>i≤x.sides.length) (fun i=>x.sides.length - i) 0 sB I I (zf9 _) ?_;rintro i hi;refine sQ<|sW I<|lM I<|lU (nC I)<|lU (fA aq I aJ I)<|lK (aZ (e:=encCell) (a:=(⟨x.id,x.dim,⟨xp,x.sides.length,xc⟩⟩:Rc)) (j:=k) (o:=2) (u:=(.slice xp x.sides.length xc)) aX I (zb7 0 I) hgr I)<|lU (eN aM I)<|yL I<|tZ<|iP I (fun hlt=>?_) (fun hlt=>?_)
    ·have hil:i<x.sides.length:=oM;refine zd5 fun ⟨w0,hw0⟩=>?_;obtain ⟨bx,cx,hbx⟩:=aO (i:=1) hw0 rfl (by rw[mi _ _ hi]; omega);rw[mi _ _ hi] at hbx;obtain ⟨rfl,rfl⟩:xp=some ⟨bx,0,none⟩∧xc=cx:=by injection hbx with h1 _ h2; exact⟨h1,h2⟩
     clear hw0 w0 hbx;have hgz:=yj hil;have hst:=yh hil;refine kP<|tN<|sQ<|bK<|dW [16] [(0,2),(1,2),(2,2),(3,1),(4,2),(5,2),(6,2),(7,2),(8,1),(9,2),(10,2),(11,2),(12,1),(13,2),(14,2),(15,2),(16,0)] ze6 kR<|yM I<|pU I (nC I)<|pU I (fA aq I aJ I)<|pK I (aZ (e:=encCell) (a:=(⟨x.id,x.dim,⟨some ⟨bx,0,none⟩,x.sides.length,xc⟩⟩:Rc)) (j:=k) (o:=2) (u:=(.slice (some ⟨bx,0,none⟩) x.sides.length xc)) aX I (zb7 0 I) hgr I)<|yM I<|yM I<|pU I (nC I)<|pU I (fA aq I aJ I)<|pK I (aZ (e:=encCell) (a:=(⟨x.id,x.dim,⟨some ⟨bx,0,none⟩,x.sides.length,xc⟩⟩:Rc)) (j:=k) (o:=2) (u:=(.slice (some ⟨bx,0,none⟩) x.sides.length xc)) aX I (zb7 0 I) hgr I)<|yM I<|pU I (iA aM aH I I I oM sL)<|pU I (fC bZ I zT3 I I)<|pK I (aZ (e:=encSide) (a:=x.sides[i]) (j:=i) (o:=1) (u:=vi x.sides[i].sign) iT3 I (zb7 1 I) hgz I)<|pU I (SU.neg I)<|pU I (iA aM aH I I I oM sL)<|pU I (fC bZ I zT3 I I)<|SP.on I (SO.partA (e:=encSide) (a:=x.sides[i]) (j:=i) (o:=1) 1 (zA x.sides[i]) zT3 I I I hgz I I dC I) (.inl dC) ?_;rintro _ _ _ ⟨rfl,rfl⟩;rw[hst];exact pN<|bN<|tN<|rG<|lM I<|yD I<|lA I<|nL<|gA (i+1) sB I I oM oM
    ·have hii:kg x.sides i=x.sides.map zA:=by
      have:i=x.sides.length:=oM;subst this;simp[kg]
     rw[hii];refine xI (tX<|tX<|bX<|bN<|fT fun ga hlea hsa=>?_);refine fT fun gb hleb hsb=>?_;exact za9 (gb,(.slice (some ⟨bu,0,none⟩) rs.length cap)) sB I I ⟨hlea.trans hleb,_,za5 (e:=encCell) hsa hleb,hfin0 gb _ (hlea.trans hleb) ⟨I,I,hsb⟩⟩
   ·have hr3:=bU q2 3 dC dC;refine rZ<|lU (iB mT zT3 I I dC dC)<|lK (qL (v:=vi q0) iT3 I<|cO 4 I I)<|lW (cL eJ I<|aC E g1 _ q0 13 dC) ?_;rintro _ _ _ ⟨rfl,rfl,rfl⟩;rw[hm];refine tZ<|bK<|rZ<|yE I<|aT I<|za1 I<|rZ<|yE I<|aT I<|za1 I<|rZ<|yE I<|aT I<|za1 I<|rZ<|yE I<|aT I<|za1 I<|rZ<|yE I<|aT I<|za1 I<|rZ<|yE I<|aT I<|za1 I<|rZ<|yE I<|aT I<|za1 I<|rZ<|yE I<|aT I<|za1 I<|sQ<|rG<|yE I<|aT I<|za1 I<|rZ<|yE I<|aT I<|za1 I<|rZ<|yE I<|aT I<|za1 I<|rZ<|yE I<|aT I<|za2 I ?_;refine SC.drawX [15,17] ze6 kR ?_;refine SX.u (i:=0) I kR (fA bM I bt I) dC<|SX.q (i:=1) I kR (qL (v:=(.slice (some ⟨bu,0,none⟩) rs.length cap)) de I<|cO 2 I I) dC<|SX.u (i:=2) I kR (mV I) dC<|SX.u (i:=5) I kR (mV I) dC<|SX.u (i:=8) I kR (mV I) dC<|SX.u (i:=9) I kR (nC I) dC<|SX.u (i:=10) I kR (fA aq I aJ I) dC<|SX.q (i:=11) I kR (aZ (e:=encCell) (a:=(⟨x.id,x.dim,⟨xp,x.sides.length,xc⟩⟩:Rc)) (j:=k) (o:=2) (u:=(.slice xp x.sides.length xc)) aX I (zb7 0 I) hgr I) dC ?_
    repeat' (first
     | (refine SB.o (i:=3) I (cL eJ I<|aC E g1 _ q2 3 dC) dC (.inr iR) ?_; rintro _ _ _ ⟨rfl,rfl,rfl⟩; refine SX.u (i:=4) I kD (aD I I oM) dC ?_)
     | (refine SB.o (i:=3) I (cL eJ I<|aC E g1 _ q2 3 dC) dC (.inr iR) ?_; rintro _ _ _ ⟨rfl,rfl,rfl⟩; refine SX.u (i:=4) I kD (aD I I oM) dC ?_)
     | (refine SB.o (i:=6) I (cL eJ I<|aC E g1 _ q2 4 dC) dC (.inr iR) ?_; rintro _ _ _ ⟨rfl,rfl,rfl⟩)
     | (refine SB.o (i:=6) I (cL eJ I<|aC E g1 _ q2 4 dC) dC (.inr iR) ?_; rintro _ _ _ ⟨rfl,rfl,rfl⟩)
     | (refine SB.o (i:=7) I (bS sty32 I I I (ae trivial) dC) dC (.inr iR) ?_; rintro _ _ _ ⟨b266,rfl,rfl,rfl⟩; refine SX.to (fun w hw=>(hw.sublist<|List.Sublist.cons _<|.refl _).emptyRow 55 2<|some ⟨b266,0,none⟩) ?_)
     | (refine SB.o (i:=12) I (SO.appendE (m:=x.sides.length) 0 x.sides.length (x.sides.flatMap encSide.enc) sty32 I I I I I (zb7 2 I) (encSide.length _) (encSide.ones _) oM (by simp) oM oM) dC (.inr iR) ?_; rintro v271 _ _ ⟨rfl,rfl⟩; refine SX.freezeRow fun gq hleq hsq=>?_; have hsd:SlA encSide gq v271 x.sides:=hsq; obtain ⟨q7,d7,rfl⟩:=za4 hsd; refine SX.u (i:=13) I kD (za3 I<|buildF53 _ _ _ I) dC ?_)
     | (refine SB.o (i:=14) I (bS sty27 I I I (ae sB) dC) dC (.inr iR) ?_; rintro _ _ _ ⟨b273,rfl,rfl,rfl⟩)
     | (refine SB.o (i:=15) I (aP (e:=encCell) 0 ⟨500+a7 q2 3,a7 q2 4,⟨q7,x.sides.length,d7⟩⟩ sty27 I I I I I oM oM) dC (.inl dC) ?_; rintro v274 _ _ ⟨rfl,rfl⟩; refine SX.facts fun ⟨w0,hw0⟩=>?_; obtain ⟨q8,d8,rfl⟩:=ag (i:=0) hw0 rfl; clear hw0 w0; refine SX.u (i:=16) I kD (fA bM I bt I) dC ?_)
     | (refine SB.on (i:=17) I (sK 2 bt I I I I I sB) (.inl dC) ?_; rintro _ _ _ ⟨rfl,rfl⟩)
     | refine zd9 3 7 kD ?_ ?_
     | refine zd9 6 7 kD ?_ ?_
     | refine zd8 7 kD ?_
     | refine zd8 12 kD ?_
     | refine zd8 14 kD ?_
     | refine zd8 15 kD ?_
     | refine zd8 17 kD ?_
     | refine zd8 6 kD ?_
     | refine zd8 3 kD ?_
     | (refine SX.nil kD ?_; refine bN ?_; (refine fT fun ga hlea hsa=>?_; refine fT fun gb hleb hsb=>?_; exact za9 (gb,_) sB I I ⟨hleq.trans (hlea.trans hleb),_,za5 (e:=encCell) hsa hleb,(hfinA gb (hleq.trans (hlea.trans hleb)) ⟨I,I,hsb⟩).append ⟨⟨I,I,hsd.mono (hlea.trans hleb)⟩,trivial⟩⟩)))
   ·refine rZ<|lU (iB mT zT3 I I dC dC)<|lK (qL (v:=vi q0) iT3 I<|cO 4 I I)<|lW (cL eJ I<|aC E g1 _ q0 13 dC) ?_;rintro _ _ _ ⟨rfl,rfl,rfl⟩;rw[hm];refine tZ<|bK<|rZ<|yE I<|aT I<|za1 I<|rZ<|yE I<|aT I<|za1 I<|rZ<|yE I<|aT I<|za1 I<|rZ<|yE I<|aT I<|za1 I<|rZ<|yE I<|aT I<|za1 I<|rZ<|yE I<|aT I<|za1 I<|rZ<|yE I<|aT I<|za1 I<|rZ<|yE I<|aT I<|za1 I<|sQ<|rG (yE I<|aT I<|za1 I<|rZ<|yE I<|aT I<|za1 I<|rZ<|yE I<|aT I<|za1 I<|rZ<|yE I<|aT I<|za1 I<|kP<|bN<|fT fun ga hlea hsa=>?_);refine fT fun gb hleb hsb=>?_;exact za9 (gb,(.slice (some ⟨bu,0,none⟩) rs.length cap)) sB I I ⟨hlea.trans hleb,_,za5 (e:=encCell) hsa hleb,hfinA gb (hlea.trans hleb) ⟨I,I,hsb⟩⟩
  rintro ⟨g2,bv⟩ ⟨hle2,hbv⟩;dsimp only at hle2 hbv ⊢;obtain ⟨q3,d3,rfl⟩:=hbv.form;exact rZ<|lK (qV 0 aw ah I I I)<|oZ (sK 1 ah I I I I I sB)<|tZ<|rE<|ST.retCD 1 s (.inl I) results22 I aw ah I I uR ⟨I,hle1.trans hle2,_,I,hbv⟩
open Go.ChangeShapes Go.WideShapes Go.ChangeAt Go.RowKit
set_option maxRecDepth 100000
def qj (W:World):PH:=fun b=>W.heap[b]?
def E0 (W:World):World:={ W with drawn:=0 }
theorem AH (W:World):At (E0 W) (qj W) [] W:=⟨rfl,⟨rfl,zf9 _⟩,rfl,fun _ _ h=>h,by simp,by simp,List.Pairwise.nil⟩
theorem AI {W W':World}{g:PH}{s:Own}(h:At (E0 W) g s W')(hl:Le (qj W) g):Below W.heap.size W W':=by
 have hb:∀ k,k<W.heap.size→W'.heap[k]?=W.heap[k]?:=fun k hk=>by
  have h1:W.heap[k]?=some W.heap[k]:=Array.getElem?_eq_getElem hk;rw[h1];exact h.known k _<|hl k _ h1
 refine⟨h.os,h.tape.1,h.output,?_,hb⟩;refine zh3 fun hc=>?_;have h1:=hb W'.heap.size oM;rw[Array.getElem?_eq_none<|lR _,Array.getElem?_eq_getElem oM] at h1;cases h1
theorem AN {W:World}{a:Addr}{len cap:Nat}{xs:List Value}(hl:len≤cap)(hx:xs.length=len)(hc:∀ i x,xs[i]?=some x→W.cell? (a.add i)=some x):Sl (qj W) 1 (.slice (some a) len cap) len xs:=by
 refine⟨some a,cap,I,⟨oM,hl⟩,fun hne=>?_⟩;obtain ⟨b,o,sp⟩:=a;have h0:0<xs.length:=List.length_pos_iff.2 hne;have hc0:=hc 0 xs[0] (gE h0);have hsp:sp=none:=by simpa [Addr.add] using World.cell?_spot hc0
 subst hsp;have hadd:∀ i,(⟨b,o,none⟩:Addr).add i=⟨b,o+i,none⟩:=fun i=>by unfold Addr.add; split <;> simp_all
 simp only[hadd] at hc;have hcell:∀ i x,xs[i]?=some x→∃ cs T fr,W.heap[b]?=some (.cells cs T fr)∧cs[o+i]?=some x:=fun i x hi=>by
  have h1:=hc i x hi;unfold World.cell? at h1;split at h1
  ·rename_i cs T fr hh;exact⟨cs,T,fr,hh,by simpa using h1⟩
  ·cases h1
 obtain ⟨cs,T,fr,hb,_⟩:=hcell 0 xs[0] (gE h0);refine⟨b,o,cs,T,fr,I,hb,fun j x hj=>?_⟩;obtain ⟨cs',T',fr',hb',h2⟩:=hcell j x hj;rw[hb] at hb';cases hb';exact h2
section
variable {H:Type}{enc:TypeId×Value→H}{W:World}{base:Nat}{spare:Nat→Bool}{hd:Bool}
theorem Tryz.cells3:Tryz.prog.cellsOf 3=1:=by kernel_rfl
theorem Tryz.cells83:Tryz.prog.cellsOf 83=1:=by kernel_rfl
theorem Tryz.cells61:Tryz.prog.cellsOf 61=3:=by kernel_rfl
theorem Tryz.cells24:Tryz.prog.cellsOf 24=3:=by kernel_rfl
theorem BR {fuel:Nat}{v:Value}{x:DataW H×List MemPlace}(h:DataW.trod enc Tryz.prog W base spare hd fuel 83 [v]=some x):∃ (l:List Int) (r:Sv),v = .slice r.p r.n r.c∧dQ (qj W) v l:=by
 rcases open_ints aK uT3 cells3 h with ⟨hcs,_⟩ | ⟨a,len,cap,zs,hcs,_,hl,_,hz,_,hcell,_⟩
 ·simp at hcs;subst hcs;exact⟨[],⟨none,0,0⟩,I,zc1 _ _⟩
 ·simp at hcs;subst hcs;have hlz:len≤zs.length:=by rw[hz]; split <;> omega
  have hlen:(zs.take len).length=len:=by rw[ze7]; omega
  have he:(zs.take len).flatMap encInt.enc=(zs.take len).map vi:=by
   rw[List.flatMap_def];induction zs.take len with
   | nil=>rfl
   | cons y t ih=>simp[encInt] at ih ⊢; exact ih
  refine⟨zs.take len,⟨some a,len,cap⟩,I,?_⟩;show Sl (qj W) 1 _ (zs.take len).length ((zs.take len).flatMap encInt.enc);rw[he,hlen];refine AN hl (by rw[ze9,hlen]) fun i y hi=>?_;rw[zi3] at hi;cases hc:(zs.take len)[i]? with
  | none=>rw[hc] at hi; cases hi
  | some z =>
   rw[hc] at hi;cases hi;have hil:i<(zs.take len).length:=(zf8.1 hc).1;have hi2:i<zs.length:=oM;rw[hcell i hi2];have:zs.getD i 0=z:=by
    rw[zi4] at hc;split at hc
    ·rw[zh4,hc]; rfl
    ·cases hc
   rw[this]
theorem vv {α β γ:Type}{R:α→β→Prop}{f:γ→α}{k:γ→β}:∀ {l:List γ},(∀ i∈l,R (f i)<|k i)→aA R (l.map f) (l.map k)
 | [],_=>trivial
 | x::l,h=>⟨h x (by simp),vv fun i hi=>h i (by simp[hi])⟩
instance:Inhabited (List Int×Sv):=⟨([],⟨none,0,0⟩)⟩
theorem Aj {fuel:Nat}{v:Value}{x:DataW H×List MemPlace}(h:DataW.trod enc Tryz.prog W base spare hd fuel 22 [v]=some x):∃ ls,cZ (qj W) v ls:=by
 rcases Go.Deep.open_slice1 eP cells83 h with ⟨hcs,_⟩ | ⟨a,len,cap,m,n,V,D,Pl,hcs,_,hl,_,hmm,_,hx⟩
 ·simp at hcs;subst hcs;exact⟨[],[],zc1 _ _,trivial⟩
 ·simp at hcs;subst hcs;have hlm:len≤m:=by rw[hmm]; split <;> omega
  obtain ⟨f,hf⟩:=Go.Deep.choose_lt (α:=List Int×Sv) (n:=len) (p:=fun i y=>V i = .slice y.2.p y.2.n y.2.c∧dQ (qj W) (V i) y.1) fun i hi=>by
   obtain ⟨l,r,h1,h2⟩:=BR (hx i oM).2;exact⟨(l,r),h1,h2⟩
  refine⟨(List.range len).map fun i=>(f i).1,(List.range len).map fun i=>(f i).2,?_,vv fun i hi=>?_⟩
  ·show Sl (qj W) 1 _ ((List.range len).map fun i=>(f i).2).length (((List.range len).map fun i=>(f i).2).flatMap eC.enc);have he:((List.range len).map fun i=>(f i).2).flatMap eC.enc=(List.range len).map fun i=>V i:=by
    have:∀ l:List Nat,(∀ i∈l,i<len)→(l.map fun i=>(f i).2).flatMap eC.enc=l.map fun i=>V i:=by
     intro l;induction l with
     | nil=>intro _; rfl
     | cons y t ih =>
      intro hy;rw[zg7,zh8,ih fun i hi=>hy i (by simp[hi]),zg7,(hf y<|hy y<|by simp).1];rfl
    exact this _ fun i hi=>List.mem_range.1 hi
   rw[he,ze9,zi7];refine AN hl (by simp) fun i y hi=>?_;rw[zi3] at hi;cases hc:(List.range len)[i]? with
   | none=>rw[hc] at hi; cases hi
   | some z =>
    rw[hc] at hi;cases hi;obtain ⟨h1,h2⟩:=zf8.1 hc;simp at h1 h2;subst h2;exact (hx i oM).1
  ·have:=hf i<|List.mem_range.1 hi;unfold dK;rw[← this.1];exact this.2
theorem sG {r:Reach}{b0:Nat}{P:Program}{w:World}{t e:TypeId}{n:Nat}{v:Value}(ht:P.underlying t=some (.array n e))(h:Value.okWide P w r b0 t v):∃ cs,v = .agg cs∧cs.size=P.cellsOf t:=by
 simp only[Value.okWide,ht] at h;obtain ⟨cs,h1,h2,_⟩:=h;exact⟨cs,h1,h2⟩
theorem zK {r:Reach}{b0:Nat}{v:Value}{d:DataW H}{p:List MemPlace}(hv:Value.okWide Tryz.prog W r b0 61 v)(h:DataW.Trod enc Tryz.prog W base spare hd 61 v d p):∃ a b c:Int,v = .agg #[vi a,vi b,vi c]:=by
 obtain ⟨cs,rfl,hsz⟩:=sG mT hv;rw[cells61] at hsz;obtain ⟨l⟩:=cs
 match l,hsz with
 | [c0,c1,c2],_ =>
  obtain ⟨fuel,hf⟩:=h;obtain ⟨y0,y1,y2,n,_,h0,h1,h2⟩:=trod_array3 mT cells3 (by simpa [Value.cells] using hf);obtain ⟨a,e0,_,_⟩:=DataW.trod_int uT3 h0;obtain ⟨b,e1,_,_⟩:=DataW.trod_int uT3 h1;obtain ⟨c,e2,_,_⟩:=DataW.trod_int uT3 h2;simp at e0 e1 e2;subst e0;subst e1;subst e2;exact⟨a,b,c,I⟩
theorem zR {r:Reach}{b0:Nat}{v:Value}{d:DataW H}{p:List MemPlace}(hv:Value.okWide Tryz.prog W r b0 24 v)(h:DataW.Trod enc Tryz.prog W base spare hd 24 v d p):∃ (k y:Int) (u:Value) (ls:List (List Int)),v = .agg #[vi k,u,vi y]∧cZ (qj W) u ls:=by
 obtain ⟨c0,c1,c2,y0,y1,y2,n,rfl,_,_,h0,h1,h2⟩:=Go.Joins.open_agg3 lj kR cells24 hv h;obtain ⟨a,e0,_,_⟩:=DataW.trod_int uT3 h0;obtain ⟨c,e2,_,_⟩:=DataW.trod_int uT3 h2;obtain ⟨ls,hls⟩:=Aj h1;simp at e0 e2;subst e0;subst e2;exact⟨a,c,c1,ls,I,hls⟩
end
end Go.Proofs.YtackilpikhkijaaGreatDoor
namespace Go.Sy
open Go
section
variable {P:Program}{N:Nat}{E:World}{f:Fr}{g:PH}{s s1:Own}{dst:Option Tmp}{ty:TypeId}{pos:String}{af:Array Edge}{gd:Option (Nat×Bool)}{α:Type}{k:Nat}{e:Enc α k}
end
end Go.Sy
namespace Go.Proofs.YtackilpikhkijaaGreatDoor
open _root_.Go.Proofs.Tryz _root_.Go.Proofs.YtackilpikhkijaaGreatDoor.Tryz
open Go Go.Sy Go.Pl Go.Proofs
def Bd (A:List Cl)(k:Int):Option (List Int):=(aB A k).map fun c=>c.sides.map Side.cell
def Ci (A:List Cl)(m:List Int):Nat:=((A.filter fun c=>!m.contains c.id).map fun c=>c.sides.length).sum
structure Wide (A:List Cl)(ids left m:List Int):Prop where
 sound:∀ x∈m,∃ id∈ids,Rch (Bd A) id x
 todo:∀ x∈left,Bd A x≠none→∃ id∈ids,Rch (Bd A) id x
 start:∀ x∈ids,Bd A x≠none→x∈left∨x∈m
 sides:∀ x∈m,∀ l,Bd A x=some l→∀ y∈l,Bd A y≠none→y∈left∨y∈m
 few:left.length+Ci A m≤ids.length+Ci A []
set_option maxRecDepth 100000
set_option maxHeartbeats 1000000
theorem Tryz.sty124:STy Tryz.prog 124 4 1 1 (vb false):=⟨underlying124,⟨t4,by kernel_rfl,by kernel_rfl,by kernel_rfl,by kernel_rfl⟩,rfl,by decide⟩
def iJ:Enc Bool 1:=⟨fun n=>[vb n],fun _=>rfl,fun _ u hu=>by simp at hu; subst hu; rfl,by decide⟩
def gt (A:List Cl)(m:List Int):List Bool:=A.map fun c=>m.contains c.id
theorem y5 (A:List Cl):gt A []=List.replicate A.length false:=by
 unfold gt;induction A with
 | nil=>rfl
 | cons d t ih=>simp[List.replicate_succ] at ih ⊢; exact ih
theorem y6 {A:List Cl}{m:List Int}{k:Nat}{c:Cl}(h:A[k]?=some c):(gt A m)[k]?=some (m.contains c.id):=by simp[gt,h]
theorem yZ {A:List Cl}{m:List Int}{k:Nat}{c:Cl}(hn:(A.map Cl.id).Nodup)(h:A[k]?=some c):(gt A m).set k true=gt A (m++[c.id]):=by
 obtain ⟨hk,hc⟩:=zf8.1 h;apply List.ext_getElem?;intro q;rw[List.getElem?_set];unfold gt;simp only[zi3,ze9];split
 ·rename_i e;subst e;simp[hk,hc]
 ·rename_i hne;cases hq:A[q]? with
  | none=>rfl
  | some d =>
   obtain ⟨hq1,hq2⟩:=zf8.1 hq;have hd:¬ d.id=c.id:=fun e=>by
    have h1:(A.map Cl.id)[q]?=some c.id:=by simp[hq,e]
    have h2:(A.map Cl.id)[k]?=some c.id:=by simp[h]
    obtain ⟨i1,e1⟩:=zf8.1 h1;obtain ⟨i2,e2⟩:=zf8.1 h2
    rcases Nat.lt_or_gt_of_ne hne with h3 | h3
    ·exact zd1.1 hn k q i2 i1 h3<|e2.trans e1.symm
    ·exact zd1.1 hn q k i1 i2 h3<|e1.trans e2.symm
   simp[hd]
section
variable {φ:Int→Int}{K:Int→Prop}(hφ:∀ a b,K a→K b→φ a=φ b→a=b)
include hφ
omit hφ in
omit hφ in
end
def code (k q:Nat):Int:=if q<k then ((q * 16+k:Nat):Int) else ((k * 16+(q+1):Nat):Int)
structure vA (all:List (List Int)):Prop where
 strict:fh all
 form:∀ s∈all,s≠[]∧eG s∧s.length≤9
 faces:∀ s∈all,2≤s.length→∀ k,k<s.length→s.eraseIdx k∈all
section
variable {all:List (List Int)}(hg:vA all)
include hg
end
def ixC (all:List (List Int))(t:List Int):Int:=((lbL all t:Nat):Int)+1
def Cz (all:List (List Int))(s:List Int):List Side:=if s.length≤1 then [] else (List.range s.length).reverse.map fun k:Nat=>⟨ixC all<|s.eraseIdx k,eu k⟩
def celC (all:List (List Int))(s:List Int):Cl:=⟨ixC all s,(s.length:Int) - 1,Cz all s⟩
theorem uZ {A:List Cl}(h:(A.map Cl.id).Nodup){x:Cl}(hx:x∈A):aB A x.id=some x:=by
 induction A with
 | nil=>simp at hx
 | cons c t ih =>
  simp only[zg7,zk6] at h;unfold aB
  rcases zf4.1 hx with rfl | hx
  ·simp
  ·have hne:¬ c.id=x.id:=fun e=>h.1 (by rw[e]; exact zf5.2 ⟨x,hx,I⟩);rw[zi9];simp only[hne,decide_false];exact ih h.2 hx
theorem vW (c:Cl):fc (fc c)=fc c:=by
 unfold fc;rw[← cR (cD c.sides) (aG.refl _)]
theorem kp (l:List Cl):aa (aa l)=aa l:=by
 have h1:sortBy Cl.id (aa l)=aa l:=(cR (gy l)<|aG.refl _).symm;show (sortBy Cl.id<|aa l).map fc=aa l;rw[h1];unfold aa;rw[zi8];exact zc9 fun c _=>vW c
section
variable {all:List (List Int)}(hg:vA all)
include hg
end
section
variable {all:List (List Int)}(hg:vA all)
include hg
end
section
variable {all:List (List Int)}(hg:vA all)
include hg
end
open Go.ChangeShapes Go.WideShapes Go.ChangeAt Go.RowKit
set_option maxRecDepth 100000
section
variable {H:Type}{enc:TypeId×Value→H}{W:World}{base:Nat}{spare:Nat→Bool}{hd:Bool}
end
inductive Cn (E:Int→Int→Prop):Int→Int→Prop
 | refl (a:Int):Cn E a a
 | step {a b c:Int} (h:E a b∨E b a) (r:Cn E b c):Cn E a c
theorem Cn.trans {E:Int→Int→Prop}{a b c:Int}(h:Cn E a b)(k:Cn E b c):Cn E a c:=by
 induction h with
 | refl _=>exact k
 | step h _ ih=>exact .step h<|ih k
theorem Cn.one {E:Int→Int→Prop}{a b:Int}(h:E a b):Cn E a b:=.step (.inl h) (.refl b)
theorem Cn.symm {E:Int→Int→Prop}{a b:Int}(h:Cn E a b):Cn E b a:=by
 induction h with
 | refl _=>exact .refl _
 | step h _ ih=>exact ih.trans<|.step h.symm<|.refl _
theorem Cn.mono {E E':Int→Int→Prop}(h:∀ a b,E a b→Cn E' a b){a b:Int}(hc:Cn E a b):Cn E' a b:=by
 induction hc with
 | refl _=>exact .refl _
 | step e _ ih =>
  rcases e with e | e
  ·exact (h _ _ e).trans ih
  ·exact (h _ _ e).symm.trans ih
theorem Cn.iso {E:Int→Int→Prop}{a b:Int}(h:∀ b,¬ E a b∧¬ E b a)(hc:Cn E a b):a=b:=by
 cases hc with
 | refl _=>rfl
 | step e _ =>
  rcases e with e | e
  ·exact absurd e (h _).1
  ·exact absurd e (h _).2
theorem Cn.add {E E':Int→Int→Prop}{x y:Int}(h:∀ a b,E' a b↔E a b∨(a=x∧b=y))(a b:Int):Cn E' a b↔Cn E a b∨(Cn E a x∧Cn E y b)∨(Cn E a y∧Cn E x b):=by
 have hxy:Cn E' x y:=.one<|(h x y).2<|.inr ⟨rfl,rfl⟩;have hm:∀ {a b:Int},Cn E a b→Cn E' a b:=fun hc=>hc.mono fun a b e=>.one<|(h a b).2<|.inl e;constructor
 ·intro hc;induction hc with
  | refl _=>exact .inl<|.refl _
  | step e _ ih =>
   have key:∀ {p q r:Int},Cn E p q→(Cn E q r∨(Cn E q x∧Cn E y r)∨(Cn E q y∧Cn E x r))→Cn E p r∨(Cn E p x∧Cn E y r)∨(Cn E p y∧Cn E x r):=by
    rintro p q r h1 (h2 | ⟨h2,h3⟩ | ⟨h2,h3⟩)
    ·exact .inl<|h1.trans h2
    ·exact .inr<|.inl ⟨h1.trans h2,h3⟩
    ·exact .inr<|.inr ⟨h1.trans h2,h3⟩
   rcases e with e | e
   ·rcases (h _ _).1 e with e | ⟨rfl,rfl⟩
    ·exact key (.one e) ih
    ·rcases ih with h2 | ⟨_,h3⟩ | ⟨_,h3⟩
     ·exact .inr<|.inl ⟨.refl _,h2⟩
     ·exact .inr<|.inl ⟨.refl _,h3⟩
     ·exact .inl h3
   ·rcases (h _ _).1 e with e | ⟨rfl,rfl⟩
    ·exact key (Cn.one e).symm ih
    ·rcases ih with h2 | ⟨_,h3⟩ | ⟨_,h3⟩
     ·exact .inr<|.inr ⟨.refl _,h2⟩
     ·exact .inl h3
     ·exact .inr<|.inr ⟨.refl _,h3⟩
 ·rintro (h1 | ⟨h1,h2⟩ | ⟨h1,h2⟩)
  ·exact hm h1
  ·exact (hm h1).trans<|hxy.trans<|hm h2
  ·exact (hm h1).trans<|hxy.symm.trans<|hm h2
def gI (ml:List (Int×List Int))(a b:Int):Prop:=∃ p∈ml,p.2.head?=some a∧b∈p.2
def RZ (e:En)(z:Int×Int):Prop:=e.id=z.1∧e.sum=z.2
def RM (e:En)(p:Int×List Int):Prop:=e.id=p.1∧e.many=p.2.length∧p.2.head?=some (e.fst:Int)
theorem p8 {x:Int}(h : -9223372036854775808≤x∧x<9223372036854775808):wr x=x:=zl3 _ oM
theorem AZ {i:Nat}{c p:Int}:∀ {es:List En} {zl:List (Int×Int)},aA RZ es zl→(∀ e∈es,wr (e.sum+p)=e.sum+p)→wr (0+p)=p→aA RZ (ku i c p es) (s5 zl c p)
 | [],[],_,_,hp=>⟨⟨rfl,hp⟩,trivial⟩
 | e::es,(a,z)::zl,h,hb,hp=>by
  obtain ⟨⟨h1,h2⟩,h3⟩:=h;have h1:e.id=a:=h1;have h2:e.sum=z:=h2;simp only[ku,s5];by_cases hc:e.id=c
  ·rw[zg4 hc,zg4 (by rw[← h1,hc])];exact⟨⟨h1,by show wr (e.sum+p)=z+p; rw[hb e (by simp),h2]⟩,h3⟩
  ·rw[zg3 hc,zg3 (by rw[← h1]; exact fun e=>hc e.symm)];exact⟨⟨h1,h2⟩,AZ h3 (fun x hx=>hb x<|by simp[hx]) hp⟩
 | [],_::_,h,_,_=>h.elim
 | _::_,[],h,_,_=>h.elim
theorem A4 {i:Nat}{c p:Int}:∀ {es:List En} {ml:List (Int×List Int)},aA RM es ml→(∀ e∈es,wr (e.many+1)=e.many+1)→aA RM (ku i c p es) (jv ml c i) ∧
  ∀ a b,gI (jv ml c i) a b↔gI ml a b∨(a=jn i c es∧b=i)
 | [],[],_,_=>by
  refine⟨⟨⟨rfl,by rfl,rfl⟩,trivial⟩,fun a b=>?_⟩;constructor
  ·rintro ⟨q,hq,h1,h2⟩;simp[jv] at hq;subst hq;simp at h1 h2;exact .inr ⟨h1.symm,h2⟩
  ·rintro (⟨q,hq,_⟩ | ⟨rfl,rfl⟩)
   ·simp at hq
   ·exact⟨(c,[(i:Int)]),by simp[jv],I,by simp⟩
 | e::es,(k,l)::ml,h,hb=>by
  obtain ⟨⟨h1,h2,h4⟩,h3⟩:=h;have h1:e.id=k:=h1;have h2:e.many=l.length:=h2;have h4:l.head?=some (e.fst:Int):=h4;simp only[ku,jv,jn];by_cases hc:e.id=c
  ·rw[zg4 hc,zg4 (by rw[← h1,hc]),zg4 hc];have hh:(l++[(i:Int)]).head?=some (e.fst:Int):=by
    cases l with
    | nil=>simp at h4
    | cons x r=>simpa using h4
   refine⟨⟨⟨h1,by show wr (e.many+1)=_; rw[hb e (by simp),h2]; simp,hh⟩,h3⟩,fun a b=>?_⟩;constructor
   ·rintro ⟨q,hq,h5,h6⟩
    rcases zf4.1 hq with rfl | hq
    ·dsimp only at h5 h6;rw[hh] at h5
     rcases zf6.1 h6 with h6 | h6
     ·exact .inl ⟨(k,l),by simp,by rw[h4,h5],h6⟩
     ·simp at h6;injection h5 with h5
      exact .inr ⟨h5.symm,h6⟩
    ·exact .inl ⟨q,by simp[hq],h5,h6⟩
   ·rintro (⟨q,hq,h5,h6⟩ | ⟨rfl,rfl⟩)
    ·rcases zf4.1 hq with rfl | hq
     ·exact⟨(k,l++[(i:Int)]),by simp,by rw[hh,← h4,h5],by simp[h6]⟩
     ·exact⟨q,by simp[hq],h5,h6⟩
    ·exact⟨(k,l++[(i:Int)]),by simp,hh,by simp⟩
  ·rw[zg3 hc,zg3 (by rw[← h1]; exact fun e=>hc e.symm),zg3 hc];obtain ⟨i1,i2⟩:=A4 (i:=i) (c:=c) (p:=p) h3 fun x hx=>hb x (by simp[hx]);refine⟨⟨⟨h1,h2,h4⟩,i1⟩,fun a b=>?_⟩;have e1:∀ L,gI ((k,l)::L) a b↔(l.head?=some a∧b∈l)∨gI L a b:=fun L=>by
    unfold gI;simp
   rw[e1,e1,i2,or_assoc]
 | [],_::_,h,_=>h.elim
 | _::_,[],h,_=>h.elim
structure Sd (n t k:Nat)(es:List En)(part:List Int)(zl:List (Int×Int))(ml:List (Int×List Int)):Prop where
 z:aA RZ es zl
 m:aA RM es ml
 bz:∀ e∈es,-(t:Int)≤e.sum∧e.sum≤t∧0≤e.many∧e.many≤t
 bf:∀ e∈es,e.fst<k
 bm:∀ p∈ml,∀ x∈p.2,0≤x∧x<k
 len:part.length=n
 bp:∀ a,a<k→0≤part.getD a 0∧part.getD a 0<k
 cn:∀ a b:Nat,a<k→b<k→(part.getD a 0=part.getD b 0↔Cn (gI ml) a b)
theorem kM {ml:List (Int×List Int)}{k:Nat}(h:∀ p∈ml,∀ x∈p.2,0≤x∧x<(k:Int)){a b:Int}(hl:gI ml a b):(0≤a∧a<k)∧(0≤b∧b<k):=by
 obtain ⟨p,hp,h1,h2⟩:=hl;exact⟨h p hp a<|List.mem_of_head? h1,h p hp b h2⟩
theorem Sd.open {n t k:Nat}{es:List En}{part:List Int}{zl:List (Int×Int)}{ml:List (Int×List Int)}(h:Sd n t k es part zl ml)(hk:k<n):Sd n t (k+1) es (part.set k k) zl ml:=by
 have hl:=h.len;have g1:(part.set k (k:Int)).getD k 0=k:=by rw[zh4,List.getElem?_set]; simp[hl,hk]
 have g2:∀ a,a≠k→(part.set k (k:Int)).getD a 0=part.getD a 0:=fun a ha=>by
  rw[zh4,zh4,List.getElem?_set,zg3 fun e=>ha e.symm]
 have iso:∀ b,¬ gI ml k b∧¬ gI ml b k:=fun b=>⟨fun e=>by have:=kM h.bm e; omega,fun e=>by have:=kM h.bm e; omega⟩;refine⟨h.z,h.m,h.bz,fun e he=>by have:=h.bf e he; omega,fun p hp x hx=>by have:=h.bm p hp x hx; omega,by simp[hl],fun a ha=>?_,fun a b ha hb=>?_⟩
 ·by_cases e:a=k
  ·subst e; rw[g1]; omega
  ·rw[g2 a e]; have:=h.bp a oM; omega
 ·by_cases e:a=k <;> by_cases e2:b=k
  ·subst e; subst e2; exact⟨fun _=>.refl _,fun _=>I⟩
  ·subst e;rw[g1,g2 b e2];have:=h.bp b oM;exact⟨fun h=>by omega,fun hc=>by have:=hc.iso iso; omega⟩
  ·subst e2;rw[g1,g2 a e];have:=h.bp a oM;exact⟨fun h=>by omega,fun hc=>by have:=hc.symm.iso iso; omega⟩
  ·rw[g2 a e,g2 b e2];exact h.cn a b oM oM
theorem ke {m:Nat}{old now:Int}{p:List Int}{a:Nat}(h:a<p.length)(hm:a<m):(eD m old now p).getD a 0=if p.getD a 0=now then old else p.getD a 0:=by
 rw[zh4,zh4];simp only[eD,List.getElem?_mapIdx,gE h,Option.map_some,Option.getD_some,hm,true_and]
theorem Aq {i:Nat}{c:Int}{es:List En}(h:∀ e∈es,e.fst<i+1):jn i c es<i+1:=by
 induction es with
 | nil=>exact Nat.lt_succ_self i
 | cons e r ih =>
  unfold jn;split
  ·exact h e (by simp)
  ·exact ih fun x hx=>h x (by simp[hx])
theorem vg {P:En→Prop}{i:Nat}{c p:Int}(hn:P (En.up ⟨c,0,0,i⟩ p))(hu:∀ e,P e→P (e.up p))(ho:∀ e,P e→P e):∀ {es:List En},(∀ e∈es,P e)→∀ e∈ku i c p es,P e
 | [],_,e,he=>by simp[ku] at he; subst he; exact hn
 | x::r,h,e,he=>by
  unfold ku at he;split at he
  ·rcases zf4.1 he with rfl | he
   ·exact hu x (h x<|by simp)
   ·exact h e (by simp[he])
  ·rcases zf4.1 he with rfl | he
   ·exact h e (by simp)
   ·exact vg hn hu ho (fun y hy=>h y<|by simp[hy]) e he
theorem vw {P:Int→Prop}{c:Int}{i:Int}(hi:P i):∀ {ml:List (Int×List Int)},(∀ p∈ml,∀ x∈p.2,P x)→∀ p∈jv ml c i,∀ x∈p.2,P x
 | [],_,p,hp,x,hx=>by simp[jv] at hp; subst hp; simp at hx; subst hx; exact hi
 | (k,l)::r,h,p,hp,x,hx=>by
  unfold jv at hp;split at hp
  ·rcases zf4.1 hp with rfl | hp
   ·rcases zf6.1 hx with hx | hx
    ·exact h (k,l) (by simp) x hx
    ·simp at hx; subst hx; exact hi
   ·exact h p (by simp[hp]) x hx
  ·rcases zf4.1 hp with rfl | hp
   ·exact h (k,l) (by simp) x hx
   ·exact vw hi (fun q hq=>h q<|by simp[hq]) p hp x hx
theorem Sd.next {n t i:Nat}{es:List En}{part:List Int}{zl:List (Int×Int)}{ml:List (Int×List Int)}{x r:Side}(h:Sd n t (i+1) es part zl ml)(hi:i<n)(ht:t<1000000)(hx:x.sign=1∨x.sign = -1)(hr:r.sign=1∨r.sign = -1) :
  Sd n (t+1) (i+1) (la i x.sign (es,part) r).1 (la i x.sign (es,part) r).2 (rY x zl r) (jQ i ml r):=by
 have hp:=uI hx hr;have hw:wr (x.sign * r.sign)=x.sign * r.sign:=p8 oM;unfold la rY jQ;dsimp only;rw[hw];generalize x.sign * r.sign=p at *;have hl:=h.len;have hbm:=A4 (i:=i) (c:=r.cell) (p:=p) h.m fun e he=>by have:=h.bz e he; exact p8 oM
 have hf:=Aq (c:=r.cell) h.bf;refine⟨AZ h.z (fun e he=>by have:=h.bz e he; exact p8 oM) (by rw[Int.zero_add]; exact p8 oM),hbm.1,?_,?_,?_,by rw[k4]; exact hl,fun a ha=>?_,fun a b ha hb=>?_⟩
 ·have:∀ e∈ku i r.cell p es,(-(t:Int)≤e.sum∧e.sum≤t∧0≤e.many∧e.many≤t)∨(-((t+1:Nat):Int)≤e.sum∧e.sum≤((t+1:Nat):Int)∧0≤e.many∧e.many≤((t+1:Nat):Int)):=by
   have h0:=h.bz;clear h hbm hf hl;generalize hes:ku i r.cell p es=fs;intro e he;subst hes;induction es with
   | nil =>
    simp[ku] at he;subst he;right;simp only[En.up];rw[p8 oM,p8 oM];omega
   | cons y q ih =>
    unfold ku at he;split at he
    ·rcases zf4.1 he with rfl | he
     ·right;have:=h0 y (by simp);simp only[En.up];rw[p8 oM,p8 oM];omega
     ·exact .inl (h0 e<|by simp[he])
    ·rcases zf4.1 he with rfl | he
     ·exact .inl (h0 e<|by simp)
     ·exact ih (fun z hz=>h0 z<|by simp[hz]) he
  intro e he
  rcases this e he with h1 | h1 <;> omega
 ·exact vg (P:=fun e=>e.fst<i+1) (Nat.lt_succ_self i) (fun e he=>he) (fun e he=>he) h.bf
 ·exact vw (P:=fun x=>0≤x∧x<((i+1:Nat):Int)) oM h.bm
 ·rw[ke oM ha];split
  ·exact h.bp _ hf
  ·exact h.bp a ha
 ·rw[ke oM ha,ke oM hb,Cn.add (x:=(jn i r.cell es:Int)) (y:=(i:Int)) hbm.2 a b];rw[← h.cn a b ha hb,← h.cn a _ ha hf,← h.cn i b oM hb,← h.cn a i ha oM,← h.cn _ b hf hb];generalize part.getD a 0=pa;generalize part.getD b 0=pb;generalize part.getD i 0=pi;generalize part.getD (jn i r.cell es) 0=pf;by_cases h1:pa=pi <;> by_cases h2:pb=pi <;> simp[h1,h2] <;> omega
theorem Sd.inner {n i:Nat}{x:Side}(hi:i<n)(hx:x.sign=1∨x.sign = -1):∀ (l:List Side) {t:Nat} {es:List En} {part:List Int} {zl:List (Int×Int)} {ml:List (Int×List Int)},Sd n t (i+1) es part zl ml→t+l.length<1000000→(∀ r∈l,r.sign=1∨r.sign = -1) →
  Sd n (t+l.length) (i+1) (l.foldl (la i x.sign) (es,part)).1 (l.foldl (la i x.sign) (es,part)).2 (l.foldl (rY x) zl) (l.foldl (jQ i) ml)
 | [],_,_,_,_,_,h,_,_=>h
 | r::l,t,es,part,zl,ml,h,ht,hr=>by
  simp only[zf2] at ht;have h1:=h.next (x:=x) (r:=r) hi oM hx (hr r<|by simp);have:=Sd.inner hi hx l h1 oM (fun q hq=>hr q<|by simp[hq]);simp only[zj2,zf2];rw[show t+(l.length+1)=t+1+l.length by omega];exact this
theorem Sd.outer {tl:List Cl}{n:Nat}:∀ (l:List Side) {t k:Nat} {es:List En} {part:List Int} {zl:List (Int×Int)} {ml:List (Int×List Int)},Sd n t k es part zl ml→k+l.length≤n→t+64 * l.length<1000000→(∀ x∈l,x.sign=1∨x.sign = -1)→(∀ x∈l,(bT tl x).length≤64∧∀ r∈bT tl x,r.sign=1∨r.sign = -1) →
  ∃ t',Sd n t' (k+l.length) ((l.zipIdx k).foldl (m4 tl) (es,part)).1 ((l.zipIdx k).foldl (m4 tl) (es,part)).2 (l.foldl (fun zl x=>(bT tl x).foldl (rY x) zl) zl)<|(l.zipIdx k).foldl (fun ml p=>(bT tl p.1).foldl (jQ p.2) ml) ml
 | [],t,_,_,_,_,_,h,_,_,_,_=>⟨t,h⟩
 | x::l,t,k,es,part,zl,ml,h,hk,ht,hs,hq=>by
  simp only[zf2] at hk ht;have h0:=hq x (by simp);have h1:=(h.open oM).inner (x:=x) oM (hs x<|by simp) (bT tl x) oM h0.2;obtain ⟨t',h2⟩:=Sd.outer l h1 oM oM (fun y hy=>hs y<|by simp[hy]) (fun y hy=>hq y<|by simp[hy]);refine⟨t',?_⟩;simp only[List.zipIdx_cons,zj2,zf2];rw[show k+(l.length+1)=k+1+l.length by omega];exact h2
theorem ns {α β:Type}{R:α→β→Prop}{p:α→Bool}{q:β→Bool}(h:∀ a b,R a b→p a=q b):∀ {l:List α} {m:List β},aA R l m→l.any p=m.any q
 | [],[],_=>rfl
 | a::l,b::m,hr=>by simp only[List.any_cons,h a b hr.1,ns h hr.2]
 | [],_::_,hr=>hr.elim
 | _::_,[],hr=>hr.elim
theorem AO {ml:List (Int×List Int)}(h2:∀ p∈ml,p.2.length=2)(a b:Int):Rch (jT<|fo ml) a b↔Cn (gI ml) a b:=by
 have hstep:∀ x y,y∈ja (fo ml) x→Cn (gI ml) x y:=fun x y hy=>by
  obtain ⟨p,hp,h⟩:=(kx ml x y).1 hy
  rcases h with h | h
  ·exact .one ⟨p,hp,by rw[h]; rfl,by rw[h]; simp⟩
  ·exact (Cn.one (E:=gI ml) ⟨p,hp,by rw[h]; rfl,by rw[h]; simp⟩).symm
 have hadj:∀ x,jT (fo ml) x≠none:=fun x=>by simp[jT]
 constructor
 ·intro h;induction h with
  | refl _ _=>exact .refl _
  | step x y _ l hl hy _ ih =>
   simp only[jT,zh1] at hl;subst hl;exact (hstep x y hy).trans ih
 ·intro h;induction h with
  | refl a=>exact .refl a<|hadj a
  | @step x y z e _ ih =>
   have key:∀ u v,gI ml u v→v=u∨v∈ja (fo ml) u:=fun u v ⟨p,hp,h3,h4⟩=>by
    have:=h2 p hp
    match hq:p.2,this with
    | [c,d],_ =>
     rw[hq] at h3 h4;simp at h3 h4;subst h3
     rcases h4 with h4 | h4
     ·exact .inl h4
     ·exact .inr<|(kx ml c v).2 ⟨p,hp,.inl (by rw[hq,h4])⟩
   rcases e with e | e
   ·rcases key x y e with rfl | h5
    ·exact ih
    ·exact .step x y z _ I h5 ih
   ·rcases key y x e with rfl | h5
    ·exact ih
    ·refine .step x y z _ I ?_ ih;obtain ⟨p,hp,h6⟩:=(kx ml y x).1 h5;exact (kx ml x y).2 ⟨p,hp,h6.symm⟩
theorem rf {l:List Int}(hn:l.Nodup)(hb:∀ x∈l,0≤x):(l.map Int.toNat).Nodup:=by
 rw[List.Nodup,zk8];refine List.Pairwise.imp_of_mem ?_ hn;intro a b ha hb' hne e;have:=hb a ha;have:=hb b hb';omega
theorem rg {l:List Int}{n:Nat}(hn:l.Nodup)(hb:∀ x∈l,0≤x∧x<(n:Int)):l.length≤n:=by
 have h1:=rf hn fun x hx=>(hb x hx).1;have:=fk (l:=List.range n) h1 List.nodup_range fun x hx=>by
  obtain ⟨y,hy,rfl⟩:=zf5.1 hx;have:=hb y hy;exact List.mem_range.2 oM
 simpa using this
theorem qw {tl:List Cl}{c:Cl}(hok:AOk tl c)(h0:0<c.sides.length):iH tl c=fI tl c:=by
 obtain ⟨h64,hs,hq⟩:=hok;have start:Sd c.sides.length 0 0 [] (List.replicate c.sides.length 0) [] []:=⟨trivial,trivial,by simp,by simp,by simp,by simp,by simp,fun a b ha=>by omega⟩;obtain ⟨t,hd⟩:=start.outer c.sides (tl:=tl) oM oM hs hq;have e1:((c.sides.zipIdx 0).foldl (m4 tl) ([],List.replicate c.sides.length 0))=l6 tl c.sides c.sides.length:=rfl;rw[e1] at hd;have hz:aA RZ (l6 tl c.sides c.sides.length).1 (m3 tl c.sides):=hd.z;have hm:aA RM (l6 tl c.sides c.sides.length).1 (i9 tl c.sides):=hd.m;unfold iH fI;rw[ns (p:=fun e=>decide (e.sum≠0)) (q:=fun p:Int×Int=>decide (p.2≠0)) (fun a b h=>by rw[h.2]) hz];rw[ns (p:=fun e=>decide (e.many≠2)) (q:=fun p:Int×List Int=>decide ((p.2.length:Int)≠2)) (fun a b h=>by rw[h.2.1]) hm];split
 ·rfl
 ·split
  ·rfl
  ·rename_i hno;have h2:∀ p∈i9 tl c.sides,p.2.length=2:=fun p hp=>by
    have:=zk9.1 ((zk1 _).mp hno) p hp;simp at this;omega
   have hbm:∀ p∈i9 tl c.sides,∀ x∈p.2,0≤x∧x<((0+c.sides.length:Nat):Int):=hd.bm;rw[Nat.zero_add] at hbm;have hcn:∀ a b:Nat,a<c.sides.length→b<c.sides.length→((l6 tl c.sides c.sides.length).2.getD a 0=(l6 tl c.sides c.sides.length).2.getD b 0↔Rch (jT<|fo<|i9 tl c.sides) a b):=fun a b ha hb=>by
    rw[AO h2];exact hd.cn a b oM oM
   have hln:=hd.len;have hmem:∀ x:Int,x∈m7 (fo<|i9 tl c.sides)↔Rch (jT<|fo<|i9 tl c.sides) 0 x:=fun x=>xl (cnt:=oc<|fo<|i9 tl c.sides) (fun v v' h=>kS h) (nW _) (Nat.lt_succ_of_le<|zc6 _ _) (by simp[jT]) x;have hnd:(m7<|fo<|i9 tl c.sides).Nodup:=kQ _ _ _ _ (by simp);have hin:∀ x∈m7 (fo<|i9 tl c.sides),0≤x∧x<(c.sides.length:Int):=fun x hx=>by
    have hr:=(AO h2 0 x).1<|(hmem x).1 hx;have:∀ a b,Cn (gI<|i9 tl c.sides) a b→(0≤a∧a<(c.sides.length:Int))→(0≤b∧b<(c.sides.length:Int)):=by
     intro a b h;induction h with
     | refl _=>exact fun h=>h
     | step e _ ih =>
      intro _
      rcases e with e | e
      ·exact ih (kM hbm e).2
      ·exact ih (kM hbm e).1
    exact this 0 x hr oM
   generalize (l6 tl c.sides c.sides.length).2=part at *;generalize m7 (fo<|i9 tl c.sides)=seen at *;by_cases hall:∀ a,a<c.sides.length→part.getD a 0=part.getD 0 0
   ·have hf:part.any (fun x=>decide (x≠part.getD 0 0))=false:=by
     rw[zk9];intro x hx;obtain ⟨i,hi,rfl⟩:=zc8 hx;have:=hall i oM;rw[zh4,gE hi] at this;simpa using this
    have hlen:seen.length=c.sides.length:=by
     refine Nat.le_antisymm (rg hnd hin) ?_;have h3:=fk (m:=List.range c.sides.length) (l:=seen.map Int.toNat) List.nodup_range (rf hnd fun x hx=>(hin x hx).1) fun i hi=>by
      have hi:=List.mem_range.1 hi;exact zf5.2 ⟨(i:Int),(hmem i).2<|(hcn 0 i h0 hi).1 (hall i hi).symm,by simp⟩
     simpa using h3
    rw[hf,hlen];simp
   ·have ht:part.any (fun x=>decide (x≠part.getD 0 0))=true:=by
     simp only[Classical.not_forall] at hall;obtain ⟨a,ha,hne⟩:=hall;rw[zk2];refine⟨part.getD a 0,?_,by simpa using hne⟩;rw[zh4,gE oM];exact gM _
    have hlen:(seen.length:Int)≠c.sides.length:=by
     simp only[Classical.not_forall] at hall;obtain ⟨a,ha,hne⟩:=hall;have hna:(a:Int) ∉ seen:=fun h=>hne ((hcn 0 a h0 ha).2<|(hmem a).1 h).symm;have:=rg (l:=(a:Int)::seen) (n:=c.sides.length) (zk6.2 ⟨hna,hnd⟩) fun x hx=>by
      rcases zf4.1 hx with rfl | hx
      ·omega
      ·exact hin x hx
     simp at this;omega
    rw[ht,zg4 rfl,zg4 hlen]
theorem fL {tl:List Cl}:∀ {l:List Cl} {n:Int},f8 tl l n=none→l.Pairwise (fun a b=>a.id<b.id)∧(∀ x∈l,n<x.id)∧∀ x∈l,cY tl x=0
 | [],_,_=>⟨List.Pairwise.nil,by simp,by simp⟩
 | x::r,n,h=>by
  unfold f8 at h;split at h
  ·cases h
  ·rename_i hid;split at h
   ·cases h
   ·rename_i hf;obtain ⟨h1,h2,h3⟩:=fL h;refine⟨zk7.2 ⟨h2,h1⟩,fun y hy=>?_,fun y hy=>?_⟩
    ·rcases zf4.1 hy with rfl | hy
     ·omega
     ·have:=h2 y hy; omega
    ·rcases zf4.1 hy with rfl | hy
     ·exact zh3 hf
     ·exact h3 y hy
theorem fN (l:List Cl):aR l=aN l:=by
 unfold aR aN;split
 ·rfl
 ·cases h:f8 (am l) (aa l) 0 with
  | some p=>rfl
  | none =>
   obtain ⟨h1,_,h3⟩:=fL h;have ht:=dU h1;have key:∀ m:List Cl,(∀ x∈m,x∈aa l)→l9 (aa l) m=oy (am l) m:=by
    intro m;induction m with
    | nil=>intro _; rfl
    | cons x r ih =>
     intro hm;have hx:=hm x (by simp);unfold l9 oy;rw[ih fun y hy=>hm y (by simp[hy])];by_cases hd:x.dim>1
     ·have hok:=wX h3 hx;have hn:0<x.sides.length:=by
       have hf:=h3 x hx;unfold cY at hf;split at hf
       ·cases hf
       ·split at hf
        ·cases hf
        ·rename_i hc;simp[bh] at hc;have:=hc.2 hd;omega
      rw[ht] at hok ⊢;rw[qw hok hn]
     ·simp[hd]
   rw[key _ fun x hx=>hx]
set_option maxRecDepth 10000
theorem AD {l:List Cl}(h:(aN l).2=0):f8 (am l) (aa l) 0=none:=by
 unfold aN at h;split at h
 ·simp at h
 ·cases h1:f8 (am l) (aa l) 0 with
  | none=>rfl
  | some p=>rw[h1] at h; exact absurd h<|tb h1
section
variable {A:List (List Int)}(hA:vA A)
include hA
end
theorem BU {tl:List Cl}{c:Cl}(h1:0≤c.dim∧c.dim≤8)(h2:bh c=false)(h3:∀ x∈c.sides,∃ d,aB tl x.cell=some d∧d.dim=c.dim - 1)(h4:c.sides.Pairwise fun a b=>a.cell<b.cell)(h5:∀ x∈c.sides,x.sign=1∨x.sign = -1)(h6:c.dim=1→oa c.sides=0):cY tl c=0:=by
 have e1:fl c=false:=by unfold fl; simp; omega
 have e3:(List.range c.sides.length).any (fY tl c)=false:=by
  rw[zk9];intro i hi;have hi:=List.mem_range.1 hi;obtain ⟨d,hd1,hd2⟩:=h3 _<|gM hi;unfold fY;rw[gE hi];show ¬ co _ _ i c.sides[i]=true;unfold co;rw[hd1];simp only[Option.isSome_some,Bool.not_true,Bool.false_or,Option.getD_some,hd2,ne_eq,not_true_eq_false,decide_false];by_cases hi0:i>0
  ·have hlt:=zd1.1 h4 (i - 1) i oM hi oM;rw[gE oM];simp;omega
  ·simp[hi0]
 have e4:c.sides.any cm=false:=by
  rw[zk9];intro x hx
  rcases h5 x hx with h | h <;> simp[cm,h]
 have e5:(decide (c.dim=1)&&decide (oa c.sides≠0))=false:=by
  by_cases hd:c.dim=1
  ·rw[h6 hd]; simp
  ·simp[hd]
 unfold cY;rw[e1,h2,e3,e4,e5];rfl
section
variable {A B:List (List Int)}(hA:vA A)(hB:vA B)
include hA hB
omit hA in
omit hA in
end
section
variable {A B:List (List Int)}(hA:vA A)(hB:vA B)
include hA hB
end
structure Few (a:List Cl)(A:List (List Int)):Prop where
 good:vA A
 cells:a=A.map (celC A)
 small:∀ s∈A,s.length≤3
 few:A.length≤14
structure Fm (tl:List Cl)(c:Cl):Prop where
 dim:0≤c.dim∧c.dim≤8
 cnt:bh c=false
 found:∀ x∈c.sides,∃ d,aB tl x.cell=some d∧d.dim=c.dim - 1
 asc:c.sides.Pairwise fun a b=>a.cell<b.cell
 sg:∀ x∈c.sides,x.sign=1∨x.sign = -1
 one:c.dim=1→oa c.sides=0
theorem Fm.ok {tl:List Cl}{c:Cl}(h:Fm tl c):cY tl c=0:=BU h.dim h.cnt h.found h.asc h.sg h.one
theorem CM {l:List Side}(hs:l.Pairwise fun a b=>a.cell≤b.cell)(hd:∀ i x y,l[i]?=some x→l[i+1]?=some y→x.cell≠y.cell):l.Pairwise fun a b=>a.cell<b.cell:=by
 induction l with
 | nil=>exact List.Pairwise.nil
 | cons a r ih =>
  obtain ⟨h1,h2⟩:=zk7.1 hs;have hr:=ih h2 fun i x y hx hy=>hd (i+1) x y (by simpa using hx) (by simpa using hy);refine zk7.2 ⟨fun b hb=>?_,hr⟩;cases r with
  | nil=>simp at hb
  | cons z q =>
   have hz:a.cell<z.cell:=by
    have:=h1 z (by simp);have:=hd 0 a z rfl rfl;omega
   rcases zf4.1 hb with rfl | hb
   ·exact hz
   ·have:=(zk7.1 hr).1 b hb;omega
theorem Ch {tl:List Cl}{c:Cl}(h:cY tl c=0)(hs:c.sides.Pairwise fun a b=>a.cell≤b.cell):Fm tl c:=by
 unfold cY at h;split at h
 ·cases h
 ·rename_i h1;split at h
  ·cases h
  ·rename_i h2;split at h
   ·cases h
   ·rename_i h3;split at h
    ·cases h
    ·rename_i h4;split at h
     ·cases h
     ·rename_i h5;have hbad:∀ i x,c.sides[i]?=some x→co tl c i x=false:=fun i x hx=>by
       have hi:=(zf8.1 hx).1;have:=zk9.1 ((zk1 _).mp h3) i<|List.mem_range.2 hi;unfold fY at this;rw[hx] at this;simpa using this
      refine⟨?_,by simpa using h2,fun x hx=>?_,CM hs fun i x y hx hy e=>?_,fun x hx=>?_,fun hd=>?_⟩
      ·simp[fl] at h1; omega
      ·obtain ⟨i,hi,rfl⟩:=zc8 hx;have:=hbad i _<|gE hi;unfold co at this;simp only[Bool.or_eq_false_iff,Bool.not_eq_false',decide_eq_false_iff_not,ne_eq,Decidable.not_not] at this;obtain ⟨⟨g1,g2⟩,_⟩:=this;obtain ⟨d,hd⟩:=zi2.1 g1;rw[hd] at g2;exact⟨d,hd,g2⟩
      ·have:=hbad (i+1) y hy;unfold co at this;rw[show i+1 - 1=i by omega,hx] at this;simp[e] at this
      ·have:=zk9.1 ((zk1 _).mp h4) x hx;simp[cm] at this;by_cases h6:x.sign=1
       ·exact .inl h6
       ·exact .inr<|this h6
      ·simpa [hd] using h5
structure Rt (l:List Cl):Prop where
 few:l.length≤4000
 asc:l.Pairwise fun a b=>a.id<b.id
 pos:∀ x∈l,0<x.id
 form:∀ x∈l,Fm l x
 around:∀ x∈l,x.dim>1→fI l x=0
theorem Rt.canon {l:List Cl}(h:Rt l):aa l=l:=by
 unfold aa;rw[(cR (key:=Cl.id) (h.asc.imp fun h=>by omega)<|aG.refl l).symm];have:∀ c∈l,fc c=c:=fun c hc=>by
  unfold fc;rw[(cR (key:=Side.cell) ((h.form c hc).asc.imp fun h=>by omega)<|aG.refl c.sides).symm]
 rw[zc9 this];simp
theorem Rt.tab {l:List Cl}(h:Rt l):am l=l:=by rw[dU (by rw[h.canon]; exact h.asc),h.canon]
theorem Rt.find {l:List Cl}(h:Rt l){c:Cl}(hc:c∈l):aB l c.id=some c:=by
 refine uZ ?_ hc;rw[List.Nodup,zk8];exact h.asc.imp fun h=>by omega
theorem j3 {tl:List Cl}:∀ {l:List Cl},oy tl l=none→∀ x∈l,x.dim>1→fI tl x=0
 | [],_,x,hx,_=>by simp at hx
 | y::r,h,x,hx,hd=>by
  unfold oy at h;split at h
  ·cases h
  ·rename_i hn
   rcases zf4.1 hx with rfl | hx
   ·exact zh3 fun h=>hn ⟨hd,h⟩
   ·exact j3 h x hx hd
theorem rI {tl:List Cl}:∀ {l:List Cl} {p:Int×Int},oy tl l=some p→p.2≠0
 | [],_,h=>by cases h
 | y::r,p,h=>by
  unfold oy at h;split at h
  ·rename_i hn; cases h; exact hn.2
  ·exact rI h
theorem nX (l:List Cl):∀ c∈aa l,c.sides.Pairwise fun a b=>a.cell≤b.cell:=fun c hc=>by
 obtain ⟨d,_,rfl⟩:=zf5.1 hc;exact cD d.sides
theorem wQ {l:List Cl}(h:(aN l).2=0):Rt (aa l):=by
 have h1:=AD h;obtain ⟨h2,h3,h4⟩:=fL h1;have ht:=dU h2;have h5:l.length≤4000:=zg h;refine⟨by rw[cg]; exact h5,h2,h3,fun x hx=>Ch (by rw[← ht]; exact h4 x hx)<|nX l x hx,?_⟩;have h6:oy (am l) (aa l)=none:=by
  unfold aN at h;rw[zg3 oM,h1] at h;cases hc:oy (am l) (aa l) with
  | none=>rfl
  | some p =>
   rw[hc] at h;exact absurd h<|rI hc
 rw[ht] at h6;exact j3 h6
theorem ye {l m:List Int}(h:l.Perm m):l.sum=m.sum:=by
 induction h with
 | nil=>rfl
 | cons x _ ih=>simp[ih]
 | swap x y l=>simp; omega
 | trans _ _ ih1 ih2=>exact ih1.trans ih2
theorem tF {α:Type}{key:α→Int}(l:List α):(sortBy key l).Perm l:=by
 have hi:∀ (x:α) (l:List α),(ins key x l).Perm (x::l):=by
  intro x l;induction l with
  | nil=>exact .refl _
  | cons y r ih =>
   unfold ins;split
   ·exact .refl _
   ·exact (ih.cons y).trans<|.swap x y r
 induction l with
 | nil=>exact .refl _
 | cons x r ih=>exact (hi x _).trans<|ih.cons x
def inner (tl:List Cl)(x:Side)(r:Int):Int:=((bT tl x).map fun q=>if q.cell=r then x.sign * q.sign else 0).sum
structure Nm (l:List Cl)(k:Int):Prop where
 inj:∀ a∈l,∀ b∈l,lI a.id k=lI b.id k→a=b
 pos:∀ a∈l,0<lI a.id k
section
variable {l:List Cl}(h:Rt l){k:Int}(hn:Nm l k)(t:Int)
include h hn
omit hn in
omit h hn in
omit h hn in
omit h hn in
omit hn in
omit h hn in
end
def part (l:List Cl)(p:Int→Bool):List Cl:=l.filter fun c=>p c.id
theorem Rt.same {l:List Cl}(h:Rt l){a b:Cl}(ha:a∈l)(hb:b∈l)(e:a.id=b.id):a=b:=by
 have f1:=h.find ha;have f2:=h.find hb;rw[e,f2] at f1;injection f1 with f1
 exact f1.symm
theorem aA.set {α β:Type}{R:α→β→Prop}{a:α}{b:β}(h:R a b):∀ {l:List α} {m:List β} (k:Nat),aA R l m→aA R (l.set k a) (m.set k b)
 | [],[],_,_=>trivial
 | _::_,_::_,0,h'=>⟨h,h'.2⟩
 | _::_,_::_,k+1,h'=>⟨h'.1,aA.set h k h'.2⟩
 | [],_::_,_,h'=>h'.elim
 | _::_,[],_,h'=>h'.elim
def ShC (a b:Cl):Prop:=a.id=b.id∧a.dim=b.dim∧a.sides.Perm b.sides
def ShL (l m:List Cl):Prop:=∃ l1:List Cl,l1.Perm l∧aA ShC l1 m
theorem ShL.fits {l m:List Cl}(h:ShL l m)(hf:bo l):bo m:=by
 obtain ⟨l1,h1,h2⟩:=h;refine⟨by rw[← h2.length,h1.length_eq]; exact hf.1,fun c hc=>?_⟩;have:∀ {l m:List Cl},aA ShC l m→∀ c∈m,∃ d∈l,ShC d c:=by
  intro l;induction l with
  | nil=>intro m h c hc; cases m with | nil=>cases hc | cons _ _=>exact h.elim
  | cons x t ih =>
   intro m h c hc;cases m with
   | nil=>cases hc
   | cons y m =>
    rcases zf4.1 hc with rfl | hc
    ·exact⟨x,by simp,h.1⟩
    ·obtain ⟨d,hd,he⟩:=ih h.2 c hc;exact⟨d,by simp[hd],he⟩
 obtain ⟨d,hd,he⟩:=this h2 c hc;rw[← he.2.2.length_eq];exact hf.2 d<|h1.mem_iff.1 hd
end Go.Proofs.YtackilpikhkijaaGreatDoor
namespace Go.Sy
open Go
structure Md where
 ro:Option Nat
 ds:List Deferred
def wf (ro:Option Nat):Fence:={ fn:=fun _=>True,depth:=none,alive:=false,round:=ro }
def my (a:Act):Act:={ a with defers:=[] }
theorem np (a:Act):(my a).eval=a.eval:=by funext x; cases x <;> rfl
theorem AG (a:Act)(d:Option Tmp)(v:Value):my (a.put d v)=(my a).put d v:=by cases d <;> rfl
theorem oV (a:Act)(d:Option Tmp)(v:Value):(a.put d v).defers=a.defers:=by cases d <;> rfl
def Okd (ds:List Deferred)(N:Nat)(f:Fr)(a:Act):Prop:=a.defers=ds∧Ok N f (my a)
section
variable {P:Program}{M:Md}{N:Nat}{E:World}{Q:Exit→Act→World→Prop}{f f':Fr}{g g':PH}{s s':Own}{ops:Array Oper}
theorem Okd.put {ds:List Deferred}{a:Act}(h:Okd ds N f a){d:Nat}(hlt:d<N)(v:Value):Okd ds N ((d,v)::f) (a.put (some d) v):=⟨h.1,by rw[AG]; exact h.2.put hlt v⟩
theorem Okd.sub {ds:List Deferred}{a:Act}(h:Okd ds N f a)(hs:Sub f' f):Okd ds N f' a:=⟨h.1,h.2.sub hs⟩
theorem Okd.ev {ds:List Deferred}{a:Act}(h:Okd ds N f a){x:Operand}{v:Value}(hx:Sy.ev f x=some v):a.eval x=v:=by rw[← np]; exact h.2.ev hx
def XC (P:Program)(M:Md)(N:Nat)(E:World)(c:Code)(Q:Exit→Act→World→Prop)(f:Fr)(g:PH)(s:Own):Prop:=∀ a w,Okd M.ds N f a→At E g s w→c.wpIn (wf M.ro) 0 P Q a w
def XT (M:Md)(N:Nat)(E:World)(Q:Exit→Act→World→Prop)(e:Exit)(f:Fr)(g:PH)(s:Own):Prop:=∀ a w,Okd M.ds N f a→At E g s w→Q e a w
def XL (P:Program)(M:Md)(N:Nat)(E:World)(ops:Array Oper)(Q:Exit→Act→World→Prop)(l:List Oper)(f:Fr)(g:PH)(s:Own):Prop:=∀ a w,Okd M.ds N f a→At E g s w→wpListIn (wf M.ro) 0 P ops Q l a w
def XO (P:Program)(M:Md)(N:Nat)(E:World)(o:Oper)(f:Fr)(g:PH)(s:Own)(K:Value→PH→Own→Prop):Prop :=
 ∀ a w,Okd M.ds N f a→At E g s w→∀ (Q:Exit→Act→World→Prop) (next:Act→World→Prop),
  (∀ v g' s' w',K v g' s'→At E g' s' w'→next (a.put o.dst v) w')→o.wpIn (wf M.ro) 0 P a w next Q
theorem XC.to {c:Code}(h:∀ w,At E g s w→At E g' s' w)(hc:XC P M N E c Q f g' s'):XC P M N E c Q f g s:=fun a w ha hw=>hc a w ha (h w hw)
theorem XT.drop {e:Exit}(hs:s'.Sublist s)(h:XT M N E Q e f g s'):XT M N E Q e f g s:=fun a w ha hw=>h a w ha (hw.sublist hs)
theorem XL.to {l:List Oper}(h:∀ w,At E g s w→At E g' s' w)(hc:XL P M N E ops Q l f g' s'):XL P M N E ops Q l f g s:=fun a w ha hw=>hc a w ha (h w hw)
theorem XC.facts {c:Code}(h:(∃ w,At E g s w)→XC P M N E c Q f g s):XC P M N E c Q f g s:=fun a w ha hw=>h ⟨w,hw⟩ a w ha hw
theorem XL.facts {l:List Oper}(h:(∃ w,At E g s w)→XL P M N E ops Q l f g s):XL P M N E ops Q l f g s:=fun a w ha hw=>h ⟨w,hw⟩ a w ha hw
theorem XT.facts {e:Exit}(h:(∃ w,At E g s w)→XT M N E Q e f g s):XT M N E Q e f g s:=fun a w ha hw=>h ⟨w,hw⟩ a w ha hw
theorem XC.skip (h:XT M N E Q .normal f g s):XC P M N E .skip Q f g s:=fun a w ha hw=>wpIn_skip (h a w ha hw)
theorem XC.ret (h:XT M N E Q .ret f g s):XC P M N E .ret Q f g s:=fun a w ha hw=>wpIn_ret (h a w ha hw)
theorem XC.exit {id:Nat}(h:XT M N E Q (.exit id) f g s):XC P M N E (.exit id) Q f g s:=fun a w ha hw=>wpIn_exit (h a w ha hw)
theorem XC.seq {x y:Code}(h:XC P M N E x (Exit.then (y.wpIn (wf M.ro) 0 P Q) Q) f g s):XC P M N E (.seq x y) Q f g s:=fun a w ha hw=>wpIn_seq (h a w ha hw)
theorem XC.block {id:Nat}{c:Code}(h:XC P M N E c (Exit.inBlock id Q) f g s):XC P M N E (.block id c) Q f g s:=fun a w ha hw=>wpIn_block (h a w ha hw)
theorem XC.cond {c:Operand}{x y:Code}{t:Bool}(hc:ev f c=some (.bool t))(h:XC P M N E (if t then x else y) Q f g s):XC P M N E (.cond c x y) Q f g s :=
 fun a w ha hw=>wpIn_cond (ha.ev hc)<|h a w ha hw
theorem XC.condT {c:Operand}{x y:Code}(hc:ev f c=some (.bool true))(h:XC P M N E x Q f g s):XC P M N E (.cond c x y) Q f g s:=XC.cond hc h
theorem XC.condF {c:Operand}{x y:Code}(hc:ev f c=some (.bool false))(h:XC P M N E y Q f g s):XC P M N E (.cond c x y) Q f g s:=XC.cond hc h
theorem XC.ifB {c:Operand}{x y:Code}{t:Bool}(hc:ev f c=some (.bool t))(h1:t=true→XC P M N E x Q f g s)(h2:t=false→XC P M N E y Q f g s) :
  XC P M N E (.cond c x y) Q f g s:=by
 cases t
 ·exact XC.condF hc<|h2 I
 ·exact XC.condT hc<|h1 I
theorem XC.ifP {c:Operand}{x y:Code}{p:Prop}[Decidable p](hc:ev f c=some (.bool<|decide p))(h1:p→XC P M N E x Q f g s)(h2:¬ p→XC P M N E y Q f g s) :
  XC P M N E (.cond c x y) Q f g s :=
 XC.ifB hc (fun h=>h1<|zg6 h) (fun h=>h2<|of_decide_eq_false h)
theorem XT.thenN {c:Code}(h:XC P M N E c Q f g s):XT M N E (Exit.then (c.wpIn (wf M.ro) 0 P Q) Q) .normal f g s:=h
theorem XT.thenX {K:Act→World→Prop}{id:Nat}(h:XT M N E Q (.exit id) f g s):XT M N E (Exit.then K Q) (.exit id) f g s:=h
theorem XT.blockN {id:Nat}(h:XT M N E Q .normal f g s):XT M N E (Exit.inBlock id Q) .normal f g s:=h
theorem XT.blockX {id:Nat}(h:XT M N E Q .normal f g s):XT M N E (Exit.inBlock id Q) (.exit id) f g s:=fun a w ha hw=>by simpa [Exit.inBlock] using h a w ha hw
def A7 {ι:Type}(ds:List Deferred)(N:Nat)(E:World)(F:ι→Fr)(G:ι→PH)(S:ι→Own)(J:ι→Prop)(μ:ι→Nat)(i:ι)(a:Act)(w:World):Prop :=
 ∃ j,Okd ds N (F j) a∧At E (G j) (S j) w∧J j∧μ j<μ i
theorem XT.again {ι:Type}{F:ι→Fr}{G:ι→PH}{S:ι→Own}{J:ι→Prop}{μ:ι→Nat}{i:ι}(j:ι)(hf:Sub (F j) f)(hg:G j=g)(hs:S j=s)(hJ:J j)(hμ:μ j<μ i) :
  XT M N E (Exit.then (A7 M.ds N E F G S J μ i) Q) .normal f g s:=fun _ _ ha hw=>⟨j,ha.sub hf,by rw[hg,hs]; exact hw,hJ,hμ⟩
theorem XC.loop {ι:Type}{c:Code}(F:ι→Fr)(G:ι→PH)(S:ι→Own)(J:ι→Prop)(μ:ι→Nat)(i:ι)(hf:Sub (F i) f)(hg:G i=g)(hs:S i=s)(h0:J i)
  (round:∀ i,J i→XC P M N E c (Exit.then (A7 M.ds N E F G S J μ i) Q) (F i) (G i) (S i)):XC P M N E (.loop c) Q f g s:=by
 intro a w ha hw;have key:∀ n,∀ (i:ι) (a:Act) (w:World),μ i=n→Okd M.ds N (F i) a→At E (G i) (S i) w→J i→∀ (b:Frame) (k:List Item) (cs:List Frame),b.roundOf=(wf M.ro).round→(wf M.ro).fn b.fn→(wf M.ro).room (cs.length+1+0) →
   ∃ e a' w',Q e a' w'∧ArrivesIn (Machine.fenced P<|wf M.ro) P (lone (b.atR a<|.code c :: .inLoop c::k) cs w) b k cs e a' w':=by
  intro n;induction n using Nat.strongRecOn with
  | _ n ih =>
   intro i a w hn ha hI hJ b k cs hro hb hr;obtain ⟨e,a₁,w₁,hq,harr⟩:=round i hJ a w ha hI b (.inLoop c::k) cs hro hb hr;cases e with
   | normal =>
    obtain ⟨j,hok,hI₁,hJ₁,hlt⟩:=hq;obtain ⟨e₂,a₂,w₂,hq₂,harr₂⟩:=ih (μ j) (hn ▸ hlt) j a₁ w₁ rfl hok hI₁ hJ₁ b k cs hro hb hr;exact⟨e₂,a₂,w₂,hq₂,.of_steps (StepsIn.trans harr<|.one (fenced_calm hb hr I) stepR_inLoop) harr₂⟩
   | exit id=>exact⟨_,a₁,w₁,hq,.pass (x:=.inLoop c) rfl (fun _ _=>.inl<|by simp) harr⟩
   | goto l=>exact⟨_,a₁,w₁,hq,.pass (x:=.inLoop c) rfl (fun _ _=>.inl<|by simp) harr⟩
   | ret=>exact⟨_,a₁,w₁,hq,.pass (x:=.inLoop c) rfl (fun _ _=>.inl<|by simp) harr⟩
   | panic ch=>exact⟨_,a₁,w₁,hq,.pass (x:=.inLoop c) rfl (fun _ _=>.inl<|by simp) harr⟩
   | outgrown=>exact⟨_,a₁,w₁,hq,.pass (x:=.inLoop c) rfl (fun _ _=>.inl<|by simp) harr⟩
 intro b k cs hro hb hr;obtain ⟨e,a',w',hq,harr⟩:=key _ i a w rfl (ha.sub hf) (by rw[hg,hs]; exact hw) h0 b k cs hro hb hr;exact⟨e,a',w',hq,.of_steps (.one (fenced_calm hb hr I) stepR_loop) harr⟩
theorem XC.region {id:Nat}(h:XL P M N E ops Q ops.toList f g s):XC P M N E (.region id ops false) Q f g s:=fun a w ha hw=>wpIn_region_list (h a w ha hw)
theorem XL.nil (h:XT M N E Q .normal f g s):XL P M N E ops Q [] f g s:=fun a w ha hw=>h a w ha hw
theorem SO.xo {o:Oper}{K:Value→PH→Own→Prop}(hno:∀ c,o.op ≠ .defer c)(h:SO P N E o f g s K):XO P M N E o f g s K:=by
 intro a w ha hw Q next hn;refine⟨fun _ _=>trivial,?_⟩;rw[Oper.semAt_eq _ _ _ hno];have h1:=h (my a) w ha.2 hw (fun _ _ _=>False) (fun a' w'=>a'.defers=[]∧∃ v g' s',a'=(my a).put o.dst v∧K v g' s'∧At E g' s' w') (fun v g' s' w' hK hw'=>⟨oV _ _ _,v,g',s',rfl,hK,hw'⟩);unfold Oper.wp at h1;rw[np] at h1;have key:∀ v w',(((my a).put o.dst v).defers=[]∧∃ v' g' s',(my a).put o.dst v=(my a).put o.dst v'∧K v' g' s'∧At E g' s' w')→next (a.put o.dst v) w':=by
  rintro v w' ⟨_,v',g',s',he,hK,hw'⟩;have:a.put o.dst v=a.put o.dst v':=by
   cases hd:o.dst with
   | none=>rfl
   | some d =>
    rw[hd] at he;have h2:=ze5 Act.tmps he;cases a;simp only[Act.put,my] at h2 ⊢;rw[h2]
  rw[this];exact hn v' g' s' w' hK hw'
 generalize (execOp a.eval o).run P w=r at h1;cases r with
 | ok n w' =>
  cases n <;> simp only[Oper.upon] at h1 <;> first | exact h1.elim | skip
  ·exact key _ _ h1
  ·exact key _ _ h1
  ·rename_i f' args;exact⟨fun h=>(by cases h),(CallsIn.more (n:=0) ((callsIn_wide (n:=0)).2<|Calls.mono h1 (fun e w'' he=>by cases e with | returned v=>exact key _ _ he | panicked c=>exact he.elim | outgrown=>obtain ⟨_,_,h2⟩:=he; exact h2.elim))<|zf9 _)⟩
  ·exact absurd h1.1 (by rw[oV]; simp)
  ·exact⟨fun h=>(by cases h),fun c cs _=>let ⟨v,w'',r,st⟩:=h1 c cs; ⟨v,w'',key _ _ r,stepsIn_wide.2 st⟩⟩
 | halt x w'=>cases x <;> simp only[Oper.upon] at h1 <;> exact h1.elim
theorem XL.step {o:Oper}{l:List Oper}{K:Value→PH→Own→Prop}(hg:Gd N ops f o true)(ho:XO P M N E o f g s K)
  (h:∀ v g' s' a,K v g' s'→Okd M.ds N f a→∃ f',Okd M.ds N f' (a.put o.dst v)∧XL P M N E ops Q l f' g' s'):XL P M N E ops Q (o::l) f g s:=by
 intro a w ha hw;unfold wpListIn;have hwt:Region.wanted o (yielded ops a.tmps)=true:=hg (my a) ha.2;rw[zg4 hwt];refine ho a w ha hw Q _ fun v g' s' w' hK hw'=>?_;obtain ⟨f',hf',hn⟩:=h v g' s' a hK ha;exact hn _ _ hf' hw'
theorem XL.x {d:Nat}{op:Op}{ty:TypeId}{pos:String}{af:Array Edge}{l:List Oper}{K:Value→PH→Own→Prop}(ho:XO P M N E ⟨some d,op,ty,pos,af,none⟩ f g s K)(hd:d<N)
  (h:∀ v g' s',K v g' s'→XL P M N E ops Q l ((d,v)::f) g' s'):XL P M N E ops Q (⟨some d,op,ty,pos,af,none⟩::l) f g s :=
 XL.step (Gd.none rfl) ho fun v g' s' _ hK ha=>⟨_,ha.put hd v,h v g' s' hK⟩
theorem XL.go {d:Nat}{op:Op}{ty:TypeId}{pos:String}{af:Array Edge}{gd:Option (Nat×Bool)}{l:List Oper}{K:Value→PH→Own→Prop}(hg:Gd N ops f ⟨some d,op,ty,pos,af,gd⟩ true)(ho:SO P N E ⟨some d,op,ty,pos,af,gd⟩ f g s K)(hd:d<N)
  (h:∀ v g' s',K v g' s'→XL P M N E ops Q l ((d,v)::f) g' s') (hno:∀ c,op ≠ .defer c:=by intro _ h; cases h):XL P M N E ops Q (⟨some d,op,ty,pos,af,gd⟩::l) f g s :=
 XL.step hg (ho.xo hno) fun v g' s' _ hK ha=>⟨_,ha.put hd v,h v g' s' hK⟩
theorem XL.o {d:Nat}{op:Op}{ty:TypeId}{pos:String}{af:Array Edge}{l:List Oper}{K:Value→PH→Own→Prop}(ho:SO P N E ⟨some d,op,ty,pos,af,none⟩ f g s K)(hd:d<N)
  (h:∀ v g' s',K v g' s'→XL P M N E ops Q l ((d,v)::f) g' s') (hno:∀ c,op ≠ .defer c:=by intro _ h; cases h):XL P M N E ops Q (⟨some d,op,ty,pos,af,none⟩::l) f g s :=
 XL.go (Gd.none rfl) ho hd h hno
theorem XL.on {op:Op}{ty:TypeId}{pos:String}{af:Array Edge}{l:List Oper}{K:Value→PH→Own→Prop}(ho:SO P N E ⟨none,op,ty,pos,af,none⟩ f g s K)
  (h:∀ v g' s',K v g' s'→XL P M N E ops Q l f g' s') (hno:∀ c,op ≠ .defer c:=by intro _ h; cases h):XL P M N E ops Q (⟨none,op,ty,pos,af,none⟩::l) f g s :=
 XL.step (Gd.none rfl) (ho.xo hno) fun v g' s' _ hK ha=>⟨f,ha,h v g' s' hK⟩
theorem XL.gq {d:Nat}{op:Op}{ty:TypeId}{pos:String}{af:Array Edge}{gd:Option (Nat×Bool)}{l:List Oper}{v:Value}(hg:Gd N ops f ⟨some d,op,ty,pos,af,gd⟩ true)(hq:SQ P N E ⟨some d,op,ty,pos,af,gd⟩ f g s v)(hd:d<N)
  (h:XL P M N E ops Q l ((d,v)::f) g s) (hno:∀ c,op ≠ .defer c:=by intro _ h; cases h):XL P M N E ops Q (⟨some d,op,ty,pos,af,gd⟩::l) f g s :=
 XL.go hg hq.so hd (fun v' g' s' ⟨e1,e2,e3⟩=>by subst e1; subst e2; subst e3; exact h) hno
theorem XL.q {d:Nat}{op:Op}{ty:TypeId}{pos:String}{af:Array Edge}{l:List Oper}{v:Value}(hq:SQ P N E ⟨some d,op,ty,pos,af,none⟩ f g s v)(hd:d<N)
  (h:XL P M N E ops Q l ((d,v)::f) g s) (hno:∀ c,op ≠ .defer c:=by intro _ h; cases h):XL P M N E ops Q (⟨some d,op,ty,pos,af,none⟩::l) f g s:=XL.gq (Gd.none rfl) hq hd h hno
theorem XL.gu {d:Nat}{op:Op}{ty:TypeId}{pos:String}{af:Array Edge}{gd:Option (Nat×Bool)}{l:List Oper}{v:Value}(hg:Gd N ops f ⟨some d,op,ty,pos,af,gd⟩ true)(hq:SU P N ⟨some d,op,ty,pos,af,gd⟩ f v)(hd:d<N)
  (h:XL P M N E ops Q l ((d,v)::f) g s) (hno:∀ c,op ≠ .defer c:=by intro _ h; cases h):XL P M N E ops Q (⟨some d,op,ty,pos,af,gd⟩::l) f g s:=XL.gq hg hq.sq hd h hno
theorem XL.u {d:Nat}{op:Op}{ty:TypeId}{pos:String}{af:Array Edge}{l:List Oper}{v:Value}(hq:SU P N ⟨some d,op,ty,pos,af,none⟩ f v)(hd:d<N)
  (h:XL P M N E ops Q l ((d,v)::f) g s) (hno:∀ c,op ≠ .defer c:=by intro _ h; cases h):XL P M N E ops Q (⟨some d,op,ty,pos,af,none⟩::l) f g s:=XL.q hq.sq hd h hno
theorem XL.off {d:Nat}{op:Op}{ty:TypeId}{pos:String}{af:Array Edge}{gd:Option (Nat×Bool)}{l:List Oper}(hg:Gd N ops f ⟨some d,op,ty,pos,af,gd⟩ false)(hd:d<N)
  (h:XL P M N E ops Q l ((d,undef)::f) g s):XL P M N E ops Q (⟨some d,op,ty,pos,af,gd⟩::l) f g s:=by
 intro a w ha hw;unfold wpListIn;have hwt:Region.wanted (⟨some d,op,ty,pos,af,gd⟩:Oper) (yielded ops a.tmps)=false:=hg (my a) ha.2;rw[zg3 (by rw[hwt]; simp)];exact⟨fun _ _=>trivial,h _ _ (ha.put hd undef) hw⟩
theorem At.obj {w:World}{b i:Nat}{o o':Obj}(h:At E g s w)(hi:s[i]?=some (pt b o)):At E g (s.set i<|pt b o') (w.putObj b o'):=by
 have h2:=h.fresh _ (zg5 hi) b rfl;refine h.turn hi I ⟨I,lR _⟩ I (by simp[World.putObj]) (fun k _ hk=>World.putObj_heap_other<|fun e=>hk<|by simp[pt,e]) ?_ (fun b' hb'=>?_)
 ·simp only[pt,Option.bind_some];exact World.putObj_heap_same h2.2
 ·simp only[pt,zh1] at hb';subst hb';exact⟨by simpa [World.putObj] using h2.2,.inl I⟩
theorem At.here {w:World}{b i:Nat}{o:Obj}(h:At E g s w)(hi:s[i]?=some (pt b o)):w.heap[b]?=some o:=by
 have:=h.own _<|zg5 hi;simpa [pt] using this
end
def A6 (P:Program)(E:World)(l:Nat)(args:Array Value)(g:PH)(s:Own)(R:Value→PH→Own→Prop):Prop :=
 ∀ w,At E g s w→YieldAt Fence.wide 0 P l args w fun e w'=>∃ v g' s',e = .returned v∧At E g' s' w'∧R v g' s'
def Ck (P:Program)(E:World)(gf:FuncId)(lb:List Value){α:Type}(encs:α→List Value)(xs:List α)(g0:PH):Prop :=
 ∀ (l:Nat) (ι:Type) (G:ι→PH) (S:ι→Own) (J:List α→ι→Prop) (i0:ι),J [] i0→(∀ pre i,J pre i→Le g0 (G i)) →
  (∀ pre x suf i sx,xs=pre++x::suf→J pre i→A6 P E l (encs x).toArray (G i) (S i++sx) (fun v g' s'=>v = .bool true∧∃ j,J (pre++[x]) j∧g'=G j∧s'=S j++sx)) →
  ∀ sx,Ctr P E gf (.func (.yield l) #[] #[]::lb).toArray (G i0) (S i0++sx) (fun _ g' s'=>∃ j,J xs j∧g'=G j∧s'=S j++sx)
section
variable {P:Program}{M:Md}{N:Nat}{E:World}{Q:Exit→Act→World→Prop}{f:Fr}{g:PH}{s:Own}{dst:Option Tmp}{ty:TypeId}{pos:String}{af:Array Edge}{gd:Option (Nat×Bool)}
theorem XO.yield {x:Operand}{l:List Operand}{tys:Array TypeId}{vs:List Value}{k:Nat}{R:Value→PH→Own→Prop}(hx:ev f x=some (.func (.yield k) #[] #[]))(hl:evs f l=some vs)(hY:A6 P E k vs.toArray g s R) :
  XO P M N E ⟨dst,.call ⟨.value x,l.toArray,tys⟩,ty,pos,af,gd⟩ f g s R:=by
 intro a w ha hw Q next hn;refine⟨fun _ _=>trivial,?_⟩;rw[Oper.semAt_eq _ _ _ (fun _ h=>by cases h)];obtain ⟨fn,tmps,assign,body,hy,hR⟩:=hY w hw;have h1:a.eval x = .func (.yield k) #[] #[]:=ha.ev hx;have h2:l.map a.eval=vs:=by have:=ha.2.evs hl; rwa [np] at this
 have h3:(execOp a.eval ⟨dst,.call ⟨.value x,l.toArray,tys⟩,ty,pos,af,gd⟩).run P w = .ok (.round k fn tmps assign body) w:=by
  simp only[execOp,resolve,h1,List.map_toArray,h2];simp[Deferred.ofValue,Sem.run_bind,invoke,hy]
 rw[h3];refine⟨fun h=>(by cases h),RoundIn.mono hR fun e w' he=>?_⟩;obtain ⟨v,g',s',rfl,hat,hRR⟩:=he;exact hn v g' s' w' hRR hat
theorem Ctr.ofX {n:FuncId}{fn:Func}{c:Code}{args:List Value}{R:Value→PH→Own→Prop}
  (hf:P.funcs[n]?=some fn) (hb:fn.body=some c) (hN:fn.ntmps=N) (hle:args.length≤N)
  (h:XC P ⟨none,[]⟩ N E c (bodyPostM (wf none) 0 P fn<|mX E R) (lg 0 args) g s):Ctr P E n args.toArray g s R:=by
 intro w hw;refine (callsIn_wide (n:=0)).1<|callsIn_of_wp_marks (F:=wf none) hf hb trivial (h _ w ⟨I,⟨I,?_,fun t v hv=>?_⟩⟩ hw) I
 ·simp[my,hN]; omega
 ·obtain ⟨_,h2⟩:=jB args 0 t v hv;have hlt:t<args.length:=(zf8.1<|by simpa using h2).1;simp only[Nat.sub_zero] at h2;obtain ⟨_,h3⟩:=zf8.1 h2;simp[my,Array.getElem?_append,hlt,h3]
theorem XT.leave0 {fn:Func}{R:Value→PH→Own→Prop}{e:Exit}(he:e = .ret∨e = .normal)(h:ST N E (bodyPost P fn<|mX E R) e f g s):XT ⟨none,[]⟩ N E (bodyPostM (wf none) 0 P fn<|mX E R) e f g s:=by
 intro a w ha hw;have h1:=h (my a) w ha.2 hw
 rcases he with rfl | rfl
 all_goals
  obtain ⟨_,v,h2,h3⟩:=h1;show LeavesInM _ _ _ _ _ _ a.defers _ _;rw[ha.1];exact⟨v,h2,h3⟩
theorem XT.leave1 {fn:Func}{R:Value→PH→Own→Prop}{e:Exit}{D:Nat}(he:e = .ret∨e = .normal)(h:ST N E (bodyPost P fn<|mX E R) e f g s) :
  XT ⟨none,[⟨.collected D,#[]⟩]⟩ N E (bodyPostM (wf none) 0 P fn<|mX E R) e f g (pt D (.deferred<|some [])::s):=by
 intro a w ha hw;have hD:w.heap[D]?=some (.deferred<|some []):=At.here (i:=0) hw rfl;have hw2:=(At.obj (i:=0) (o':=.deferred none) hw rfl).sublist<|zj4 _ _;have h1:=h (my a) _ ha.2 hw2
 rcases he with rfl | rfl
 all_goals
  obtain ⟨_,v,h2,h3⟩:=h1;show LeavesInM _ _ _ _ _ _ a.defers _ _;rw[ha.1];exact⟨by simp,.inl ⟨D,_,I,run_takeDeferred hD,v,h2,h3⟩⟩
theorem BK {a:Act}{t t':Nat}{u u':Value}(h:Ok N f (my a))(ht:t<N)(ht':t'<N):Ok N ((t',u')::(t,u)::f) { tmps:=((#[t,t']:Array Tmp).zip [u,u'].toArray).foldl (fun t (p,v)=>t.setIfInBounds p v) a.tmps,defers:=[] }:=by
 have:=(h.put ht u).put ht' u';simpa [Act.put,my] using this
def vx {α ι:Type}(E:World)(G:ι→PH)(S:ι→Own)(J:List α→ι→Prop)(pre:List α)(x:α)(sx:Own):Exit→Act→World→Prop:=fun e _ w'=>e = .normal∧∃ j,At E (G j) (S j++sx) w'∧J (pre++[x]) j
def rT {N:Nat}(E:World)(g:PH)(s:Own)(fb:Fr):Exit→Act→World→Prop:=fun e a' w'=>e = .normal∧Okd [] N fb a'∧At E g s w'
theorem XT.roundEnd {α ι:Type}{G:ι→PH}{S:ι→Own}{J:List α→ι→Prop}{pre:List α}{x:α}{sx:Own}(j:ι)(hg:G j=g)(hs:S j++sx=s)(hj:J (pre++[x]) j):XT M N E (vx E G S J pre x sx) .normal f g s:=fun _ _ _ hw=>⟨rfl,j,by rw[hg,hs]; exact hw,hj⟩
theorem XT.assignEnd {fb:Fr}{ro:Option Nat}(hf:Sub fb f):XT ⟨ro,[]⟩ N E (rT (N:=N) E g s fb) .normal f g s:=fun _ _ ha hw=>⟨rfl,ha.sub hf,hw⟩
theorem XC.rangeFunc {α ι:Type}{gop:Operand}{ps:Array Tmp}{assign body:Code}{gf:FuncId}{lb:List Value}{encs:α→List Value}{xs:List α}{g0:PH}(G:ι→PH)(S:ι→Own)(J:List α→ι→Prop)(i0:ι)(sx0:Own)(fa:α→Fr)(fb:List α→α→ι→Fr)
  (hro:M.ro=none) (hg:ev f gop=some (.func (.func gf) #[] lb.toArray)) (eg:∀ args w,(callFunc gf args).run P w = .ok (.enter gf args) w) (hps:∀ x,(encs x).length=ps.size)
  (hG:G i0=g) (hS:S i0++sx0=s) (hseq:Ck P E gf lb encs xs g0) (hmono:∀ pre i,J pre i→Le g0 (G i)) (h0:J [] i0)
  (hfa:∀ x a,Ok N f (my a)→Ok N (fa x) { tmps:=(ps.zip (encs x).toArray).foldl (fun t (p,v)=>t.setIfInBounds p v) a.tmps,defers:=[] })
  (hassign:∀ l pre x i sx,J pre i→XC P ⟨some l,[]⟩ N E assign (rT (N:=N) E (G i) (S i++sx)<|fb pre x i) (fa x) (G i) (S i++sx))
  (hbody:∀ l pre x suf i sx,xs=pre++x::suf→J pre i→XC P ⟨some l,[]⟩ N E body (vx E G S J pre x sx) (fb pre x i) (G i) (S i++sx))
  (hdone:∀ D j,J xs j→XT ⟨none,⟨.collected D,#[]⟩::M.ds⟩ N E Q .normal f (G j) (pt D (.deferred<|some [])::(S j++sx0))):XC P M N E (.rangeFunc gop ps assign body) Q f g s:=by
 subst hG hS;intro a w ha hw;rw[hro];refine wpIn_rangeFunc ?_;intro fn _;obtain ⟨rec,hrec⟩:∃ rec:LoopState→Option Code→Loop,rec=fun st pe=>{ state:=st,pending:=pe,fn,tmps:=a.tmps,params:=ps,assign,body,defers:=w.heap.size }:=⟨_,rfl⟩;obtain ⟨L,hL⟩:∃ L,L=w.heap.size+1:=⟨_,rfl⟩;obtain ⟨D,hD⟩:∃ D,D=w.heap.size:=⟨_,rfl⟩;obtain ⟨W1,hW1⟩:∃ W1,(w.alloc<|.deferred<|some []).alloc (.loop<|rec .ready none)=W1:=⟨_,rfl⟩;have hA:At E (G i0) (pt L (.loop<|rec .ready none)::pt D (.deferred<|some [])::(S i0++sx0)) W1:=by
  rw[← hW1,hL,hD];have h1:At E (G i0) (pt w.heap.size (.deferred<|some [])::(S i0++sx0)) (w.alloc<|.deferred<|some []):=hw.alloc (e:=pt w.heap.size<|.deferred<|some []) rfl rfl;have h2:=h1.alloc (e:=pt (w.alloc<|.deferred<|some []).heap.size<|.loop<|rec .ready none) rfl rfl;rw[World.size_alloc] at h2;exact h2
 obtain ⟨S2,hS2⟩:∃ S2:ι→Own,S2=fun i=>S i++(pt L (.loop<|rec .ready none)::pt D (.deferred<|some [])::sx0):=⟨_,rfl⟩;have hA2:At E (G i0) (S2 i0++[]) W1:=by
  rw[hS2,zc7];dsimp only;refine hA.perm ?_;have h1:(pt L (.loop<|rec .ready none)::pt D (.deferred<|some [])::(S i0++sx0))=[pt L<|.loop<|rec .ready none,pt D<|.deferred<|some []]++(S i0++sx0):=rfl;have h2:S i0++(pt L (.loop<|rec .ready none)::pt D (.deferred<|some [])::sx0)=S i0++([pt L<|.loop<|rec .ready none,pt D<|.deferred<|some []]++sx0):=rfl;rw[h1,h2,← zh2,← zh2];exact List.perm_append_comm.append_right _
 refine⟨L,[{ target:=.collected D,args:=#[] }],W1,{ target:=.fn (.func gf) lb.toArray,args:=#[.func (.yield L) #[] #[]] },W1,gf,(.func (.yield L) #[] #[]::lb).toArray,W1,?_,?_,fun _ _=>trivial,?_,fun h=>(by cases h),?_⟩
 ·rw[← hW1,hrec,hL,hD]; exact run_enterLoop_outer _ _ _ _ _
 ·have h1:a.eval gop = .func (.func gf) #[] lb.toArray:=ha.ev hg;simp only[resolve,h1];simp[go_sem]
 ·have:(#[.func (.yield L) #[] #[]]++lb.toArray:Array Value)=(.func (.yield L) #[] #[]::lb).toArray:=by simp
  simp[invoke,go_sem,eg]
 ·refine (callsIn_wide (n:=0 - 1)).2<|(hseq L ι G S2 J i0 h0 hmono ?_ [] W1 hA2).mono ?_
  ·intro pre x suf i sx hxs hJ W hW;rw[hS2] at hW;simp only[zh2,List.cons_append] at hW;have hlen:(S i).length=(S i).length:=rfl;have gl:∀ (i:ι) (u u':Ent) (r:Own),(S i++u::u'::r)[(S i).length]?=some u:=fun i u u' r=>by simp
   have hl:=hW.here<|gl i _ _ _;have hy:=run_yield (P:=P) (args:=(encs x).toArray) hl (by rw[hrec]; simpa using hps x);rw[hrec] at hy;refine⟨fn,_,assign,body,hy,roundIn_of_wpIn trivial ?_⟩;refine Code.wpIn_mono (fun e a1 w1 h1=>?_)<|hassign L pre x i _ hJ { tmps:=(ps.zip (encs x).toArray).foldl (fun t (p,v)=>t.setIfInBounds p v) a.tmps,defers:=[] } W ⟨I,hfa x a ha.2⟩ hW;obtain ⟨rfl,ha1,hw1⟩:=h1;have hl1:=hw1.here<|gl i _ _ _;refine⟨_,run_beginRound hl1 (by rw[hrec]),?_⟩;have hset:∀ (i:ι) (u u' v:Ent) (r:Own),(S i++u::u'::r).set (S i).length v=S i++v::u'::r:=fun i u u' v r=>by simp
   have hw2:=hw1.obj (o':=.loop { rec .ready none with state:=.busy })<|gl i _ _ _;rw[hset] at hw2;refine Code.wpIn_mono (fun e a3 w3 h3=>?_)<|hbody L pre x suf i _ hxs hJ a1 _ ha1 hw2;obtain ⟨rfl,j,hw3,hJ3⟩:=h3;have hl3:=hw3.here<|gl j _ _ _;have he:=run_endRound (P:=P) none hl3;have hw4:=hw3.obj (o':=.loop { (rec .ready none) with state:=.ready,pending:=none })<|gl j _ _ _;rw[hset] at hw4;refine⟨_,_,he,.bool true,G j,S2 j++sx,I,?_,I,j,hJ3,I,I⟩;rw[hS2];simp only[zh2,List.cons_append];rw[hrec] at hw4 ⊢;exact hw4
  ·rintro e W2 ⟨v,g',s',rfl,hat,j,hJ,rfl,rfl⟩;rw[hS2,zc7] at hat;have gl:∀ (i:ι) (u u':Ent) (r:Own),(S i++u::u'::r)[(S i).length]?=some u:=fun i u u' r=>by simp
   have hl:=hat.here<|gl j _ _ _;have he:=run_endLoop (P:=P) hl (by rw[hrec]; simp);have h2:=hat.obj (o':=.loop { (rec .ready none) with state:=.exhausted })<|gl j _ _ _;have hset:∀ (i:ι) (u u' v:Ent) (r:Own),(S i++u::u'::r).set (S i).length v=S i++v::u'::r:=fun i u u' v r=>by simp
   rw[hset] at h2;have hpn:(rec .ready none).pending=none:=by rw[hrec]
   refine⟨none,_,he.trans<|ze5 (fun p=>Result.ok p _) hpn,?_⟩;refine hdone D j hJ _ _ ⟨by rw[← ha.1]; rfl,ha.2⟩ ?_;have h3:=(h2.sublist (s':=S j++pt D (.deferred<|some [])::sx0)<|by exact (zc4 _).append<|zj4 _ _).perm zk5;exact h3
end
end Go.Sy
namespace Go.Sy
open Go
section
variable {P:Program}{M:Md}{N:Nat}{E:World}{Q:Exit→Act→World→Prop}{f:Fr}{g:PH}{s:Own}{dst:Option Tmp}{ty:TypeId}{pos:String}{af:Array Edge}{gd:Option (Nat×Bool)}
end
end Go.Sy
namespace Go.Sy
open Go
section
variable {P:Program}{M:Md}{N:Nat}{E:World}{Q:Exit→Act→World→Prop}{f:Fr}{g:PH}{s:Own}{dst:Option Tmp}{ty:TypeId}{pos:String}{af:Array Edge}{gd:Option (Nat×Bool)}
end
end Go.Sy
