/- 15 -/
import Derived.Test.YtackilpikhkijaaGreatDoorSd14
set_option linter.unusedSimpArgs false
set_option linter.unusedVariables false
namespace Go.Proofs.YtackilpikhkijaaGreatDoor
open _root_.Go.Proofs.Tryz _root_.Go.Proofs.YtackilpikhkijaaGreatDoor.Tryz
open Go Go.Sy Go.Pl Go.Proofs
set_option maxRecDepth 100000
set_option maxHeartbeats 4000000
theorem wm (E:World)(g:PH)(s:Own)(v:Value)(l:List Cl)(hv:ao g v l)(hf:bo l) :
  Ctr Tryz.prog E 39 #[.agg #[v]] g s (fun r g' s'=>s=s'∧g=g'∧∃ n:Int,r=vi n):=by
 obtain ⟨rs,hrs,hall⟩:=hv;have hfl:=hf.1;have hlen:=hall.length;obtain ⟨p,c,rfl⟩:=za4 hrs;refine zb2 (args:=[.agg #[.slice p rs.length c]]) func39 I ntmps39 (bE I)<|rZ (bW (bO I) fun b1=>?_);refine aT I<|rZ<|aT I<|sQ<|rZ<|aT I<|bK<|oP (ι:=Nat×Int) (fun k=>[(1,pp b1 0),(3,vi k.2),(4,vi k.1)]) (fun _=>g) (fun _=>pt b1 (.cells #[.slice p rs.length c] 29 (0,0))::s)
  (fun k=>k.1≤rs.length) (fun k=>rs.length - k.1) (0,1) sB rfl rfl (zf9 _) ?_
 rintro ⟨k,n⟩ hk;dsimp only at hk ⊢;refine sQ<|sW I<|lU (fA bM I bt I)<|lK (qL (v:=.slice p rs.length c) de I<|cO 0 I I)<|lU (eN aI I)<|yL I<|tZ<|iP I (fun hlt=>?_) (fun hlt=>?_)
 ·have hkr:k<rs.length:=oM;have hb1:=za6 hrs oM;have hgx:rs[((k:Nat):Int).toNat]?=some rs[k]:=gE hkr;generalize rs[k]=x at *;exact kP<|tN<|sQ<|bK<|rG<|lM I<|lU (fA bM I bt I)<|lK (qL (v:=.slice p rs.length c) de I<|cO 0 I I)<|lM I<|lU (iA aI au I I hb1 oM sL)<|lU (fC aq I zT3 I hb1)<|lK (aZ (e:=encCell) (o:=0) (u:=vi x.id) iT3 I (za7 hrs) hgx I)<|lU (ze3 I I)<|lU (SU.maxI I I)<|lA I<|nL<|bN<|tN<|rG<|lM I<|yD I<|lA I<|nL<|gA (k+1,_) sB I I (by dsimp only; omega) (by dsimp only; omega)
 ·exact xI<|tX<|tX<|bX<|tN<|sW I<|aT I<|rE<|dR (s':=s) uR<|za8 (.inl I) results39 I ⟨I,I,_,I⟩
theorem dE (E:World)(g:PH)(s:Own)(v:Value)(l:List Int)(n:Int)(hv:dQ g v l)(hl:l.length<1099511627776) :
  Ctr Tryz.prog E 40 #[v,vi n] g s (fun r g' s'=>s=s'∧g=g'∧∃ n:Int,r=vi n):=by
 obtain ⟨p,c,rfl⟩:=za4 hv;refine zb2 (args:=[.slice p l.length c,vi n]) func40 I ntmps40 (bE I)<|rZ<|aT I<|sQ<|sW I<|lU (eN aK I)<|yE I<|tZ<|iP I (fun h0=>?_) (fun h0=>?_)
 ·exact rZ<|aT I<|rE<|tR<|za8 (.inl I) results40 I ⟨I,I,_,I⟩
 ·obtain ⟨hm1,hm2⟩:=jq n l.length oM oM;have hb:=za6 hv oM;have hgm:l[(a7 n l.length).toNat]?=some l[(a7 n l.length).toNat]:=gE hm2;generalize l[(a7 n l.length).toNat]=y at *;refine kP<|tN<|sW I<|lM I<|lM I<|lU (eN aK I)<|lW (cL eJ I<|aC E g _ n l.length oM) ?_;rintro _ _ _ ⟨rfl,rfl,rfl⟩;rw[hm1];exact lU (iA aK zT3 I I hb oM sL)<|lK (eB (u:=vi y) iT3 I (za7 hv) hgm I)<|aT I<|rE<|za8 (.inl I) results40 I ⟨I,I,_,I⟩
theorem yx (l:List Int):decide ((l.length:Int)=0)=decide (l=[]):=by
 rw[Bool.eq_iff_iff,zj9,zj9];exact⟨fun h=>zf7 oM,fun h=>by rw[h]; rfl⟩
def lf (l:List Cl)(id:Int):Bool:=match aj l id with
 | [m]=>decide (aj l m=[])
 | _=>false
theorem ui (E:World)(g:PH)(s:Own)(v:Value)(l:List Cl)(hv:ao g v l)(hf:bo l) :
  Ctr Tryz.prog E 44 #[.agg #[v]] g s (fun r g' s'=>s=s'∧Le g g'∧∃ ps:List Pr,SlA dJ g' r ps∧ps.length<1099511627776):=by
 have hv0:=hv;obtain ⟨rs,hrs,hall⟩:=hv;have hfl:=hf.1;have hlen:=hall.length;obtain ⟨p,c,rfl⟩:=za4 hrs;refine zb2 (args:=[.agg #[.slice p rs.length c]]) func44 I ntmps44 (bE I)<|rZ (bW (bO I) fun b1=>?_);refine aT I<|rZ<|aT I<|sQ<|rZ<|aT I<|bK<|zb6 60 2<|oP (ι:=Nat×PH×Value×List Pr) (fun i=>[(1,pp b1 0),(3,i.2.2.1),(4,vi i.1)]) (fun i=>i.2.1) (fun i=>rowA dJ 60 i.2.2.1 i.2.2.2::pt b1 (.cells #[.slice p rs.length c] 29 (0,0))::s)
  (fun i=>i.1≤rs.length∧Le g i.2.1∧i.2.2.2.length≤i.1) (fun i=>rs.length - i.1) (0,g,.slice none 0 0,[]) sB rfl rfl ⟨zf9 _,zb9 _,zf9 _⟩ ?_
 rintro ⟨k,g1,ov,acc⟩ ⟨hk,hle1,hal⟩;dsimp only at hk hle1 hal ⊢;refine sQ<|sW I<|lU (fA bM I bt I)<|lK (qL (v:=.slice p rs.length c) de I<|cO 1 I I)<|lU (eN aI I)<|yL I<|tZ<|iP I (fun hlt=>?_) (fun hlt=>?_)
 ·have hkr:k<rs.length:=oM;have hb1:=za6 hrs oM;have hrs1:=za5 hrs hle1;have hv1:=hv0.mono hle1;have hgx:rs[((k:Nat):Int).toNat]?=some rs[k]:=gE hkr;generalize rs[k]=x at *;have hal2:(aj l x.id).length<1099511627776:=Nat.lt_of_le_of_lt (by unfold aj; rw[ze9]; exact zc6 _ _) (bP hf).1;refine kP<|tN<|sQ<|bK<|sQ<|dW [] [(0,1),(1,2),(2,1),(3,2),(4,2),(5,2),(6,1),(7,0),(8,2)] ze6 kR<|pK I (qV 1 aw ah I I I)<|pU I (fA bM I bt I)<|pK I (qL (v:=.slice p rs.length c) de I<|cO 1 I I)<|yM I<|pU I (iA aI au I I hb1 oM sL)<|pU I (fC aq I zT3 I hb1)<|pK I (aZ (e:=encCell) (o:=0) (u:=vi x.id) iT3 I (za7 hrs1) hgx I)<|SP.o I (cL call77 I<|du E g1 _ _ l x.id hv1 hf) dC (.inr iR) ?_;rintro _ g2 _ ⟨rfl,hle2,ha2⟩;obtain ⟨q2,d2,rfl⟩:=za4 ha2;have hv2:=hv1.mono hle2;have hrs2:=za5 hrs1 hle2;refine pU I (aS I)<|pN<|tN<|SC.cut (ι:=PH) (fun _=>[(1,pp b1 0),(3,ov),(4,vi k),(5,.slice q2 (aj l x.id).length d2),(32,vb<|lf l x.id)]) (fun g'=>g') (fun _=>rowA dJ 60 ov acc::pt b1 (.cells #[.slice p rs.length c] 29 (0,0))::s) (fun g'=>Le g2 g') ?_ ?_
  ·by_cases h1:(aj l x.id).length=1
   ·obtain ⟨m,hm⟩:∃ m,aj l x.id=[m]:=by
     match hq:aj l x.id,h1 with
     | [m],_=>exact⟨m,rfl⟩
    have hfb:lf l x.id=decide (aj l m=[]):=by unfold lf; rw[hm]
    have hb2:=za6 ha2 oM;have hg0:(aj l x.id)[((0:Nat):Int).toNat]?=some m:=by rw[hm]; rfl
    refine SC.drawX [] ze6 kR ?_;refine SX.u (i:=0) I kR (mV I) dC<|SX.u (i:=1) I kR (eN aK I) dC<|SX.u (i:=2) I kR (SU.eq (v':=vb true) (eQ I I)<|ze5 vb<|zg2 oM) dC<|SX.u (i:=3) I kR (mV I) dC<|SX.gq (i:=4) I kR (gT I I I dC) (qV 1 aw ah I I I) dC<|SX.gu (i:=5) I kR (gT I I I dC) (mV I) dC<|SX.gu (i:=6) I kR (gT I I I dC) (iA (i:=0) aK zT3 I I hb2 dC (show (0:Int)<(((aj l x.id).length:Nat):Int) by omega)) dC ?_;refine SX.gq (i:=7) I kR (gT I I I dC) (eB iT3 I (za7 ha2) hg0 I) dC ?_;refine zd8 8 kR ?_
    ·refine SB.go (i:=8) I (gT I I I dC) (cL call77 I<|du E g2 _ _ l m hv2 hf) dC (.inr iR) ?_;rintro _ g3 _ ⟨rfl,hle3,ha3⟩;obtain ⟨q3,d3,rfl⟩:=za4 ha3;refine SX.gu (i:=9) I kR (gT I I I dC) (eN aK I) dC<|SX.gu (i:=10) I kR (gT I I I dC) (SU.eq (v':=vb<|decide (aj l m=[])) (eQ I I)<|ze5 vb<|yx _) dC<|SX.u (i:=11) I kR (wT I I) dC<|SX.nil kR ?_;exact za9 g3 ⟨I,I,I,I,(by rw[hfb]; rfl),trivial⟩ rfl rfl hle3
   ·have hfb:lf l x.id=false:=by
     unfold lf;split
     ·rename_i m hm; rw[hm] at h1; exact absurd I h1
     ·rfl
    refine SC.drawX [] ze6 kR ?_;refine SX.u (i:=0) I kR (mV I) dC<|SX.u (i:=1) I kR (eN aK I) dC<|SX.u (i:=2) I kR (SU.eq (v':=vb false) (eQ I I)<|ze5 vb<|zg1 oM) dC<|SX.u (i:=3) I kR (mV I) dC<|SX.off (i:=4) I kR (gZ I I I dC) dC<|SX.off (i:=5) I kR (gZ I I I dC) dC<|SX.off (i:=6) I kR (gZ I I I dC) dC<|SX.off (i:=7) I kR (gZ I I I dC) dC ?_;refine zd8 8 kR ?_
    ·refine SB.offo (i:=8) I (gZ I I I dC) dC ⟨by exact zb9 _,(by exact .refl _)⟩ ?_;refine SX.off (i:=9) I kR (gZ I I I dC) dC<|SX.off (i:=10) I kR (gZ I I I dC) dC<|SX.u (i:=11) I kR (wF I I) dC<|SX.nil kR ?_;exact za9 g2 ⟨I,I,I,I,(by rw[hfb]; rfl),trivial⟩ rfl rfl<|zb9 _
  rintro g3 hle3;try dsimp only at hle3 ⊢
  have hle13:=hle1.trans<|hle2.trans hle3;refine iQ I (fun hb=>?_) (fun hb=>?_)
  ·obtain ⟨m,hm,hm0⟩:∃ m,aj l x.id=[m]∧aj l m=[]:=by
    unfold lf at hb;split at hb
    ·rename_i m hm; exact⟨m,hm,zg6 hb⟩
    ·cases hb
   have hb2:=za6 ha2 (by rw[hm]; simp);have hg0:(aj l x.id)[((0:Nat):Int).toNat]?=some m:=by rw[hm]; rfl
   have hl1:(aj l x.id).length=1:=by rw[hm]; rfl
   refine dW [12] [(0,2),(1,2),(2,1),(3,2),(4,2),(5,2),(6,1),(7,2),(8,2),(9,1),(10,2),(11,0),(12,0),(13,2)] ze6 kR<|yM I<|pU I (fA bM I bt I)<|pK I (qL (v:=.slice p rs.length c) de I<|cO 1 I I)<|yM I<|pU I (iA aI au I I hb1 oM sL)<|pU I (fC aq I zT3 I hb1)<|pK I (aZ (e:=encCell) (o:=0) (u:=vi x.id) iT3 I (za7<|za5 hrs2 hle3) hgx I)<|yM I<|pU I (iA (i:=0) aK zT3 I I hb2 dC (show (0:Int)<(((aj l x.id).length:Nat):Int) by omega)) ?_;refine pK I (eB iT3 I (za7<|za5 ha2 hle3) hg0 I)<|pU I (za3 I<|build60 _ _)<|SP.o I (bS sty33 I I I (ae ⟨I,trivial⟩) dC) dC (.inr iR) ?_;rintro _ _ _ ⟨b44,rfl,rfl,rfl⟩;refine SP.o I (aP (e:=dJ) (l:=acc) 0 (x.id,m) sty33 I I I I I oM oM) dC (.inl dC) ?_;rintro ov' _ _ ⟨rfl,rfl⟩;refine pU I (aS I)<|pN<|bN<|tN<|rG<|lM I<|yD I<|lA I<|nL ?_;exact gA (k+1,g3,ov',acc++[(x.id,m)]) sB I I ⟨by dsimp only; omega,hle13,by dsimp only; rw[ze8,zf1]; omega⟩ (by dsimp only; omega)
  ·exact kP<|bN<|tN<|rG<|lM I<|yD I<|lA I<|nL<|gA (k+1,g3,ov,acc) sB I I ⟨by dsimp only; omega,hle13,by dsimp only; omega⟩ (by dsimp only; omega)
 ·refine xI (tX<|tX<|bX<|tN<|sQ<|fS fun g2 hle2 hs2=>?_);obtain ⟨q0,d0,rfl⟩:=zc3 hs2;exact rG<|lM I<|aT I<|rE<|dR (s':=s) uR<|za8 (.inl I) results44 I ⟨I,hle1.trans hle2,acc,hs2,oM⟩
theorem wM (E:World)(g:PH)(s:Own)(v:Value)(l:List Cl)(n:Int)(hv:ao g v l)(hf:bo l) :
  Ctr Tryz.prog E 43 #[.agg #[v],vi n] g s (fun r g' s'=>∃ ps:List Pr,s'=rowA dJ 60 r ps::s∧Le g g'∧ps.length≤1):=by
 obtain ⟨rs,hrs,hall⟩:=hv;have hfl:=hf.1;have hlen:=hall.length;obtain ⟨p,c,rfl⟩:=za4 hrs;refine zb2 (args:=[.agg #[.slice p rs.length c],vi n]) func43 I ntmps43 (bE I)<|rZ (bW (bO I) fun b2=>?_);refine aT I<|rZ<|lU (fA bM I bt I)<|lK (qL (v:=.slice p rs.length c) de I<|cO 0 I I)<|lU (eN aI I)<|aT I<|sQ<|rZ<|aT I<|bK<|oP (ι:=Nat) (fun k=>[(1,vi n),(2,pp b2 0),(5,vi rs.length),(6,vi k)]) (fun _=>g) (fun _=>pt b2 (.cells #[.slice p rs.length c] 29 (0,0))::s)
  (fun k=>k≤rs.length) (fun k=>rs.length - k) 0 sB rfl rfl (zf9 _) ?_
 rintro k hk;try dsimp only at hk ⊢
 refine sQ<|sW I<|lM I<|yL I<|tZ<|iP I (fun hlt=>?_) (fun hlt=>?_)
 ·have hb1:=za6 hrs oM;obtain ⟨hm1,hm2⟩:=jq (IntKind.i64.wrap<|k+n) rs.length oM oM;have hgx:rs[(a7 (IntKind.i64.wrap<|k+n) rs.length).toNat]?=some rs[(a7 (IntKind.i64.wrap<|k+n) rs.length).toNat]:=gE hm2;have hcx:=hall.get (gE (show (a7 (IntKind.i64.wrap<|k+n) rs.length).toNat<l.length by omega)) hgx;have hxl:=hf.2 _<|gM (show (a7 (IntKind.i64.wrap<|k+n) rs.length).toNat<l.length by omega);generalize l[(a7 (IntKind.i64.wrap<|k+n) rs.length).toNat]'oM=cx at *;generalize rs[(a7 (IntKind.i64.wrap<|k+n) rs.length).toNat]=x at *;obtain ⟨xi,xd,xp,xn,xc⟩:=x;obtain ⟨f1,f2,hxs⟩:=hcx;dsimp only at f1 f2 hxs;subst f1 f2;refine kP<|tN<|sQ<|bK ?_;refine SC.cut (ι:=Nat) (fun b=>[(1,vi n),(2,pp b2 0),(5,vi rs.length),(6,vi k),(7,pp b 0)]) (fun _=>g) (fun b=>pt b (.cells #[vi cx.id,vi cx.dim,.slice xp xn xc] 53 (0,0))::pt b2 (.cells #[.slice p rs.length c] 29 (0,0))::s) (fun _=>True) ?_ ?_
  ·refine SC.drawX [10] ze6 kR ?_;refine SX.u (i:=0) I kR (fA bM I bt I) dC<|SX.q (i:=1) I kR (qL (v:=.slice p rs.length c) de I<|cO (by exact 0) I I) dC ?_;refine SX.u (i:=2) I kR (mV I) dC<|SX.u (i:=3) I kR (mV I) dC<|SX.u (i:=4) I kR (ze3 I I) dC<|SX.u (i:=5) I kR (mV I) dC ?_
   repeat' (first
    | (refine SB.o (i:=6) rfl (cL eJ rfl<|aC E g _ _ rs.length oM) dC (.inr (by rintro _ _ _ ⟨rfl,rfl,rfl⟩; exact⟨by exact zb9 _,(by exact .cons _<|.refl _)⟩)) ?_; rintro _ _ _ ⟨rfl,rfl,rfl⟩; rw[hm1]; refine SX.u (i:=7) I kD (iA aI au I I hb1 oM sL) dC ?_; refine SX.q (i:=8) I kD (eA dn au I (za7 hrs) hgx) dC ?_)
    | (refine SB.o (i:=6) rfl (cL eJ rfl<|aC E g _ _ rs.length oM) dC (.inr (by rintro _ _ _ ⟨rfl,rfl,rfl⟩; exact⟨by exact zb9 _,(by exact .refl _)⟩)) ?_; rintro _ _ _ ⟨rfl,rfl,rfl⟩; rw[hm1]; refine SX.u (i:=7) I kD (iA aI au I I hb1 oM sL) dC ?_; refine SX.q (i:=8) I kD (eA dn au I (za7 hrs) hgx) dC ?_)
    | (refine SB.o (i:=9) rfl (aL zl8) dC (.inr (by rintro _ _ _ ⟨b7,rfl,rfl,rfl⟩; exact⟨by exact zb9 _,(by exact .cons _<|.refl _)⟩)) ?_; rintro _ _ _ ⟨b7,rfl,rfl,rfl⟩)
    | (refine SB.on (i:=10) I (sK 0 au I I I I I sB) (.inl dC) ?_; rintro _ _ _ ⟨rfl,rfl⟩)
    | refine zd9 6 9 kD ?_ ?_
    | refine zd8 9 kD ?_
    | refine zd8 10 kD ?_
    | refine zd8 6 kD ?_
    | (refine SX.nil kD ?_; exact za9 b7 sB I I trivial))
  rintro b7 -;try dsimp only
  clear hm1 hm2;refine rZ<|aT I<|bK<|oP (ι:=Nat) (fun j=>[(1,vi n),(2,pp b2 0),(5,vi rs.length),(6,vi k),(7,pp b7 0),(8,vi j)]) (fun _=>g) (fun _=>pt b7 (.cells #[vi cx.id,vi cx.dim,.slice xp xn xc] 53 (0,0))::pt b2 (.cells #[.slice p rs.length c] 29 (0,0))::s)
   (fun j=>j≤rs.length) (fun j=>rs.length - j) 0 sB rfl rfl (zf9 _) ?_
  rintro j hj;try dsimp only at hj ⊢
  refine sQ<|sW I<|lM I<|yL I<|tZ<|iP I (fun hlt2=>?_) (fun hlt2=>?_)
  ·have hjr:j<rs.length:=oM;have hjl:j<l.length:=oM;have hgy:rs[((j:Nat):Int).toNat]?=some rs[j]:=gE hjr;have hcy:=hall.get (gE hjl)<|gE hjr;have hyl:=hf.2 _<|gM hjl;generalize l[j]=cy at *;generalize rs[j]=y at *;obtain ⟨yi,yd,yp,yn,yc⟩:=y;obtain ⟨f1,f2,hys⟩:=hcy;dsimp only at f1 f2 hys;subst f1 f2;refine kP (tN<|sQ<|bK<|rZ<|lU (fA bM I bt I)<|lK (qL (v:=.slice p rs.length c) de I<|cO 1 I I)<|lM I<|lU (iA aI au I I hb1 oM sL)<|lK (eA dn au I (za7 hrs) hgy)<|bW (aL zl8) fun b9=>?_);refine oZ (sK 0 au I I I I I sB)<|tZ<|SC.cutB 60 (decide (cx.id≠cy.id)&&decide (cx.dim=cy.dim)&&decide (cx.dim>0)&&decide (hX cx.sides=hX cy.sides)) ?_ ?_
   ·refine rG<|lU (fA aq I zT3 I)<|lK (qL (v:=vi cx.id) iT3 I<|cO 1 I I)<|lU (fA aq I zT3 I)<|lK (qL (v:=vi cy.id) iT3 I<|cO 0 I I)<|lU (nQ I I)<|lM I<|sP ?_ ?_
    ·intro h42;refine lY I I I (fA aq I zT3 I)<|SL.gq (gT I I I dC) (qL (v:=vi cx.dim) iT3 I<|cO 1 I I) dC<|lY I I I (fA aq I zT3 I)<|SL.gq (gT I I I dC) (qL (v:=vi cy.dim) iT3 I<|cO 0 I I) dC<|lY I I I (eQ I I)<|yP I<|lM I<|sP ?_ ?_
     ·intro h49;refine lY I I I (fA aq I zT3 I)<|SL.gq (gT I I I dC) (qL (v:=vi cx.dim) iT3 I<|cO 1 I I) dC<|lY I I I (gR I I)<|yP I<|lM I<|sP ?_ ?_
      ·intro h54;refine lY I I I (fA aq I aJ I)<|SL.gq (gT I I I dC) (qL (v:=.slice xp xn xc) aX I<|cO 1 I I) dC<|lY I I I (fA aq I aJ I)<|SL.gq (gT I I I dC) (qL (v:=.slice yp yn yc) aX I<|cO 0 I I) dC<|ze4 (gT I I I dC) (cL call76 I<|jW E g _ _ _ _ _ hxs hys hxl hyl) dC ?_;rintro _ _ _ ⟨rfl,rfl,rfl⟩;exact yP I<|nL<|zb1 (by (simp_all[bg]; done)) mI
      ·intro h54;exact yA I<|yA I<|yA I<|yA I<|yA I<|yF I<|nL<|zb1 (by (simp_all[bg]; omega)) mI
     ·intro h49;exact yA I<|yA I<|yA I<|yF I<|lM I<|yA I<|yA I<|yA I<|yA I<|yA I<|yF I<|nL<|zb1 (by (simp_all[bg]; done)) mI
    ·intro h42;exact yA I<|yA I<|yA I<|yA I<|yA I<|yF I<|lM I<|yA I<|yA I<|yA I<|yF I<|lM I<|yA I<|yA I<|yA I<|yA I<|yA I<|yF I<|nL<|zb1 (by (simp_all[bg]; done)) mI
   refine iQ I (fun hq=>?_) (fun hq=>?_)
   ·refine rZ<|lU (fA aq I zT3 I)<|lK (qL (v:=vi cx.id) iT3 I<|cO 1 I I)<|lU (fA aq I zT3 I)<|lK (qL (v:=vi cy.id) iT3 I<|cO 0 I I)<|lU (za3 I<|build60 _ _)<|lW (bS sty33 I I I (ae ⟨I,trivial⟩) dC) ?_;rintro _ _ _ ⟨b66,rfl,rfl,rfl⟩;refine SL.to (fun w hw=>At.litRow (e:=dJ) (l:=[(cx.id,cy.id)]) (n:=0) hw I I dC) ?_;exact aT I<|rE<|bR<|tR<|tR<|bR<|bR<|tR<|tR<|bR<|tR<|dR (.cons_cons _<|.cons _<|.cons _<|.cons _<|.refl s)<|za8 (.inl I) results43 I ⟨_,I,zb9 _,by simp⟩
   ·exact kP<|bN<|tN<|rG<|lM I<|yD I<|lA I<|nL<|dR (.cons _<|.refl _)<|gA (j+1) sB I I oM oM
  ·exact xI<|tX<|tX<|bX<|bN<|tN<|rG<|lM I<|yD I<|lA I<|nL<|dR (.cons _<|.refl _)<|gA (k+1) sB I I oM oM
 ·exact xI<|tX<|tX<|bX<|tN<|rZ<|aT I<|rE<|dR (s':=s) (.cons _<|.refl _)<|ST.nilRow 60 2<|za8 (.inl I) results43 I ⟨[],I,zb9 _,by simp⟩
set_option maxHeartbeats 8000000
theorem rC {l:List Cl}(hf:bo l)(id:Int):((findC l id).getD bD).sides.length<1099511627776:=by
 unfold findC;cases h:(am l).find? (fun c=>decide (c.id=id)) with
 | none=>simp[bD]
 | some c=>exact (bP hf).2 c<|zl1 h
theorem Tryz.bA35 (a:Int)(b:Int)  (w:World):(Instr.build 35 #[(0,vi a),(1,vi b)]).run Tryz.prog w = .ok (.agg #[vi a,vi b,vi 0,vi 0,vi 0,.slice none 0 0,.slice none 0 0]) w:=by
 have h0:(vi a).cells = #[vi a]:=rfl;have h1:(vi b).cells = #[vi b]:=rfl;simp[Instr.build,Instr.fill,h0,h1];rfl
theorem Tryz.bB35 (a:Int)(b:Int)(d:Int)(q:Option Addr)(qn qc:Nat)(w:World):(Instr.build 35 #[(0,vi a),(1,vi b),(2,vi d),(5,.slice q qn qc)]).run Tryz.prog w = .ok (.agg #[vi a,vi b,vi d,vi 0,vi 0,.slice q qn qc,.slice none 0 0]) w:=by
 have h0:(vi a).cells = #[vi a]:=rfl;have h1:(vi b).cells = #[vi b]:=rfl;have h2:(vi d).cells = #[vi d]:=rfl;have h3:(Value.slice q qn qc).cells = #[.slice q qn qc]:=rfl;simp[Instr.build,Instr.fill,h0,h1,h2,h3];rfl
theorem Tryz.bC35 (a:Int)(b:Int)(d:Int)(e:Int)  (w:World):(Instr.build 35 #[(0,vi a),(1,vi b),(3,vi d),(4,vi e)]).run Tryz.prog w = .ok (.agg #[vi a,vi b,vi 0,vi d,vi e,.slice none 0 0,.slice none 0 0]) w:=by
 have h0:(vi a).cells = #[vi a]:=rfl;have h1:(vi b).cells = #[vi b]:=rfl;have h2:(vi d).cells = #[vi d]:=rfl;have h3:(vi e).cells = #[vi e]:=rfl;simp[Instr.build,Instr.fill,h0,h1,h2,h3];rfl
theorem Tryz.bD35 (a:Int)(q:Option Addr)(qn qc:Nat)(w:World):(Instr.build 35 #[(0,vi a),(6,.slice q qn qc)]).run Tryz.prog w = .ok (.agg #[vi a,vi 0,vi 0,vi 0,vi 0,.slice none 0 0,.slice q qn qc]) w:=by
 have h0:(vi a).cells = #[vi a]:=rfl;have h1:(Value.slice q qn qc).cells = #[.slice q qn qc]:=rfl;simp[Instr.build,Instr.fill,h0,h1];rfl
theorem Tryz.bE35 (a:Int)(b:Int)(d:Int)  (w:World):(Instr.build 35 #[(0,vi a),(1,vi b),(4,vi d)]).run Tryz.prog w = .ok (.agg #[vi a,vi b,vi 0,vi 0,vi d,.slice none 0 0,.slice none 0 0]) w:=by
 have h0:(vi a).cells = #[vi a]:=rfl;have h1:(vi b).cells = #[vi b]:=rfl;have h2:(vi d).cells = #[vi d]:=rfl;simp[Instr.build,Instr.fill,h0,h1,h2];rfl
theorem Tryz.bF35 (a:Int)(b:Int)(d:Int)(e:Int)(h:Int)(q:Option Addr)(qn qc:Nat)(r:Option Addr)(rn rc:Nat)(w:World):(Instr.build 35 #[(0,vi a),(1,vi b),(2,vi d),(3,vi e),(4,vi h),(5,.slice q qn qc),(6,.slice r rn rc)]).run Tryz.prog w = .ok (.agg #[vi a,vi b,vi d,vi e,vi h,.slice q qn qc,.slice r rn rc]) w:=by
 have h0:(vi a).cells = #[vi a]:=rfl;have h1:(vi b).cells = #[vi b]:=rfl;have h2:(vi d).cells = #[vi d]:=rfl;have h3:(vi e).cells = #[vi e]:=rfl;have h4:(vi h).cells = #[vi h]:=rfl;have h5:(Value.slice q qn qc).cells = #[.slice q qn qc]:=rfl;have h6:(Value.slice r rn rc).cells = #[.slice r rn rc]:=rfl;simp[Instr.build,Instr.fill,h0,h1,h2,h3,h4,h5,h6];rfl
theorem mu (E:World)(g:PH)(s:Own)(v:Value)(l:List Cl)(k0 ka kb kc:Int)(hv:ao g v l)(hf:bo l) :
  Ctr Tryz.prog E 13 #[.agg #[vi k0,vi ka,vi kb,vi kc],.agg #[v]] g s (fun r g' s'=>s=s'∧Le g g'∧∃ e,EdR g' r e∧e.sides.length<1099511627776∧e.pairs.length≤3):=by
 have hv0:=hv;obtain ⟨rs,hrs,hall⟩:=hv;have hlen:=hall.length;have hfl:=hf.1;obtain ⟨p,c,rfl⟩:=za4 hrs;have hid:∀ d,(zB l d).length<1099511627776:=fun d=>by
  have h1:(zB l d).length≤(am l).length:=by unfold zB; rw[ze9]; exact zc6 _ _
  have h2:=(bP hf).1;omega
 have htl:(tw l).length<1099511627776:=by
  have h1:(tw l).length≤(am l).length:=by unfold tw; rw[ze9]; exact zc6 _ _
  have h2:=(bP hf).1;omega
 have hl0:=hid 0;have hl1:=hid 1;rw[← hlen] at hrs ⊢;have hv1:ao g (.slice p l.length c) l:=⟨rs,hrs,hall⟩;refine zb2 (args:=[.agg #[vi k0,vi ka,vi kb,vi kc],.agg #[.slice p l.length c]]) func13 I ntmps13 (bE I)<|rZ (bW (bO I) fun b2=>?_);refine bW (bO I) fun b3=>bW (aL zl9) fun b4=>tZ<|rZ<|aT I<|sQ<|rZ<|aT I<|bK<|zb6 3 1<|oP (ι:=Nat×Value×List Int) (fun i=>[(2,pp b2 0),(3,pp b3 0),(4,pp b4 0),(5,i.2.1),(6,vi i.1)]) (fun _=>g) (fun i=>rowA encInt 3 i.2.1 i.2.2::pt b4 (.cells #[vi 0,vi 0,vi 0,vi 0,vi 0,.slice none 0 0,.slice none 0 0] 35 (0,0))::pt b3 (.cells #[.slice p l.length c] 29 (0,0))::pt b2 (.cells #[vi k0,vi ka,vi kb,vi kc] 37 (0,0))::s)
  (fun i=>i.1≤l.length∧i.2.2.length=i.1) (fun i=>l.length - i.1) (0,.slice none 0 0,[]) sB rfl rfl ⟨zf9 _,rfl⟩ ?_
 rintro ⟨k,ov,acc⟩ ⟨hk,hal⟩;dsimp only at hk hal ⊢;refine sQ<|sW I<|lU (fA bM I bt I)<|lK (qL (v:=.slice p l.length c) de I<|cO 2 I I)<|lU (eN aI I)<|yL I<|tZ<|iP I (fun hlt=>?_) (fun hlt=>?_)
 ·have hkr:k<rs.length:=oM;have hb1:=za6 hrs oM;have hgx:rs[((k:Nat):Int).toNat]?=some rs[k]:=gE hkr;generalize rs[k]=x at *;refine kP<|tN<|sQ<|bK<|rG<|lM I<|lU (fA bM I bt I)<|lK (qL (v:=.slice p l.length c) de I<|cO 2 I I)<|lM I<|lU (iA aI au I I hb1 oM sL)<|lU (fC aq I zT3 I hb1)<|lK (aZ (e:=encCell) (o:=0) (u:=vi x.id) iT3 I (za7 hrs) hgx I)<|lW (bS sty83 I I I (ae ⟨I,trivial⟩) dC) ?_;rintro _ _ _ ⟨b33,rfl,rfl,rfl⟩;refine lW (aP (e:=encInt) (l:=acc) 0 x.id sty83 I I I I I oM oM) ?_;rintro ov' _ _ ⟨rfl,rfl⟩;exact lA I<|nL<|bN<|tN<|rG<|lM I<|yD I<|lA I<|nL<|gA (k+1,ov',acc++[x.id]) sB I I ⟨by dsimp only; omega,by dsimp only; rw[ze8,zf1]; omega⟩ (by dsimp only; omega)
 clear hlt;have hIl:acc.length<1099511627776:=oM;clear hk hal;refine xI (tX<|tX<|bX<|tN<|sQ<|fS fun g1 hle1 hI=>?_);obtain ⟨qI,dI,rfl⟩:=zc3 hI;have hI:dQ g1 (.slice qI acc.length dI) acc:=hI;have hv2:=hv1.mono hle1;refine rG<|lK (qV 1 aw ah I I I)<|lW (cL call38 I<|nM E g1 _ _ l 0 hv2 hf) ?_;rintro _ g2 _ ⟨rfl,hle2,hV⟩;obtain ⟨pV,cV,rfl⟩:=za4 hV;have hv3:=hv2.mono hle2;have hI:=za5 hI hle2;refine aT I<|rZ<|lK (qV 1 aw ah I I I)<|lW (cL call38 I<|nM E g2 _ _ l 1 hv3 hf) ?_;rintro _ g3 _ ⟨rfl,hle3,hW⟩;obtain ⟨pW,cW,rfl⟩:=za4 hW;have hv4:=hv3.mono hle3;have hI:=za5 hI hle3;have hV:=za5 hV hle3;generalize zB l 0=V at *;generalize zB l 1=W at *;refine aT I<|rZ<|lK (qV 1 aw ah I I I)<|lW (cL call39 I<|wm E g3 _ _ l hv4 hf) ?_;rintro _ _ _ ⟨rfl,rfl,n0,rfl⟩;have hle13:=hle1.trans<|hle2.trans hle3;refine aT I<|SC.cut (ι:=Int) (fun n=>[(2,pp b2 0),(3,pp b3 0),(4,pp b4 0),(5,.slice qI acc.length dI),(7,.slice pV V.length cV),(8,.slice pW W.length cW),(9,vi n)]) (fun _=>g3) (fun _=>pt b4 (.cells #[vi 0,vi 0,vi 0,vi 0,vi 0,.slice none 0 0,.slice none 0 0] 35 (0,0))::pt b3 (.cells #[.slice p l.length c] 29 (0,0))::pt b2 (.cells #[vi k0,vi ka,vi kb,vi kc] 37 (0,0))::s) (fun _=>True) ?_ ?_
 ·refine rZ<|lU (fA hP I zT3 I)<|lK (qL (v:=vi kc) iT3 I<|cO 2 I I)<|lU (ze1 I I dC)<|yE I<|tZ<|iP I (fun hz=>?_) (fun hz=>?_)
  ·refine rG<|lM I<|lU (fA hP I zT3 I)<|lK (qL (v:=vi kc) iT3 I<|cO 2 I I)<|lU (SU.quo I I dC)<|lW (cL call40 I<|dE E g3 _ _ acc _ hI hIl) ?_;rintro _ _ _ ⟨rfl,rfl,n1,rfl⟩;exact lA I<|nL<|za9 n1 sB I I trivial
  ·exact kP<|za9 n0 sB I I trivial
 rintro n -;try dsimp only
 refine SC.cut (ι:=Nat×PH×Cl×Rc) (fun i=>[(2,pp b2 0),(3,pp b3 0),(4,pp b4 0),(5,.slice qI acc.length dI),(7,.slice pV V.length cV),(8,.slice pW W.length cW),(9,vi n),(10,pp i.1 0)]) (fun i=>i.2.1) (fun i=>pt i.1 (.cells #[vi i.2.2.2.id,vi i.2.2.2.dim,.slice i.2.2.2.sv.p i.2.2.2.sv.n i.2.2.2.sv.c] 53 (0,0))::pt b4 (.cells #[vi 0,vi 0,vi 0,vi 0,vi 0,.slice none 0 0,.slice none 0 0] 35 (0,0))::pt b3 (.cells #[.slice p l.length c] 29 (0,0))::pt b2 (.cells #[vi k0,vi ka,vi kb,vi kc] 37 (0,0))::s) (fun i=>Le g3 i.2.1∧ar i.2.1 i.2.2.1 i.2.2.2∧i.2.2.1.sides.length<1099511627776) ?_ ?_
 ·refine SC.drawX [10] ze6 kR ?_;refine SX.q (i:=0) I kR (qV 1 aw ah I I I) dC<|SX.u (i:=1) I kR (mV I) dC<|SX.u (i:=2) I kR (fA hP I zT3 I) dC<|SX.q (i:=3) I kR (qL (v:=vi ka) iT3 I<|cO 2 I I) dC ?_
  repeat' (first
   | (refine SB.o (i:=4) rfl (cL call40 rfl<|dE E g3 _ _ acc ka hI hIl) dC (.inr (by rintro _ _ _ ⟨rfl,rfl,m1,rfl⟩; exact⟨by exact zb9 _,(by exact .cons _<|.refl _)⟩)) ?_; rintro _ _ _ ⟨rfl,rfl,m1,rfl⟩)
   | (refine SB.o (i:=4) rfl (cL call40 rfl<|dE E g3 _ _ acc ka hI hIl) dC (.inr (by rintro _ _ _ ⟨rfl,rfl,m1,rfl⟩; exact⟨by exact zb9 _,(by exact .refl _)⟩)) ?_; rintro _ _ _ ⟨rfl,rfl,m1,rfl⟩)
   | (refine SB.o (i:=5) rfl (cL call41 rfl<|bw E g3 _ _ l m1 hv4 hf) dC (.inr (by rintro _ gF _ ⟨rfl,hleF,rF,rfl,hcF⟩; exact⟨by assumption,(by exact .cons _<|.refl _)⟩)) ?_; rintro _ gF _ ⟨rfl,hleF,rF,rfl,hcF⟩; refine SX.u (i:=6) I kD (mV I) dC ?_; refine SX.u (i:=7) I kD (xT I I) dC ?_; refine SX.u (i:=8) I kD (xT I I) dC ?_)
   | (refine SB.o (i:=5) rfl (cL call41 rfl<|bw E g3 _ _ l m1 hv4 hf) dC (.inr (by rintro _ gF _ ⟨rfl,hleF,rF,rfl,hcF⟩; exact⟨by assumption,(by exact .refl _)⟩)) ?_; rintro _ gF _ ⟨rfl,hleF,rF,rfl,hcF⟩; refine SX.u (i:=6) I kD (mV I) dC ?_; refine SX.u (i:=7) I kD (xT I I) dC ?_; refine SX.u (i:=8) I kD (xT I I) dC ?_)
   | (refine SB.o (i:=9) rfl (aL zl8) dC (.inr (by rintro _ _ _ ⟨bF,rfl,rfl,rfl⟩; exact⟨by exact zb9 _,(by exact .cons _<|.refl _)⟩)) ?_; rintro _ _ _ ⟨bF,rfl,rfl,rfl⟩)
   | (refine SB.o (i:=9) rfl (aL zl8) dC (.inr (by rintro _ _ _ ⟨bF,rfl,rfl,rfl⟩; exact⟨by assumption,(by exact .cons _<|.refl _)⟩)) ?_; rintro _ _ _ ⟨bF,rfl,rfl,rfl⟩)
   | (refine SB.on (i:=10) I (sK 0 au I I I I I sB) (.inl dC) ?_; rintro _ _ _ ⟨rfl,rfl⟩; refine SX.u (i:=11) I kD (aS I) dC ?_)
   | refine zd9 4 9 kD ?_ ?_
   | refine zd9 5 9 kD ?_ ?_
   | refine zd8 9 kD ?_
   | refine zd8 10 kD ?_
   | refine zd8 5 kD ?_
   | refine zd8 4 kD ?_
   | (refine SX.nil kD ?_; exact za9 (bF,gF,(findC l m1).getD bD,rF) sB I I ⟨hleF,hcF,rC hf m1⟩))
 rintro ⟨b10,g4,X,⟨xi,xd,xp,xn,xc⟩⟩ ⟨hle4,⟨-,-,hxs⟩,hxl⟩;dsimp only at hle4 hxs hxl ⊢;have hxn:xn=X.sides.length:=zc2 hxs;subst hxn;have hv4:=hv4.mono hle4;have hI:=za5 hI hle4;refine SC.cut (ι:=Nat×PH×Cl×Rc) (fun i=>[(2,pp b2 0),(3,pp b3 0),(4,pp b4 0),(5,.slice qI acc.length dI),(7,.slice pV V.length cV),(8,.slice pW W.length cW),(9,vi n),(10,pp b10 0),(12,pp i.1 0)]) (fun i=>i.2.1) (fun i=>pt i.1 (.cells #[vi i.2.2.2.id,vi i.2.2.2.dim,.slice i.2.2.2.sv.p i.2.2.2.sv.n i.2.2.2.sv.c] 53 (0,0))::pt b10 (.cells #[vi xi,vi xd,.slice xp X.sides.length xc] 53 (0,0))::pt b4 (.cells #[vi 0,vi 0,vi 0,vi 0,vi 0,.slice none 0 0,.slice none 0 0] 35 (0,0))::pt b3 (.cells #[.slice p l.length c] 29 (0,0))::pt b2 (.cells #[vi k0,vi ka,vi kb,vi kc] 37 (0,0))::s) (fun i=>Le g4 i.2.1∧ar i.2.1 i.2.2.1 i.2.2.2∧i.2.2.1.sides.length<1099511627776) ?_ ?_
 ·refine SC.drawX [10] ze6 kR ?_;refine SX.q (i:=0) I kR (qV 2 aw ah I I I) dC<|SX.u (i:=1) I kR (mV I) dC<|SX.u (i:=2) I kR (fA hP I zT3 I) dC<|SX.q (i:=3) I kR (qL (v:=vi kb) iT3 I<|cO 3 I I) dC ?_
  repeat' (first
   | (refine SB.o (i:=4) rfl (cL call40 rfl<|dE E g4 _ _ acc kb hI hIl) dC (.inr (by rintro _ _ _ ⟨rfl,rfl,m1,rfl⟩; exact⟨by exact zb9 _,(by exact .cons _<|.refl _)⟩)) ?_; rintro _ _ _ ⟨rfl,rfl,m1,rfl⟩)
   | (refine SB.o (i:=4) rfl (cL call40 rfl<|dE E g4 _ _ acc kb hI hIl) dC (.inr (by rintro _ _ _ ⟨rfl,rfl,m1,rfl⟩; exact⟨by exact zb9 _,(by exact .refl _)⟩)) ?_; rintro _ _ _ ⟨rfl,rfl,m1,rfl⟩)
   | (refine SB.o (i:=5) rfl (cL call41 rfl<|bw E g4 _ _ l m1 hv4 hf) dC (.inr (by rintro _ gF _ ⟨rfl,hleF,rF,rfl,hcF⟩; exact⟨by assumption,(by exact .cons _<|.refl _)⟩)) ?_; rintro _ gF _ ⟨rfl,hleF,rF,rfl,hcF⟩; refine SX.u (i:=6) I kD (mV I) dC ?_; refine SX.u (i:=7) I kD (xT I I) dC ?_; refine SX.u (i:=8) I kD (xT I I) dC ?_)
   | (refine SB.o (i:=5) rfl (cL call41 rfl<|bw E g4 _ _ l m1 hv4 hf) dC (.inr (by rintro _ gF _ ⟨rfl,hleF,rF,rfl,hcF⟩; exact⟨by assumption,(by exact .refl _)⟩)) ?_; rintro _ gF _ ⟨rfl,hleF,rF,rfl,hcF⟩; refine SX.u (i:=6) I kD (mV I) dC ?_; refine SX.u (i:=7) I kD (xT I I) dC ?_; refine SX.u (i:=8) I kD (xT I I) dC ?_)
   | (refine SB.o (i:=9) rfl (aL zl8) dC (.inr (by rintro _ _ _ ⟨bF,rfl,rfl,rfl⟩; exact⟨by exact zb9 _,(by exact .cons _<|.refl _)⟩)) ?_; rintro _ _ _ ⟨bF,rfl,rfl,rfl⟩)
   | (refine SB.o (i:=9) rfl (aL zl8) dC (.inr (by rintro _ _ _ ⟨bF,rfl,rfl,rfl⟩; exact⟨by assumption,(by exact .cons _<|.refl _)⟩)) ?_; rintro _ _ _ ⟨bF,rfl,rfl,rfl⟩)
   | (refine SB.on (i:=10) I (sK 0 au I I I I I sB) (.inl dC) ?_; rintro _ _ _ ⟨rfl,rfl⟩; refine SX.u (i:=11) I kD (aS I) dC ?_)
   | refine zd9 4 9 kD ?_ ?_
   | refine zd9 5 9 kD ?_ ?_
   | refine zd8 9 kD ?_
   | refine zd8 10 kD ?_
   | refine zd8 5 kD ?_
   | refine zd8 4 kD ?_
   | (refine SX.nil kD ?_; exact za9 (bF,gF,(findC l m1).getD bD,rF) sB I I ⟨hleF,hcF,rC hf m1⟩))
 rintro ⟨b12,g5,Y,⟨yi,yd,yp,yn,yc⟩⟩ ⟨hle5,⟨-,-,hys⟩,hyl⟩;dsimp only at hle5 hys hyl ⊢;have hyn:yn=Y.sides.length:=zc2 hys;subst hyn;have hv5:=hv4.mono hle5;have hI5:=za5 hI hle5;have hle45:=hle4.trans hle5;have hV5:=za5 hV hle45;have hW5:=za5 hW hle45;have hxs5:=za5 hxs hle5;have hle15:=hle13.trans hle45;refine sQ<|rZ<|lU (fA hP I zT3 I)<|lK (qL (v:=vi k0) iT3 I<|cO 4 I I)<|lW (cL eJ I<|aC E g5 _ k0 10 dC) ?_;rintro _ _ _ ⟨rfl,rfl,rfl⟩;generalize a7 k0 10=kd at *;refine tZ<|bK<|rZ<|yE I<|aT I<|iP I (fun h0=>?_) (fun h0=>?_)
 ·refine sW I<|lU (za3 I<|bA35 _ _)<|oZ (sK 2 eW rfl rfl rfl rfl rfl<|by (repeat' (first | exact trivial | refine⟨by rfl,?_⟩))) ?_;refine tZ<|rE<|bR<|tR ?_;exact ST.retCD 2 s (.inl I) results13 I jh eW I I uR ⟨I,hle15,⟨1,n,0,0,0,[],[]⟩,⟨_,_,I,zc1 _ _,zc1 _ _⟩,by simp,by simp⟩
 ·refine rZ<|yE I<|aT I<|iP I (fun h1=>?_) (fun h1=>?_)
  ·refine sQ<|dW [13] [(0,2),(1,2),(2,2),(3,1),(6,2),(7,2),(8,1),(4,0),(5,2),(9,0),(10,2),(11,0),(12,2),(13,0)] ze6 kR<|yM I<|yM I<|pU I (fA hP I zT3 I)<|pK I (qL (v:=vi ka) iT3 I<|cO 4 I I)<|yM I<|pU I (fA hP I zT3 I)<|pK I (qL (v:=vi kb) iT3 I<|cO 4 I I)<|SP.o I (cL call40 I<|dE E g5 _ _ V ka hV5 hl0) dC (.inr iR) ?_;rintro _ _ _ ⟨rfl,rfl,a1,rfl⟩;refine pU I (za3 I<|buildS55 _ _)<|SP.o I (cL call40 I<|dE E g5 _ _ V kb hV5 hl0) dC (.inr iR) ?_;rintro _ _ _ ⟨rfl,rfl,a2,rfl⟩;refine pU I (za3 I<|buildS55 _ _)<|SP.o I (bS sty32 I I I (ae sB) dC) dC (.inr iR) ?_;rintro _ _ _ ⟨b88,rfl,rfl,rfl⟩;refine SP.freeze fun g6 hle6 hb6=>?_;have hs6:SlA encSide g6 (.slice (some ⟨b88,0,none⟩) 2 2) [⟨a1,1⟩,⟨a2,-1⟩]:=SlA.lit hb6 rfl rfl;refine pU I (za3 I<|bB35 _ _ _ _ _ _)<|SP.on rfl (sK 2 eW rfl rfl rfl rfl rfl<|by (repeat' (first | exact trivial | refine⟨by rfl,?_⟩))) (.inl dC) ?_;rintro _ _ _ ⟨rfl,rfl⟩;refine pN<|tN<|rE<|bR<|tR ?_;exact ST.retCD 2 s (.inl I) results13 I jh eW I I uR ⟨I,hle15.trans hle6,⟨1,n,1,0,0,[⟨a1,1⟩,⟨a2,-1⟩],[]⟩,⟨_,_,I,hs6,zc1 _ _⟩,by simp,by simp⟩
  ·refine rZ<|yE I<|aT I<|iP I (fun h2=>?_) (fun h2=>?_)
   ·refine SC.cut (ι:=Nat×Option Addr×Nat) (fun i=>[(2,pp b2 0),(4,pp b4 0),(14,pp i.1 0)]) (fun _=>g5) (fun i=>pt i.1 (.cells #[vi 1,vi n,vi xd,vi 0,vi 0,.slice i.2.1 X.sides.length i.2.2,.slice none 0 0] 35 (0,0))::rowA encSide 55 (.slice i.2.1 X.sides.length i.2.2) X.sides::pt b12 (.cells #[vi yi,vi yd,.slice yp Y.sides.length yc] 53 (0,0))::pt b10 (.cells #[vi xi,vi xd,.slice xp X.sides.length xc] 53 (0,0))::pt b4 (.cells #[vi 0,vi 0,vi 0,vi 0,vi 0,.slice none 0 0,.slice none 0 0] 35 (0,0))::pt b3 (.cells #[.slice p l.length c] 29 (0,0))::pt b2 (.cells #[vi k0,vi ka,vi kb,vi kc] 37 (0,0))::s) (fun _=>True) ?_ ?_
    ·refine SC.drawX [9] ze6 kR ?_;refine SX.u (i:=0) I kR (mV I) dC<|SX.u (i:=1) I kR (fA aq I zT3 I) dC<|SX.q (i:=2) I kR (qL (v:=vi xd) iT3 I<|cO (by exact 1) I I) dC ?_;refine SX.u (i:=4) I kR (fA aq I aJ I) dC<|SX.q (i:=5) I kR (qL (v:=.slice xp X.sides.length xc) aX I<|cO (by exact 1) I I) dC ?_;refine zd9 3 8 kR ?_ ?_
     ·refine SB.o (i:=3) I (bS sty32 I I I (ae trivial) dC) dC (.inr iR) ?_;rintro _ _ _ ⟨b95,rfl,rfl,rfl⟩;refine SX.drop (zj4 _ _) ?_;refine zd9 6 8 kR ?_ ?_
      ·refine SB.o (i:=6) I (SO.appNewA (e:=encSide) sty32 I I hxs5 oM oM) dC (.inr iR) ?_;rintro v98 _ _ ⟨rfl,rfl⟩;refine SX.facts fun ⟨w0,hw0⟩=>?_;obtain ⟨q8,d8,rfl⟩:=ag (e:=encSide) (l:=X.sides) (i:=0) hw0 rfl;clear hw0 w0
       first | refine SX.to (fun w hw=>At.perm hw<|zk4 (pt b14 _) _ _) ?_ | skip
       refine SX.u (i:=7) I kR (za3 I<|bB35 _ _ _ _ _ _) dC ?_;refine zd8 8 kR ?_
       ·refine SB.o (i:=8) I (aL zl9) dC (.inr iR) ?_;rintro _ _ _ ⟨b14,rfl,rfl,rfl⟩;refine zd8 9 kR ?_
        ·refine SB.on (i:=9) rfl (sK 0 eW rfl rfl rfl rfl rfl<|by (repeat' (first | exact trivial | refine⟨by rfl,?_⟩))) (.inl dC) ?_;rintro _ _ _ ⟨rfl,rfl⟩;refine SX.nil kR ?_;exact za9 (b14,q8,d8) sB I I trivial
      ·refine SB.o (i:=8) I (aL zl9) dC (.inr iR) ?_;rintro _ _ _ ⟨b14,rfl,rfl,rfl⟩;refine zd8 6 kR ?_
       ·refine SB.o (i:=6) I (SO.appNewA (e:=encSide) sty32 I I hxs5 oM oM) dC (.inr iR) ?_;rintro v98 _ _ ⟨rfl,rfl⟩;refine SX.facts fun ⟨w0,hw0⟩=>?_;obtain ⟨q8,d8,rfl⟩:=ag (e:=encSide) (l:=X.sides) (i:=0) hw0 rfl;clear hw0 w0
        first | refine SX.to (fun w hw=>At.perm hw<|zk4 (pt b14 _) _ _) ?_ | skip
        refine SX.u (i:=7) I kR (za3 I<|bB35 _ _ _ _ _ _) dC ?_;refine zd8 9 kR ?_
        ·refine SB.on (i:=9) rfl (sK 0 eW rfl rfl rfl rfl rfl<|by (repeat' (first | exact trivial | refine⟨by rfl,?_⟩))) (.inl dC) ?_;rintro _ _ _ ⟨rfl,rfl⟩;refine SX.nil kR ?_;exact za9 (b14,q8,d8) sB I I trivial
     ·refine SB.o (i:=8) I (aL zl9) dC (.inr iR) ?_;rintro _ _ _ ⟨b14,rfl,rfl,rfl⟩;refine zd8 3 kR ?_
      ·refine SB.o (i:=3) I (bS sty32 I I I (ae trivial) dC) dC (.inr iR) ?_;rintro _ _ _ ⟨b95,rfl,rfl,rfl⟩;refine SX.drop (zj4 _ _) ?_;refine zd8 6 kR ?_
       ·refine SB.o (i:=6) I (SO.appNewA (e:=encSide) sty32 I I hxs5 oM oM) dC (.inr iR) ?_;rintro v98 _ _ ⟨rfl,rfl⟩;refine SX.facts fun ⟨w0,hw0⟩=>?_;obtain ⟨q8,d8,rfl⟩:=ag (e:=encSide) (l:=X.sides) (i:=0) hw0 rfl;clear hw0 w0
        first | refine SX.to (fun w hw=>At.perm hw<|zk4 (pt b14 _) _ _) ?_ | skip
        refine SX.u (i:=7) I kR (za3 I<|bB35 _ _ _ _ _ _) dC ?_;refine zd8 9 kR ?_
        ·refine SB.on (i:=9) rfl (sK 0 eW rfl rfl rfl rfl rfl<|by (repeat' (first | exact trivial | refine⟨by rfl,?_⟩))) (.inl dC) ?_;rintro _ _ _ ⟨rfl,rfl⟩;refine SX.nil kR ?_;exact za9 (b14,q8,d8) sB I I trivial
    rintro ⟨b14,q8,d8⟩ -;try dsimp only
    refine SC.cut (ι:=Int) (fun _=>[(2,pp b2 0),(4,pp b4 0),(14,pp b14 0)]) (fun _=>g5) (fun d=>pt b14 (.cells #[vi 1,vi n,vi d,vi 0,vi 0,.slice q8 X.sides.length d8,.slice none 0 0] 35 (0,0))::rowA encSide 55 (.slice q8 X.sides.length d8) X.sides::pt b12 (.cells #[vi yi,vi yd,.slice yp Y.sides.length yc] 53 (0,0))::pt b10 (.cells #[vi xi,vi xd,.slice xp X.sides.length xc] 53 (0,0))::pt b4 (.cells #[vi 0,vi 0,vi 0,vi 0,vi 0,.slice none 0 0,.slice none 0 0] 35 (0,0))::pt b3 (.cells #[.slice p l.length c] 29 (0,0))::pt b2 (.cells #[vi k0,vi ka,vi kb,vi kc] 37 (0,0))::s) (fun _=>True) ?_ ?_
    ·refine rZ<|lU (fA hP I zT3 I)<|lK (qL (v:=vi kb) iT3 I<|cO 6 I I)<|lU (ze1 I I dC)<|yE I<|tZ<|iP I (fun hz=>?_) (fun hz=>?_)
     ·refine rG<|lU (fA aU rfl zT3 rfl)<|lK (qL (v:=vi xd) iT3 rfl<|cO 0 rfl rfl)<|lU (ze3 rfl rfl)<|lU (fA aU rfl zT3 rfl)<|oZ (SO.store1 0 zT3 rfl rfl rfl rfl (bE rfl)<|by rfl) ?_;refine nL ?_;exact za9 (IntKind.i64.wrap<|xd+1) sB I I trivial
     ·exact kP<|za9 xd sB I I trivial
    rintro ed -;try dsimp only
    refine SC.cut (ι:=List Side) (fun _=>[(4,pp b4 0),(14,pp b14 0)]) (fun _=>g5) (fun S=>pt b14 (.cells #[vi 1,vi n,vi ed,vi 0,vi 0,.slice q8 X.sides.length d8,.slice none 0 0] 35 (0,0))::rowA encSide 55 (.slice q8 X.sides.length d8) S::pt b12 (.cells #[vi yi,vi yd,.slice yp Y.sides.length yc] 53 (0,0))::pt b10 (.cells #[vi xi,vi xd,.slice xp X.sides.length xc] 53 (0,0))::pt b4 (.cells #[vi 0,vi 0,vi 0,vi 0,vi 0,.slice none 0 0,.slice none 0 0] 35 (0,0))::pt b3 (.cells #[.slice p l.length c] 29 (0,0))::pt b2 (.cells #[vi k0,vi ka,vi kb,vi kc] 37 (0,0))::s) (fun S=>S.length=X.sides.length) ?_ ?_
    ·refine SC.cutB 117 (decide (kb.tmod 9=4)&&decide (0<X.sides.length)) ?_ ?_
     ·refine rG<|lU (fA hP I zT3 I)<|lK (qL (v:=vi kb) iT3 I<|cO 6 I I)<|lU (ze1 I I dC)<|yE I<|lM I<|sP ?_ ?_
      ·intro h112;exact lY I I I (fA aU I aJ I)<|SL.gq (gT I I I dC) (qL (v:=.slice q8 X.sides.length d8) aX I<|cO 0 I I) dC<|lY I I I (eN aM I)<|lY I I I (gR I I)<|yP I<|nL<|zb1 (by (simp_all[bg]; done)) mI
      ·intro h112;exact yA I<|yA I<|yA I<|yA I<|yF I<|nL<|zb1 (by (simp_all[bg]; done)) mI
     refine iQ I (fun hq=>?_) (fun hq=>?_)
     ·simp only[zj6,zj9] at hq;have hg0:X.sides[0]?=some (X.sides[0]'hq.2):=gE hq.2;generalize X.sides[0]'hq.2=x0 at *;refine zd5 fun ⟨w0,hw0⟩=>?_;obtain ⟨bu,cap,hbu⟩:=aO (e:=encSide) (l:=X.sides) (i:=1) hw0 rfl oM;obtain ⟨rfl,rfl⟩:q8=some ⟨bu,0,none⟩∧d8=cap:=by injection hbu with h1 _ h2; exact⟨h1,h2⟩
      clear hw0 w0 hbu;refine dW [10] [(0,2),(1,1),(2,2),(3,1),(4,2),(5,2),(6,1),(7,2),(8,2),(9,2),(10,0)] ze6 kR<|pU I (fA aU I aJ I)<|pK I (qL (v:=.slice (some ⟨bu,0,none⟩) X.sides.length d8) aX I<|cO 0 I I)<|pU I (fA aU I aJ I)<|pK I (qL (v:=.slice (some ⟨bu,0,none⟩) X.sides.length d8) aX I<|cO 0 I I)<|pU I (iA aM aH I I I oM sL)<|pU I (fA bZ I zT3 I)<|pK I (aZ (e:=encSide) (a:=x0) (j:=0) (o:=1) (u:=vi x0.sign) iT3 I (zb7 1 I) hg0 I)<|pU I (SU.neg I)<|pU I (iA aM aH I I I oM sL)<|pU I (fA bZ I zT3 I)<|SP.on I (SO.partA (e:=encSide) (a:=x0) (j:=0) (o:=1) 1 ⟨x0.cell,IntKind.i64.wrap<|0 - x0.sign⟩ zT3 I I I hg0 I I dC I) (.inl dC) ?_;rintro _ _ _ ⟨rfl,rfl⟩;exact pN<|za9 (X.sides.set 0 ⟨x0.cell,IntKind.i64.wrap<|0 - x0.sign⟩) sB I I (by simp)
     ·exact kP<|za9 X.sides sB I I I
    rintro S hS;try dsimp only at hS ⊢
    refine rZ<|lK (qV 0 jh eW I I I)<|oZ (sK 4 eW rfl rfl rfl rfl rfl<|by (repeat' (first | exact trivial | refine⟨by rfl,?_⟩))) ?_;refine tZ<|rE<|bR<|tR ?_;rw[← hS];refine ST.perm (zk4 _ _ _) (fT fun g6 hle6 hs6=>?_);exact ST.retCD 3 s (.inl I) results13 I jh eW I I uR ⟨I,hle15.trans hle6,⟨1,n,ed,0,0,S,[]⟩,⟨_,_,I,hs6,zc1 _ _⟩,by dsimp only; omega,by simp⟩
   ·refine rZ<|yE I<|aT I<|iP I (fun h3=>?_) (fun h3=>?_)
    ·refine sW I<|lU (fA aq I zT3 I)<|lK (qL (v:=vi xd) iT3 I<|cO 1 I I)<|lU (ze3 I I)<|lU (fA aq I zT3 I)<|lK (qL (v:=vi xi) iT3 I<|cO 1 I I)<|lU (za3 I<|buildS55 _ _)<|lU (fA aq I zT3 I)<|lK (qL (v:=vi yi) iT3 I<|cO 0 I I)<|lU (za3 I<|buildS55 _ _)<|lW (bS sty32 I I I (ae sB) dC) ?_;rintro _ _ _ ⟨b88,rfl,rfl,rfl⟩;refine zb5 fun g6 hle6 hb6=>?_;have hs6:SlA encSide g6 (.slice (some ⟨b88,0,none⟩) 2 2) [⟨xi,1⟩,⟨yi,-1⟩]:=SlA.lit hb6 rfl rfl;refine lU (za3 I<|bB35 _ _ _ _ _ _)<|oZ (sK 2 eW rfl rfl rfl rfl rfl<|by (repeat' (first | exact trivial | refine⟨by rfl,?_⟩))) ?_;refine tZ<|rE<|bR<|tR ?_;exact ST.retCD 2 s (.inl I) results13 I jh eW I I uR ⟨I,hle15.trans hle6,⟨1,n,IntKind.i64.wrap<|xd+1,0,0,[⟨xi,1⟩,⟨yi,-1⟩],[]⟩,⟨_,_,I,hs6,zc1 _ _⟩,by simp,by simp⟩
    ·refine rZ<|yE I<|aT I<|iP I (fun h4=>?_) (fun h4=>?_)
     ·refine sQ<|rZ<|lU (fA hP I zT3 I)<|lK (qL (v:=vi kb) iT3 I<|cO 4 I I)<|lU (ze1 I I dC)<|lU (nQ I I)<|tZ<|iP I (fun hz=>?_) (fun hz=>?_)
      ·refine sQ<|dW [6] [(0,1),(2,2),(3,1),(1,0),(4,0),(5,2),(6,0)] ze6 kR<|pK I (qV 3 aw ah I I I)<|pU I (fA hP I zT3 I)<|pK I (qL (v:=vi ka) iT3 I<|cO 4 I I)<|SP.o I (cL call42 I<|sD E g5 _ _ l hv5 hf) dC (.inr iR) ?_;rintro _ g6 _ ⟨rfl,hle6,hT⟩;obtain ⟨pT,cT,rfl⟩:=za4 hT;refine SP.o I (cL call40 I<|dE E g6 _ _ (tw l) ka hT htl) dC (.inr iR) ?_;rintro _ _ _ ⟨rfl,rfl,a1,rfl⟩;refine pU I (za3 I<|bA35 _ _)<|SP.on rfl (sK 2 eW rfl rfl rfl rfl rfl<|by (repeat' (first | exact trivial | refine⟨by rfl,?_⟩))) (.inl dC) ?_;rintro _ _ _ ⟨rfl,rfl⟩;refine pN<|tN<|rE<|tR<|bR<|tR ?_;exact ST.retCD 2 s (.inl I) results13 I jh eW I I uR ⟨I,hle15.trans hle6,⟨2,a1,0,0,0,[],[]⟩,⟨_,_,I,zc1 _ _,zc1 _ _⟩,by simp,by simp⟩
      ·refine kP<|tN<|rZ<|lU (fA aq I zT3 I)<|lK (qL (v:=vi xi) iT3 I<|cO 1 I I)<|lU (za3 I<|bA35 _ _)<|oZ (sK 2 eW rfl rfl rfl rfl rfl<|by (repeat' (first | exact trivial | refine⟨by rfl,?_⟩))) ?_;refine tZ<|rE<|bR<|tR ?_;exact ST.retCD 2 s (.inl I) results13 I jh eW I I uR ⟨I,hle15,⟨2,xi,0,0,0,[],[]⟩,⟨_,_,I,zc1 _ _,zc1 _ _⟩,by simp,by simp⟩
     ·refine SC.cut (ι:=Unit) (fun _=>[(2,pp b2 0),(3,pp b3 0),(4,pp b4 0),(7,.slice pV V.length cV),(8,.slice pW W.length cW),(9,vi n),(10,pp b10 0),(12,pp b12 0),(70,vi kd),(158,vb<|decide (kd=5∨kd=6))]) (fun _=>g5) (fun _=>pt b12 (.cells #[vi yi,vi yd,.slice yp Y.sides.length yc] 53 (0,0))::pt b10 (.cells #[vi xi,vi xd,.slice xp X.sides.length xc] 53 (0,0))::pt b4 (.cells #[vi 0,vi 0,vi 0,vi 0,vi 0,.slice none 0 0,.slice none 0 0] 35 (0,0))::pt b3 (.cells #[.slice p l.length c] 29 (0,0))::pt b2 (.cells #[vi k0,vi ka,vi kb,vi kc] 37 (0,0))::s) (fun _=>True) ?_ ?_
      ·refine rZ<|yE I<|aT I<|iP I (fun h5=>?_) (fun h5=>?_)
       ·exact kP<|za9 () ⟨I,I,I,I,I,I,I,I,I,by rw[decide_eq_decide.2 (show (kd=5∨kd=6)↔kd=5 from ⟨fun _=>h5,.inl⟩)]; rfl,trivial⟩ rfl rfl trivial
       ·exact rG<|yE I<|lA I<|nL<|za9 () ⟨I,I,I,I,I,I,I,I,I,by rw[decide_eq_decide.2 (show (kd=5∨kd=6)↔kd=6 from ⟨fun h=>h.resolve_left h5,.inr⟩)]; rfl,trivial⟩ rfl rfl trivial
      rintro _ -;try dsimp only
      refine iP I (fun h56=>?_) (fun h56=>?_)
      ·refine SC.cut (ι:=Nat×Int) (fun i=>[(2,pp b2 0),(4,pp b4 0),(9,vi n),(10,pp b10 0),(15,pp i.1 0)]) (fun _=>g5) (fun i=>pt i.1 (.cells #[vi 3,vi i.2,vi 0,vi n,vi<|IntKind.i64.wrap<|n+1,.slice none 0 0,.slice none 0 0] 35 (0,0))::pt b12 (.cells #[vi yi,vi yd,.slice yp Y.sides.length yc] 53 (0,0))::pt b10 (.cells #[vi xi,vi xd,.slice xp X.sides.length xc] 53 (0,0))::pt b4 (.cells #[vi 0,vi 0,vi 0,vi 0,vi 0,.slice none 0 0,.slice none 0 0] 35 (0,0))::pt b3 (.cells #[.slice p l.length c] 29 (0,0))::pt b2 (.cells #[vi k0,vi ka,vi kb,vi kc] 37 (0,0))::s) (fun _=>True) ?_ ?_
       ·refine rG<|lM I<|lU (fA hP I zT3 I)<|lK (qL (v:=vi ka) iT3 I<|cO 4 I I)<|lW (cL call40 I<|dE E g5 _ _ W ka hW5 hl1) ?_;rintro _ _ _ ⟨rfl,rfl,a1,rfl⟩;refine lM I (lM I<|lU (ze3 I I)<|lU (za3 I<|bC35 _ _ _ _)<|bW (aL zl9) fun b15=>?_);refine oZ (sK 0 eW rfl rfl rfl rfl rfl<|by (repeat' (first | exact trivial | refine⟨by rfl,?_⟩))) ?_;refine nL ?_;exact za9 (b15,a1) sB I I trivial
       rintro ⟨b15,a1⟩ -;try dsimp only
       refine SC.cut (ι:=Int×Int×Int) (fun _=>[(4,pp b4 0),(15,pp b15 0)]) (fun _=>g5) (fun i=>pt b15 (.cells #[vi 3,vi i.1,vi 0,vi i.2.1,vi i.2.2,.slice none 0 0,.slice none 0 0] 35 (0,0))::pt b12 (.cells #[vi yi,vi yd,.slice yp Y.sides.length yc] 53 (0,0))::pt b10 (.cells #[vi xi,vi xd,.slice xp X.sides.length xc] 53 (0,0))::pt b4 (.cells #[vi 0,vi 0,vi 0,vi 0,vi 0,.slice none 0 0,.slice none 0 0] 35 (0,0))::pt b3 (.cells #[.slice p l.length c] 29 (0,0))::pt b2 (.cells #[vi k0,vi ka,vi kb,vi kc] 37 (0,0))::s) (fun _=>True) ?_ ?_
       ·refine rZ<|lU (fA hP I zT3 I)<|lK (qL (v:=vi kb) iT3 I<|cO 5 I I)<|lW (cL eJ I<|aC E g5 _ kb 12 dC) ?_;rintro _ _ _ ⟨rfl,rfl,rfl⟩;generalize a7 kb 12=kt at *;refine tZ<|bK<|rZ<|yE I<|aT I<|iP I (fun k0=>?_) (fun k0=>?_)
        ·refine rG<|lU (fA aq rfl zT3 rfl)<|lK (qL (v:=vi xi) iT3 rfl<|cO 2 rfl rfl)<|lU (fA aU rfl zT3 rfl)<|oZ (SO.store1 0 zT3 rfl rfl rfl rfl (bE rfl)<|by rfl) ?_;refine nL<|bN ?_;exact za9 (xi,n,IntKind.i64.wrap<|n+1) sB I I trivial
        ·refine rZ<|yE I<|aT I<|iP I (fun k1=>?_) (fun k1=>?_)
         ·refine rG<|lU (fA aU rfl zT3 rfl)<|lK (qL (v:=vi<|IntKind.i64.wrap<|n+1) iT3 rfl<|cO 0 rfl rfl)<|lU (fA aU rfl zT3 rfl)<|oZ (SO.store1 0 zT3 rfl rfl rfl rfl (bE rfl)<|by rfl) ?_;refine nL<|bN ?_;exact za9 (a1,IntKind.i64.wrap<|n+1,IntKind.i64.wrap<|n+1) sB I I trivial
         ·refine rZ<|yE I<|aT I<|iP I (fun k2=>?_) (fun k2=>?_)
          ·refine rG<|lU (fA hP rfl zT3 rfl)<|lK (qL (v:=vi ka) iT3 rfl<|cO 5 rfl rfl)<|lU (SU.neg rfl)<|lU (fA aU rfl zT3 rfl)<|oZ (SO.store1 0 zT3 rfl rfl rfl rfl (bE rfl)<|by rfl) ?_;refine nL<|bN ?_;exact za9 (a1,n,IntKind.i64.wrap<|0 - ka) sB I I trivial
          ·refine rZ<|yE I<|aT I<|iP I (fun k3=>?_) (fun k3=>?_)
           ·refine sW rfl<|lU (ze3 rfl rfl)<|lU (fA aU rfl zT3 rfl)<|oZ (SO.store1 0 zT3 rfl rfl rfl rfl (bE rfl)<|by rfl) ?_;refine tZ<|rG<|lM rfl<|lU (fA aU rfl zT3 rfl)<|oZ (SO.store1 0 zT3 rfl rfl rfl rfl (bE rfl)<|by rfl) ?_;refine nL<|bN ?_;exact za9 (a1,IntKind.i64.wrap<|n+1,n) sB I I trivial
           ·exact kP<|bN<|za9 (a1,n,IntKind.i64.wrap<|n+1) sB I I trivial
       rintro ⟨e1,e2,e3⟩ -;try dsimp only
       refine rZ<|lK (qV 0 jh eW I I I)<|oZ (sK 3 eW rfl rfl rfl rfl rfl<|by (repeat' (first | exact trivial | refine⟨by rfl,?_⟩))) ?_;refine tZ<|rE<|bR<|tR ?_;exact ST.retCD 3 s (.inl I) results13 I jh eW I I uR ⟨I,hle15,⟨3,e1,0,e2,e3,[],[]⟩,⟨_,_,I,zc1 _ _,zc1 _ _⟩,by simp,by simp⟩
      ·refine rZ<|yE I<|aT I<|iP I (fun h7=>?_) (fun h7=>?_)
       ·refine SC.cut (ι:=Nat×Option Addr×Nat×List Pr) (fun i=>[(2,pp b2 0),(3,pp b3 0),(4,pp b4 0),(7,.slice pV V.length cV),(8,.slice pW W.length cW),(16,pp i.1 0)]) (fun _=>g5) (fun i=>pt i.1 (.cells #[vi 4,vi 0,vi 0,vi 0,vi 0,.slice none 0 0,.slice i.2.1 i.2.2.2.length i.2.2.1] 35 (0,0))::rowA dJ 60 (.slice i.2.1 i.2.2.2.length i.2.2.1) i.2.2.2::pt b12 (.cells #[vi yi,vi yd,.slice yp Y.sides.length yc] 53 (0,0))::pt b10 (.cells #[vi xi,vi xd,.slice xp X.sides.length xc] 53 (0,0))::pt b4 (.cells #[vi 0,vi 0,vi 0,vi 0,vi 0,.slice none 0 0,.slice none 0 0] 35 (0,0))::pt b3 (.cells #[.slice p l.length c] 29 (0,0))::pt b2 (.cells #[vi k0,vi ka,vi kb,vi kc] 37 (0,0))::s) (fun i=>i.2.2.2.length≤1) ?_ ?_
        ·refine rG<|lU (fA aq I zT3 I)<|lK (qL (v:=vi xi) iT3 I<|cO 1 I I)<|lU (fA aq I zT3 I)<|lK (qL (v:=vi yi) iT3 I<|cO 0 I I)<|lU (za3 I<|build60 _ _)<|lW (bS sty33 I I I (ae ⟨I,trivial⟩) dC) ?_;rintro _ _ _ ⟨b203,rfl,rfl,rfl⟩;refine SL.to (fun w hw=>At.litRow (e:=dJ) (l:=[(xi,yi)]) (n:=0) hw I I dC) ?_;refine lU (za3 I<|bD35 _ _ _ _) (bW (aL zl9) fun b16=>?_);refine oZ (sK 0 eW rfl rfl rfl rfl rfl<|by (repeat' (first | exact trivial | refine⟨by rfl,?_⟩))) ?_;refine nL ?_;exact za9 (b16,some ⟨b203,0,none⟩,1,[(xi,yi)]) sB I I<|lR 1
        rintro ⟨b16,q6,d6,P6⟩ hP6;dsimp only at hP6 ⊢;refine SC.cut (ι:=Option Addr×Nat×List Pr) (fun _=>[(2,pp b2 0),(3,pp b3 0),(4,pp b4 0),(7,.slice pV V.length cV),(8,.slice pW W.length cW),(16,pp b16 0)]) (fun i=>g5) (fun i=>pt b16 (.cells #[vi 4,vi 0,vi 0,vi 0,vi 0,.slice none 0 0,.slice i.1 i.2.2.length i.2.1] 35 (0,0))::rowA dJ 60 (.slice i.1 i.2.2.length i.2.1) i.2.2::pt b12 (.cells #[vi yi,vi yd,.slice yp Y.sides.length yc] 53 (0,0))::pt b10 (.cells #[vi xi,vi xd,.slice xp X.sides.length xc] 53 (0,0))::pt b4 (.cells #[vi 0,vi 0,vi 0,vi 0,vi 0,.slice none 0 0,.slice none 0 0] 35 (0,0))::pt b3 (.cells #[.slice p l.length c] 29 (0,0))::pt b2 (.cells #[vi k0,vi ka,vi kb,vi kc] 37 (0,0))::s) (fun i=>i.2.2.length≤1) ?_ ?_
        ·refine rZ<|lU (fA hP I zT3 I)<|lK (qL (v:=vi kb) iT3 I<|cO 6 I I)<|lU (ze1 I I dC)<|yE I<|tZ<|iP I (fun hz=>?_) (fun hz=>?_)
         ·refine dW [12] [(0,2),(1,2),(2,1),(4,2),(5,2),(6,1),(7,2),(3,0),(8,0),(9,2),(10,0),(11,2),(12,0)] ze6 kR<|yM I<|pU I (fA hP I zT3 I)<|pK I (qL (v:=vi ka) iT3 I<|cO 6 I I)<|yM I<|pU I (fA hP I zT3 I)<|pK I (qL (v:=vi kb) iT3 I<|cO 6 I I)<|pU I (SU.quo I I dC)<|SP.o I (cL call40 I<|dE E g5 _ _ V ka hV5 hl0) dC (.inr iR) ?_;rintro _ _ _ ⟨rfl,rfl,a1,rfl⟩;refine SP.o I (cL call40 I<|dE E g5 _ _ V _ hV5 hl0) dC (.inr iR) ?_;rintro _ _ _ ⟨rfl,rfl,a2,rfl⟩;refine pU I (za3 I<|build60 _ _)<|SP.o I (bS sty33 I I I (ae ⟨I,trivial⟩) dC) dC (.inr iR) ?_;rintro _ _ _ ⟨b219,rfl,rfl,rfl⟩;refine SP.to (fun w hw=>At.litRow (e:=dJ) (l:=[(a1,a2)]) (n:=0) hw I I dC) ?_;refine SP.drop (.cons_cons _<|.cons_cons _<|.cons _<|.refl _) ?_;refine SP.to (fun w hw=>At.perm hw<|zk4 (pt b16 _) _ _) ?_;refine pU rfl (fA aU rfl jd rfl)<|SP.on rfl (SO.store1 0 jd rfl rfl rfl rfl (bE rfl)<|by rfl) (.inl dC) ?_;rintro _ _ _ ⟨rfl,rfl⟩;refine pN ?_;exact za9 (some ⟨b219,0,none⟩,1,[(a1,a2)]) sB I I<|lR 1
         ·exact kP<|za9 (q6,d6,P6) sB I I hP6
        clear hP6;rintro ⟨q6,d6,P6⟩ hP6;dsimp only at hP6 ⊢;refine SC.cut (ι:=PH×Option Addr×Nat×List Pr) (fun _=>[(2,pp b2 0),(3,pp b3 0),(4,pp b4 0),(7,.slice pV V.length cV),(8,.slice pW W.length cW),(16,pp b16 0)]) (fun i=>i.1) (fun i=>pt b16 (.cells #[vi 4,vi 0,vi 0,vi 0,vi 0,.slice none 0 0,.slice i.2.1 i.2.2.2.length i.2.2.1] 35 (0,0))::rowA dJ 60 (.slice i.2.1 i.2.2.2.length i.2.2.1) i.2.2.2::pt b12 (.cells #[vi yi,vi yd,.slice yp Y.sides.length yc] 53 (0,0))::pt b10 (.cells #[vi xi,vi xd,.slice xp X.sides.length xc] 53 (0,0))::pt b4 (.cells #[vi 0,vi 0,vi 0,vi 0,vi 0,.slice none 0 0,.slice none 0 0] 35 (0,0))::pt b3 (.cells #[.slice p l.length c] 29 (0,0))::pt b2 (.cells #[vi k0,vi ka,vi kb,vi kc] 37 (0,0))::s) (fun i=>Le g5 i.1∧i.2.2.2.length≤1) ?_ ?_
        ·refine rZ<|lU (fA hP I zT3 I)<|lK (qL (v:=vi kb) iT3 I<|cO 6 I I)<|lU (ze1 I I dC)<|yE I<|tZ<|iP I (fun hz=>?_) (fun hz=>?_)
         ·refine rG<|lK (qV 5 aw ah I I I)<|lU (fA hP I zT3 I)<|lK (qL (v:=vi ka) iT3 I<|cO 6 I I)<|lW (cL call43 I<|wM E g5 _ _ l ka hv5 hf) ?_;rintro v228 g6 _ ⟨Q6,rfl,hle6,hQ6⟩;refine zd4 fun ⟨w0,hw0⟩=>?_;obtain ⟨q7,d7,rfl⟩:=ag (e:=dJ) (l:=Q6) (i:=0) hw0 rfl;clear hw0 w0;refine SL.drop (.cons_cons _<|.cons_cons _<|.cons _<|.refl _) ?_;refine SL.to (fun w hw=>At.perm hw<|zk4 (pt b16 _) _ _) ?_;refine lU (fA aU rfl jd rfl)<|oZ (SO.store1 0 jd rfl rfl rfl rfl (bE rfl)<|by rfl) ?_;refine nL ?_;exact za9 (g6,q7,d7,Q6) sB I I ⟨hle6,hQ6⟩
         ·exact kP<|za9 (g5,q6,d6,P6) sB I I ⟨zb9 _,hP6⟩
        clear hP6;rintro ⟨g6,q6,d6,P6⟩ ⟨hle6,hP6⟩;dsimp only at hle6 hP6 ⊢;have hV6:=za5 hV5 hle6;have hW6:=za5 hW5 hle6;refine SC.cut (ι:=PH×Option Addr×Nat×List Pr) (fun _=>[(4,pp b4 0),(16,pp b16 0)]) (fun i=>i.1) (fun i=>pt b16 (.cells #[vi 4,vi 0,vi 0,vi 0,vi 0,.slice none 0 0,.slice i.2.1 i.2.2.2.length i.2.2.1] 35 (0,0))::rowA dJ 60 (.slice i.2.1 i.2.2.2.length i.2.2.1) i.2.2.2::pt b12 (.cells #[vi yi,vi yd,.slice yp Y.sides.length yc] 53 (0,0))::pt b10 (.cells #[vi xi,vi xd,.slice xp X.sides.length xc] 53 (0,0))::pt b4 (.cells #[vi 0,vi 0,vi 0,vi 0,vi 0,.slice none 0 0,.slice none 0 0] 35 (0,0))::pt b3 (.cells #[.slice p l.length c] 29 (0,0))::pt b2 (.cells #[vi k0,vi ka,vi kb,vi kc] 37 (0,0))::s) (fun i=>i.1=g6∧i.2.2.2.length≤2) ?_ ?_
        ·refine rZ<|lU (fA hP I zT3 I)<|lK (qL (v:=vi kc) iT3 I<|cO 6 I I)<|lU (ze1 I I dC)<|yE I<|tZ<|iP I (fun hz=>?_) (fun hz=>?_)
         ·refine dW [12,14] [(0,2),(1,1),(2,2),(3,2),(4,1),(6,2),(7,2),(8,1),(5,0),(9,0),(10,2),(11,0),(12,0),(13,2),(14,0)] ze6 kR<|pU I (fA aU I jd I)<|pK I (qL (v:=.slice q6 P6.length d6) lk I<|cO 0 I I)<|yM I<|pU I (fA hP I zT3 I)<|pK I (qL (v:=vi ka) iT3 I<|cO 6 I I)<|yM I<|pU I (fA hP I zT3 I)<|pK I (qL (v:=vi kb) iT3 I<|cO 6 I I)<|SP.o I (cL call40 I<|dE E g6 _ _ W ka hW6 hl1) dC (.inr iR) ?_;rintro _ _ _ ⟨rfl,rfl,a1,rfl⟩;refine SP.o I (cL call40 I<|dE E g6 _ _ W kb hW6 hl1) dC (.inr iR) ?_;rintro _ _ _ ⟨rfl,rfl,a2,rfl⟩;refine pU I (za3 I<|build60 _ _)<|SP.o I (bS sty33 I I I (ae ⟨I,trivial⟩) dC) dC (.inr iR) ?_;rintro _ _ _ ⟨b245,rfl,rfl,rfl⟩;refine SP.o I (aP (e:=dJ) (l:=P6) 1 (a1,a2) sty33 I I I I I oM oM) dC (.inl dC) ?_;rintro v246 _ _ ⟨rfl,rfl⟩;refine zd3 fun ⟨w0,hw0⟩=>?_;obtain ⟨q7,d7,rfl⟩:=ag (e:=dJ) (l:=P6++[(a1,a2)]) (i:=1) hw0 rfl;clear hw0 w0;refine pU rfl (fA aU rfl jd rfl)<|SP.on rfl (SO.store1 0 jd rfl rfl rfl rfl (bE rfl)<|by rfl) (.inl dC) ?_;rintro _ _ _ ⟨rfl,rfl⟩;refine pN ?_;exact za9 (g6,q7,d7,P6++[(a1,a2)]) sB I I ⟨I,by dsimp only; rw[ze8,zf1]; omega⟩
         ·exact kP<|za9 (g6,q6,d6,P6) sB I I ⟨I,by dsimp only; omega⟩
        clear hP6;rintro ⟨g7,q6,d6,P6⟩ ⟨hg7,hP6⟩;dsimp only at hg7 hP6 ⊢;subst hg7;refine rZ<|lK (qV 0 jh eW I I I)<|oZ (sK 4 eW rfl rfl rfl rfl rfl<|by (repeat' (first | exact trivial | refine⟨by rfl,?_⟩))) ?_;refine tZ (rE<|bR<|tR<|ST.perm (zk4 _ _ _)<|fT fun g8 hle8 hs8=>?_);exact ST.retCD 3 s (.inl I) results13 I jh eW I I uR ⟨I,hle15.trans<|hle6.trans hle8,⟨4,0,0,0,0,[],P6⟩,⟨_,_,I,zc1 _ _,hs8⟩,by simp,by dsimp only; omega⟩
       ·refine rZ<|yE I<|aT I<|iP I (fun h8=>?_) (fun h8=>?_)
        ·refine rZ<|lK (qV 3 aw ah I I I)<|lW (cL call44 I<|ui E g5 _ _ l hv5 hf) ?_;rintro v252 g6 _ ⟨rfl,hle6,F8,hF8,hFl⟩;obtain ⟨pF,cF,rfl⟩:=za4 hF8;have hle16:=hle15.trans hle6;refine aT I<|SC.cut (ι:=Unit) (fun _=>[(4,pp b4 0),(10,pp b10 0),(12,pp b12 0)]) (fun _=>g6) (fun _=>pt b12 (.cells #[vi yi,vi yd,.slice yp Y.sides.length yc] 53 (0,0))::pt b10 (.cells #[vi xi,vi xd,.slice xp X.sides.length xc] 53 (0,0))::pt b4 (.cells #[vi 0,vi 0,vi 0,vi 0,vi 0,.slice none 0 0,.slice none 0 0] 35 (0,0))::pt b3 (.cells #[.slice p l.length c] 29 (0,0))::pt b2 (.cells #[vi k0,vi ka,vi kb,vi kc] 37 (0,0))::s) (fun _=>True) ?_ ?_
         ·refine SC.cutB 261 (decide (0<F8.length)&&decide (kb.tmod 5≠0)) ?_ ?_
          ·refine rG<|lM I<|lU (eN je I)<|lU (gR I I)<|lM I<|sP ?_ ?_
           ·intro h256;exact lY I I I (fA hP I zT3 I)<|SL.gq (gT I I I dC) (qL (v:=vi kb) iT3 I<|cO 4 I I) dC<|lY I I I (ze1 I I dC)<|lY I I I (nQ I I)<|yP I<|nL<|zb1 (by (simp_all[bg]; done)) mI
           ·intro h256;exact yA I<|yA I<|yA I<|yA I<|yF I<|nL<|zb1 (by (simp_all[bg]; done)) mI
          refine iQ I (fun hq=>?_) (fun hq=>?_)
          ·simp only[zj6,zj9] at hq;obtain ⟨hm1,hm2⟩:=jq ka F8.length oM oM;have hbF:=za6 hF8 hq.1;have hgF:F8[(a7 ka F8.length).toNat]?=some F8[(a7 ka F8.length).toNat]:=gE hm2;generalize F8[(a7 ka F8.length).toNat]=pr at *;obtain ⟨p1,p2⟩:=pr;refine sW I<|lU (fA hP I zT3 I)<|lK (qL (v:=vi ka) iT3 I<|cO 4 I I)<|lM I<|lU (eN je I)<|lW (cL eJ I<|aC E g6 _ ka F8.length oM) ?_;rintro _ _ _ ⟨rfl,rfl,rfl⟩;rw[hm1];refine lU (iA je iV I I hbF oM sL) (lK (eA isAgg60 iV I (za7 hF8) hgF)<|bW (aL zeroValue60) fun b18=>?_);refine oZ (sK 0 iV I I I I I sB)<|tZ<|rZ<|lU (iB gC zT3 I I dC dC)<|lK (qL (v:=vi p1) iT3 I<|cO 0 I I)<|lU (iB gC zT3 I I dC dC)<|lK (qL (v:=vi p2) iT3 I<|cO 0 I I)<|lU (za3 I<|bE35 _ _ _)<|oZ (sK 3 eW rfl rfl rfl rfl rfl<|by (repeat' (first | exact trivial | refine⟨by rfl,?_⟩))) ?_;refine tZ<|rE<|tR<|bR<|tR ?_;exact ST.retCD 3 s (.inl I) results13 I jh eW I I uR ⟨I,hle16,⟨5,p1,0,0,p2,[],[]⟩,⟨_,_,I,zc1 _ _,zc1 _ _⟩,by simp,by simp⟩
          ·exact kP<|za9 () sB I I trivial
         rintro _ -;try dsimp only
         refine rZ<|lU (fA aq I zT3 I)<|lK (qL (v:=vi xi) iT3 I<|cO 1 I I)<|lU (fA aq I zT3 I)<|lK (qL (v:=vi yi) iT3 I<|cO 0 I I)<|lU (za3 I<|bE35 _ _ _)<|oZ (sK 2 eW rfl rfl rfl rfl rfl<|by (repeat' (first | exact trivial | refine⟨by rfl,?_⟩))) ?_;refine tZ<|rE<|bR<|tR ?_;exact ST.retCD 2 s (.inl I) results13 I jh eW I I uR ⟨I,hle16,⟨5,xi,0,0,yi,[],[]⟩,⟨_,_,I,zc1 _ _,zc1 _ _⟩,by simp,by simp⟩
        ·refine kP<|bN<|tN<|rZ<|lU (fA hP I zT3 I)<|lK (qL (v:=vi ka) iT3 I<|cO 4 I I)<|lU (ze1 I I dC)<|lU (SU.subW I I)<|lU (fA hP I zT3 I)<|lK (qL (v:=vi kb) iT3 I<|cO 4 I I)<|lU (fA hP I zT3 I)<|lK (qL (v:=vi kc) iT3 I<|cO 4 I I)<|lU (ze1 I I dC)<|lU (fA hP I zT3 I)<|lK (qL (v:=vi ka) iT3 I<|cO 4 I I)<|lU (fA hP I zT3 I)<|lK (qL (v:=vi kc) iT3 I<|cO 4 I I)<|lU (fA hP I zT3 I)<|lK (qL (v:=vi kb) iT3 I<|cO 4 I I)<|lU (za3 I<|buildS55 _ _)<|lW (bS sty32 I I I (ae ⟨I,trivial⟩) dC) ?_;rintro _ _ _ ⟨b296,rfl,rfl,rfl⟩;refine zb5 fun g6 hle6 hb6=>?_;have hs6:SlA encSide g6 (.slice (some ⟨b296,0,none⟩) 1 1) [⟨kb,1⟩]:=SlA.lit hb6 rfl rfl;refine lU (fA hP I zT3 I)<|lK (qL (v:=vi ka) iT3 I<|cO 4 I I)<|lU (fA hP I zT3 I)<|lK (qL (v:=vi kc) iT3 I<|cO 4 I I)<|lU (za3 I<|build60 _ _)<|lW (bS sty33 I I I (ae ⟨I,trivial⟩) dC) ?_;rintro _ _ _ ⟨b302,rfl,rfl,rfl⟩;refine zb5 fun g7 hle7 hb7=>?_;have hs7:SlA dJ g7 (.slice (some ⟨b302,0,none⟩) 1 1) [(ka,kc)]:=SlA.lit hb7 rfl rfl;refine lU (za3 I<|bF35 _ _ _ _ _ _ _ _ _ _ _)<|oZ (sK 2 eW rfl rfl rfl rfl rfl<|by (repeat' (first | exact trivial | refine⟨by rfl,?_⟩))) ?_;refine tZ<|rE ?_;exact ST.retCD 2 s (.inl I) results13 I jh eW I I uR ⟨I,hle15.trans<|hle6.trans hle7,⟨_,kb,_,ka,kc,[⟨kb,1⟩],[(ka,kc)]⟩,⟨_,_,I,za5 hs6 hle7,hs7⟩,by simp,by simp⟩
set_option maxHeartbeats 1000000
theorem Tryz.sty67:STy Tryz.prog 67 46 2 32 (.agg #[.slice none 0 0,vb false]):=⟨underlying67,⟨t46,by kernel_rfl,by kernel_rfl,by kernel_rfl,by kernel_rfl⟩,rfl,by decide⟩
theorem Tryz.sty63:STy Tryz.prog 63 35 7 88 (.agg #[vi 0,vi 0,vi 0,vi 0,vi 0,.slice none 0 0,.slice none 0 0]):=⟨underlying63,⟨t35,by kernel_rfl,by kernel_rfl,by kernel_rfl,by kernel_rfl⟩,rfl,by decide⟩
structure Er where
 kind:Int
 cell:Int
 dim:Int
 new:Int
 other:Int
 sv:Sv
 pv:Sv
def sa:Enc Er 7:=⟨fun r=>[vi r.kind,vi r.cell,vi r.dim,vi r.new,vi r.other,.slice r.sv.p r.sv.n r.sv.c,.slice r.pv.p r.pv.n r.pv.c],fun _=>rfl,fun _ u hu=>by simp at hu; rcases hu with rfl | rfl | rfl | rfl | rfl | rfl | rfl <;> rfl,by decide⟩
def erv (r:Er):Value:=.agg (sa.enc r).toArray
def EdK (g:PH)(e:Ed)(r:Er):Prop:=EdR g (erv r) e
theorem EdK.mono {g g':PH}(hl:Le g g'){e:Ed}{r:Er}(h:EdK g e r):EdK g' e r:=EdR.mono h hl
theorem EdR.rc {g:PH}{v:Value}{e:Ed}(h:EdR g v e):∃ r:Er,v=erv r∧EdK g e r:=by
 obtain ⟨sv,pv,rfl,h1,h2⟩:=h;obtain ⟨p,c,rfl⟩:=za4 h1;obtain ⟨q,d,rfl⟩:=za4 h2;exact⟨⟨e.kind,e.cell,e.dim,e.new,e.other,⟨p,e.sides.length,c⟩,⟨q,e.pairs.length,d⟩⟩,I,_,_,I,h1,h2⟩
def EdS (e:Ed):Prop:=e.sides.length<1099511627776∧e.pairs.length≤3
def Eds (g:PH)(v:Value)(l:List Ed):Prop:=∃ rs,SlA sa g v rs∧aA (EdK g) l rs
theorem Eds.mono {g g':PH}{v:Value}{l:List Ed}(h:Eds g v l)(hl:Le g g'):Eds g' v l:=by
 obtain ⟨rs,h1,h2⟩:=h;exact⟨rs,za5 h1 hl,h2.mono fun _ _=>EdK.mono hl⟩
theorem Eds.form {g:PH}{v:Value}{l:List Ed}(h:Eds g v l):∃ p c,v = .slice p l.length c:=by
 obtain ⟨rs,h1,h2⟩:=h;rw[h2.length];exact za4 h1
theorem Eds.nil (g:PH):Eds g (.slice none 0 0) []:=⟨[],zc1 g _,trivial⟩
structure Sr where
 sv:Sv
 bk:Bool
abbrev Stp:=List (Int×List Tm)×Bool
def m8:Enc Sr 2:=⟨fun r=>[.slice r.sv.p r.sv.n r.sv.c,vb r.bk],fun _=>rfl,fun _ u hu=>by simp at hu; rcases hu with rfl | rfl <;> rfl,by decide⟩
def srv (r:Sr):Value:=.agg (m8.enc r).toArray
def StK (g:PH)(x:Stp)(r:Sr):Prop:=r.bk=x.2∧Ims g (.slice r.sv.p r.sv.n r.sv.c) x.1
theorem StK.mono {g g':PH}(hl:Le g g'){x:Stp}{r:Sr}(h:StK g x r):StK g' x r:=⟨h.1,h.2.mono hl⟩
def Sts (g:PH)(v:Value)(l:List Stp):Prop:=∃ rs,SlA m8 g v rs∧aA (StK g) l rs
theorem Sts.mono {g g':PH}{v:Value}{l:List Stp}(h:Sts g v l)(hl:Le g g'):Sts g' v l:=by
 obtain ⟨rs,h1,h2⟩:=h;exact⟨rs,za5 h1 hl,h2.mono fun _ _=>StK.mono hl⟩
theorem Sts.nil (g:PH):Sts g (.slice none 0 0) []:=⟨[],zc1 g _,trivial⟩
def imO (l:List Cl)(e:Ed):Stp:=if (c4 l e).1=0 then (sY l e,bkK e) else ([],false)
theorem fj.one {l:List Cl}{e:Ed}{r:Value}{g:PH}(h:fj (c4 l e).1 (c4 l e).2 (sY l e) (bkK e) r g) :
  ∃ u:Sv,∃ x:Sr,r = .tuple #[.agg #[.slice u.p u.n u.c],srv x,vi (c4 l e).1]∧ao g (.slice u.p u.n u.c) (c4 l e).2∧StK g (imO l e) x:=by
 obtain ⟨u,p,n,c,b,h1,h2,h3,h4⟩:=h;obtain ⟨q,d,rfl⟩:=h2.form;refine⟨⟨q,_,d⟩,⟨⟨p,n,c⟩,b⟩,h1,h2,?_⟩;unfold imO;by_cases h0:(c4 l e).1=0
 ·rw[zg4 h0]; exact h3 h0
 ·rw[zg3 h0]; exact h4 h0
def StS (x:Stp):Prop:=x.1.length≤4000∧∀ p∈x.1,p.2.length≤64
theorem An {A:List Cl}(h:Rt A)(e:Ed)(k:Int):(sZ A e k).length≤64:=by
 unfold sZ;split
 ·unfold iM; split
  ·unfold cd; split <;> simp
  ·simp
 split
 ·unfold gV; split <;> simp
 split
 ·unfold mD; split
  ·unfold cU;rw[ze9];refine zl2 (zc6 _ _) ?_
   rcases h.getD e.other with h1 | h1
   ·first | (rw[h1]; decide) | (rw[h.findC,h1]; decide)
   ·first | exact h.few64 h1 | (rw[h.findC]; exact h.few64 h1)
  ·split <;> simp
 ·simp
theorem nj (l:List Cl)(e:Ed):StS (imO l e):=by
 unfold imO;by_cases h0:(c4 l e).1=0
 ·rw[zg4 h0];have hA:=wQ (te h0).2.1;refine⟨?_,fun p hp=>?_⟩
  ·show (sY l e).length≤4000;unfold sY;rw[ze9];split
   ·exact AJ l e
   ·exact hA.few
  ·have hp':p∈sY l e:=hp;unfold sY at hp';obtain ⟨c,_,rfl⟩:=zf5.1 hp';exact An hA e c.id
 ·rw[zg3 h0];exact⟨by simp,by simp⟩
def od:List Cl→List Stp→Nat→List Ed→(Int×Int)×List Cl×List Stp
 | A,ss,_,[]=>((0,0),A,ss)
 | A,ss,i,e::es=>if (c4 A e).1=0 then od (c4 A e).2 (ss++[imO A e]) (i+1) es else (((c4 A e).1,(i:Int)),[],[])
def mA (l:List Cl)(es:List Ed):(Int×Int)×List Cl×List Stp:=if 1000<es.length then ((2,0),[],[]) else if (aN l).2≠0 then ((1,0),[],[]) else od (aa l) [] 0 es
def vB (R:(Int×Int)×List Cl×List Stp)(r:Value)(g:PH):Prop:=∃ u p n c,r = .tuple #[.agg #[u],.slice p n c,vi R.1.2,vi R.1.1]∧ao g u R.2.1∧Sts g (.slice p n c) R.2.2
theorem wI {es:List Ed}:∀ {A:List Cl} {ss:List Stp} {i:Nat},bo A→ss.length+es.length≤1000→(∀ x∈ss,StS x)→bo (od A ss i es).2.1∧(od A ss i es).2.2.length≤1000∧∀ x∈(od A ss i es).2.2,StS x:=by
 induction es with
 | nil=>intro A ss i hA hl hs; exact⟨hA,by show ss.length≤1000; simpa using hl,hs⟩
 | cons e es ih =>
  intro A ss i hA hl hs;unfold od;split
  ·refine ih (jm A e) (by simp at hl ⊢; omega) fun x hx=>?_
   rcases zf6.1 hx with h | h
   ·exact hs x h
   ·simp at h; subst h; exact nj A e
  ·exact⟨⟨by simp,by simp⟩,by simp,by simp⟩
theorem wJ {l:List Cl}{es:List Ed}(hf:bo l):bo (mA l es).2.1∧(mA l es).2.2.length≤1000∧∀ x∈(mA l es).2.2,StS x:=by
 unfold mA;split
 ·exact⟨⟨by simp,by simp⟩,by simp,by simp⟩
 ·split
  ·exact⟨⟨by simp,by simp⟩,by simp,by simp⟩
  ·exact wI (bJ hf) (by simp; omega) (by simp)
open Go.ChangeShapes Go.WideShapes Go.ChangeAt Go.RowKit
set_option maxRecDepth 100000
abbrev Ac:=Int×Int×Int×Int
def om:Enc Ac 4:=⟨fun a=>[vi a.1,vi a.2.1,vi a.2.2.1,vi a.2.2.2],fun _=>rfl,fun _ u hu=>by simp at hu; rcases hu with rfl | rfl | rfl | rfl <;> rfl,by decide⟩
theorem BD {W:World}{k:Nat}{a:Addr}{len cap:Nat}{xs:List Value}(hl:len≤cap)(hx:xs.length=len * k)(hc:∀ i x,xs[i]?=some x→W.cell? (a.add i)=some x):Sl (qj W) k (.slice (some a) len cap) len xs:=by
 refine⟨some a,cap,I,⟨hx,hl⟩,fun hne=>?_⟩;obtain ⟨b,o,sp⟩:=a;have h0:0<xs.length:=List.length_pos_iff.2 hne;have hc0:=hc 0 xs[0] (gE h0);have hsp:sp=none:=by simpa [Addr.add] using World.cell?_spot hc0
 subst hsp;have hadd:∀ i,(⟨b,o,none⟩:Addr).add i=⟨b,o+i,none⟩:=fun i=>by unfold Addr.add; split <;> simp_all
 simp only[hadd] at hc;have hcell:∀ i x,xs[i]?=some x→∃ cs T fr,W.heap[b]?=some (.cells cs T fr)∧cs[o+i]?=some x:=fun i x hi=>by
  have h1:=hc i x hi;unfold World.cell? at h1;split at h1
  ·rename_i cs T fr hh;exact⟨cs,T,fr,hh,by simpa using h1⟩
  ·cases h1
 obtain ⟨cs,T,fr,hb,_⟩:=hcell 0 xs[0] (gE h0);refine⟨b,o,cs,T,fr,I,hb,fun j x hj=>?_⟩;obtain ⟨cs',T',fr',hb',h2⟩:=hcell j x hj;rw[hb] at hb';cases hb';exact h2
theorem y8 {α:Type}{k:Nat}(e:Enc α k){l:List α}{j:Nat}{x:Value}(h:(l.flatMap e.enc)[j]?=some x):∃ i a,l[i]?=some a∧j=i * k+j % k∧j % k<k∧(e.enc a)[j % k]?=some x:=by
 have hj:=(zf8.1 h).1;rw[e.length] at hj;have hk:=e.pos;have h1:j / k<l.length:=by rw[Nat.div_lt_iff_lt_mul hk]; exact hj
 have h2:j % k<k:=Nat.mod_lt _ hk;have h3:j=j / k * k+j % k:=by rw[Nat.mul_comm]; exact (Nat.div_add_mod j k).symm
 refine⟨j / k,l[j / k],gE h1,h3,h2,?_⟩;have h4:(e.enc l[j / k])[j % k]?=some ((e.enc l[j / k])[j % k]'(by rw[e.len]; exact h2)):=gE _;have h5:=e.get (gE h1) h4;rw[← h3,h] at h5;rw[h4,← h5]
section
variable {H:Type}{enc:TypeId×Value→H}{W:World}{base:Nat}{spare:Nat→Bool}{hd:Bool}
theorem Tryz.cells37:Tryz.prog.cellsOf 37=4:=by kernel_rfl
theorem CN {fuel:Nat}{cs:List Value}{x:DataW H×List MemPlace}(h:DataW.trod enc Tryz.prog W base spare hd fuel 37 cs=some x):∃ a:Ac,cs=om.enc a:=by
 obtain ⟨y0,y1,y2,y3,n,_,hl,h0,h1,h2,h3⟩:=Go.Joins.trod_struct4 hP h;rw[cells37] at hl
 match cs,hl with
 | [c0,c1,c2,c3],_ =>
  rw[cells3] at h0 h1 h2 h3;obtain ⟨a,e0,_,_⟩:=DataW.trod_int uT3 h0;obtain ⟨b,e1,_,_⟩:=DataW.trod_int uT3 h1;obtain ⟨c,e2,_,_⟩:=DataW.trod_int uT3 h2;obtain ⟨d,e3,_,_⟩:=DataW.trod_int uT3 h3;simp at e0 e1 e2 e3;subst e0 e1 e2 e3;exact⟨(a,b,c,d),I⟩
theorem B7 {fuel:Nat}{v:Value}{x:DataW H×List MemPlace}(h:DataW.trod enc Tryz.prog W base spare hd fuel 25 [v]=some x):∃ l:List Ac,SlA om (qj W) v l:=by
 rcases Go.Deep.open_slice underlying25 h with ⟨hcs,_⟩ | ⟨a,len,cap,m,n,D,Pl,hcs,_,hl,_,hmm,_,hx⟩
 ·simp at hcs;subst hcs;exact⟨[],zc1 _ _⟩
 ·simp at hcs;subst hcs;have hlm:len≤m:=by rw[hmm]; split <;> omega
  obtain ⟨f,hf⟩:=Go.Deep.choose_lt (α:=Ac) (n:=len) (p:=fun i y=>∀ j x,(om.enc y)[j]?=some x→W.cell? (a.add<|i * 4+j)=some x) fun i hi=>by
   obtain ⟨cs',h1,h2⟩:=hx i oM;rw[cells37] at h1;obtain ⟨y,rfl⟩:=CN h2;obtain ⟨_,_,h3⟩:=World.cells?_some h1;refine⟨y,fun j x hj=>?_⟩;have hj4:j<4:=by have:=(zf8.1 hj).1; rwa [om.len] at this
   rw[← Go.Deep.add_add,h3 j hj4,hj]
  refine⟨(List.range len).map f,?_⟩;show Sl (qj W) 4 _ ((List.range len).map f).length (((List.range len).map f).flatMap om.enc);rw[ze9,zi7];refine BD hl (by rw[om.length,ze9,zi7]) fun j y hj=>?_;obtain ⟨i,b,hi,h1,h2,h3⟩:=y8 om hj;rw[zi3] at hi;cases hc:(List.range len)[i]? with
  | none=>rw[hc] at hi; cases hi
  | some z =>
   rw[hc] at hi;cases hi;obtain ⟨h4,h5⟩:=zf8.1 hc;simp at h4 h5;subst h5;rw[h1];exact hf i h4 _ _ h3
theorem AM {v:Value}{d:DataW H}{p:List MemPlace}(h:DataW.Trod enc Tryz.prog W base spare hd 25 v d p)(hv:v.cells = #[v]):∃ l:List Ac,SlA om (qj W) v l:=by
 obtain ⟨f,hf⟩:=h;rw[hv] at hf;exact B7 hf
end
set_option maxHeartbeats 2000000
theorem nJ (E:World)(g:PH)(s:Own)(v u:Value)(l m:List Cl)(hv:ao g v l)(hu:ao g u m)(hf:bo l) :
  Ctr Tryz.prog E 17 #[.agg #[v],.agg #[u]] g s (fun r g' s'=>r=vb (decide (l=m))∧g=g'∧s=s'):=by
 obtain ⟨ra,hra,halla⟩:=hv;obtain ⟨rb,hrb,hallb⟩:=hu;have eal:=halla.length;have ebl:=hallb.length;have hll:=hf.1;obtain ⟨pa,ca,rfl⟩:=hra.form;obtain ⟨pb,cb,rfl⟩:=hrb.form;refine zb2 (args:=[.agg #[.slice pa ra.length ca],.agg #[.slice pb rb.length cb]]) func17 I ntmps17 (bE I)<|rZ (bW (bO I) fun b2=>?_);refine bW (bO I) fun b3=>aT I<|sQ<|rZ<|lU (fA bM I bt I)<|lK (qL (v:=.slice pa ra.length ca) de I<|cO 1 I I)<|lU (eN aI I)<|lU (fA bM I bt I)<|lK (qL (v:=.slice pb rb.length cb) de I<|cO 0 I I)<|lU (eN aI I)<|lU (nQ I I)<|tZ<|iP I (fun hne=>?_) (fun hne=>?_)
 ·exact rZ<|aT I<|rE<|tR<|dR (s':=s) uR<|za8 (.inl I) results17 I ⟨by rw[zg1 (fun e:l=m=>by rw[e] at eal; omega)],I,I⟩
 ·refine kP<|tN<|sQ<|rZ<|aT I<|bK ?_;have hlen:l.length=m.length:=oM;refine oP (ι:=Nat) (fun k=>[(2,pp b2 0),(3,pp b3 0),(5,vi k)]) (fun _=>g) (fun _=>pt b3 (.cells #[.slice pb rb.length cb] 29 (0,0))::pt b2 (.cells #[.slice pa ra.length ca] 29 (0,0))::s) (fun k=>k≤l.length∧l.take k=m.take k) (fun k=>l.length - k) 0
   sB rfl rfl ⟨zf9 _,by simp⟩ ?_
  rintro k ⟨hk,heq⟩;refine sQ<|sW I<|lU (fA bM I bt I)<|lK (qL (v:=.slice pa ra.length ca) de I<|cO 1 I I)<|lU (eN aI I)<|yL I<|tZ<|iP I (fun hlt=>?_) (fun hlt=>?_)
  ·have hkl:k<l.length:=oM;have hkm:k<m.length:=oM;have hb1:=hra.based oM;have hb2:=hrb.based oM;have h1:=halla.get (gE hkl)<|gE (show k<ra.length by omega);have h2:=hallb.get (gE hkm)<|gE (show k<rb.length by omega);have g1:ra[((k:Nat):Int).toNat]?=some ra[k]:=gE (show k<ra.length by omega);have g2:rb[((k:Nat):Int).toNat]?=some rb[k]:=gE (show k<rb.length by omega);have hxl:=hf.2 _<|gM hkl;refine kP<|tN<|sQ<|bK<|sQ<|dW [] [(0,2),(1,1),(2,2),(3,2),(4,1),(5,2),(6,1),(7,2),(8,2),(9,1),(10,0),(11,2)] ze6 kR<|pU I (fA bM I bt I)<|pK I (qL (v:=.slice pa ra.length ca) de I<|cO 1 I I)<|yM I<|pU I (iA aI au I I hb1 oM sL)<|pK I (eA dn au I hra.rd g1)<|pU I (fA bM I bt I)<|pK I (qL (v:=.slice pb rb.length cb) de I<|cO 0 I I)<|yM I<|pU I (iA aI au I I hb2 oM sL)<|pK I (eA dn au I hrb.rd g2)<|SP.o I (cL call51 I<|qy E g _ l[k] m[k] _ _ h1 h2 hxl) dC (.inr iR) ?_;rintro _ _ _ ⟨rfl,rfl,rfl⟩;refine pU I (SU.notP I)<|pN<|tN<|iP I (fun hd=>?_) (fun hd=>?_)
   ·exact rZ<|aT I<|rE<|bR<|tR<|tR<|bR<|tR<|dR (s':=s) uR<|za8 (.inl I) results17 I ⟨by rw[zg1 (fun e:l=m=>hd<|by simp[e])],I,I⟩
   ·exact kP<|bN<|tN<|rG<|lM I<|yD I<|lA I<|nL<|gA (k+1) sB I I ⟨oM,by rw[tS hkl,tS hkm,heq,zh3 hd]⟩ oM
  ·refine xI<|tX<|tX<|bX<|tN<|rZ<|aT I<|rE ?_;have heq2:l=m:=by rw[tL oM,tL oM] at heq; exact heq
   exact dR (s':=s) uR<|za8 (.inl I) results17 I ⟨by rw[zg2 heq2],I,I⟩
theorem SU.eqBT {P:Program}{N:Nat}{f:Fr}{dst:Option Tmp}{ty:TypeId}{pos:String}{af:Array Edge}{gd:Option (Nat×Bool)}{x y:Operand}{T U:TypeId}{a:Bool}(hT:P.underlying T=some .bool)(hx:ev f x=some (vb a))(hy:ev f y=some (vb a)) :
  SU P N ⟨dst,.binOp .eql T x y U,ty,pos,af,gd⟩ f (vb true):=fun ac w ha=>by
 have hg:(eqGuard .eql T x y (.bool a)<|.bool a).run P w = .ok () w:=by simp[eqGuard]
 have hb:=run_eql_bool (P:=P) w T a a hT;simp only[execOp,ha.ev hx,ha.ev hy,Sem.run_bind,hg,zd2,hb,beq_self_eq_true];rfl
theorem CZ (x:Tm)(w:World):(Op.equalIn 10000 77 (.agg (ci.enc x).toArray)<|.agg (ci.enc x).toArray).run Tryz.prog w = .ok true w:=by
 have hu:Tryz.prog.underlying 77=some (.struct<|Tryz.prog.fieldsOf 77):=by kernel_rfl
 have hu2:Tryz.prog.underlying 75=some (.struct<|Tryz.prog.fieldsOf 75):=by kernel_rfl
 rw[run_equalIn_agg w 9999 77 _ _ hu stoodInHeld77]
 have hfs : ∃ f1 f2,(Tryz.prog.fieldsOf 77).toList = [f1,f2] ∧ f1.name ≠ "_" ∧ f2.name ≠ "_" ∧ f1.type = 3 ∧ f2.type = 75 ∧ f1.offset = 0 ∧ f2.offset = 1:=⟨_,_,rfl,by decide,by decide,rfl,rfl,rfl,rfl⟩
 obtain ⟨f1,f2,e,n1,n2,t1,t2,o1,o2⟩:=hfs
 have hgs : ∃ f1 f2,(Tryz.prog.fieldsOf 75).toList = [f1,f2] ∧ f1.name ≠ "_" ∧ f2.name ≠ "_" ∧ f1.type = 4 ∧ f2.type = 9 ∧ f1.offset = 0 ∧ f2.offset = 1:=⟨_,_,rfl,by decide,by decide,rfl,rfl,rfl,rfl⟩
 obtain ⟨f3,f4,e2,n3,n4,t3,t4,o3,o4⟩:=hgs;obtain ⟨a,n⟩:=x;rw[e];have h1:=run_equalIn_int (P:=Tryz.prog) w 9998 3 .i64 .i64 a a uT3;have h2:(Op.equalIn 9999 75 (.agg #[vb<|zw n,txt<|qP n.natAbs])<|.agg #[vb<|zw n,txt<|qP n.natAbs]).run Tryz.prog w = .ok true w:=by
  rw[run_equalIn_agg w 9998 75 _ _ hu2 stoodInHeld75,e2];have h3:=run_equalIn_bool (P:=Tryz.prog) w 9997 4 (zw n) (zw n) uT4;have h4:=run_equalIn_string (P:=Tryz.prog) w 9997 9 ⟨(qP n.natAbs).toArray⟩ ⟨(qP n.natAbs).toArray⟩ uT9;simp only[Op.eqFields,n3,n4,t3,t4,o3,o4,txt,Go.part,ne_eq,not_false_eq_true,if_true,Sem.run_bind,isAgg4,isAgg9,zd2];simp[h3,h4]
 simp only[Op.eqFields,n1,n2,t1,t2,o1,o2,ci,Go.part,ne_eq,not_false_eq_true,if_true,Sem.run_bind,iT3,isAgg75,qM,zd2];simp[h1,h2]
theorem SU.neqTmT {N:Nat}{f:Fr}{dst:Option Tmp}{ty:TypeId}{pos:String}{af:Array Edge}{gd:Option (Nat×Bool)}{x y:Operand}(a:Tm){U:TypeId}(hx:ev f x=some (.agg (ci.enc a).toArray))(hy:ev f y=some (.agg (ci.enc a).toArray)) :
  SU Tryz.prog N ⟨dst,.binOp .neq 77 x y U,ty,pos,af,gd⟩ f (vb false):=fun ac w ha=>by
 have hg:=run_eqGuard_agg (P:=Tryz.prog) w .neq 77 x y (ci.enc a).toArray (ci.enc a).toArray eqGuardType77;simp only[execOp,ha.ev hx,ha.ev hy,Sem.run_bind,hg,zd2];rw[run_neq_struct,CZ];rfl
theorem SU.eqlTmT {N:Nat}{f:Fr}{dst:Option Tmp}{ty:TypeId}{pos:String}{af:Array Edge}{gd:Option (Nat×Bool)}{x y:Operand}(a:Tm){U:TypeId}(hx:ev f x=some (.agg (ci.enc a).toArray))(hy:ev f y=some (.agg (ci.enc a).toArray)) :
  SU Tryz.prog N ⟨dst,.binOp .eql 77 x y U,ty,pos,af,gd⟩ f (vb true):=fun ac w ha=>by
 have hg:=run_eqGuard_agg (P:=Tryz.prog) w .eql 77 x y (ci.enc a).toArray (ci.enc a).toArray eqGuardType77;simp only[execOp,ha.ev hx,ha.ev hy,Sem.run_bind,hg,zd2];rw[run_eql_struct,CZ];rfl
theorem sw (E:World)(g:PH)(s:Own)(v u:Value)(L:List (Int×List Tm))(hv:Ims g v L)(hu:Ims g u L)(hs:L.length≤4000∧∀ p∈L,p.2.length≤64) :
  Ctr Tryz.prog E 52 #[.agg #[v],.agg #[u]] g s (fun r g' s'=>r=vb true∧g=g'∧s=s'):=by
 obtain ⟨ra,hra,halla⟩:=hv;obtain ⟨rb,hrb,hallb⟩:=hu;have eal:=halla.length;have ebl:=hallb.length;have hll:=hs.1;obtain ⟨pa,ca,rfl⟩:=za4 hra;obtain ⟨pb,cb,rfl⟩:=za4 hrb;refine zb2 (args:=[.agg #[.slice pa ra.length ca],.agg #[.slice pb rb.length cb]]) func52 I ntmps52 (bE I)<|rZ (bW (bO I) fun b2=>?_);refine bW (bO I) fun b3=>aT I<|sQ<|rZ<|lU (fA mU I kC I)<|lK (qL (v:=.slice pa ra.length ca) isAgg42 I<|cO 1 I I)<|lU (eN vy I)<|lU (fA mU I kC I)<|lK (qL (v:=.slice pb rb.length cb) isAgg42 I<|cO 0 I I)<|lU (eN vy I)<|lU (SU.eq (v':=vb false) (nQ I I)<|ze5 vb<|zg1 (by (try simp only[slen]); omega)) ?_;refine tZ<|za1 I<|kP<|tN<|sQ<|rZ<|aT I<|bK ?_;refine oP (ι:=Nat) (fun k=>[(2,pp b2 0),(3,pp b3 0),(5,vi k)]) (fun _=>g) (fun _=>pt b3 (.cells #[.slice pb rb.length cb] 44 (0,0))::pt b2 (.cells #[.slice pa ra.length ca] 44 (0,0))::s) (fun k=>k≤L.length) (fun k=>L.length - k) 0 sB I I (zf9 _) ?_;rintro k hk;try dsimp only at hk ⊢
 refine sQ<|sW I<|lU (fA mU I kC I)<|lK (qL (v:=.slice pa ra.length ca) isAgg42 I<|cO 1 I I)<|lU (eN vy I)<|yL I<|tZ<|iP I (fun hlt=>?_) (fun hlt=>?_)
 ·have hkl:k<L.length:=oM;have hb1:=za6 hra oM;have hb2:=za6 hrb oM;have h1:=halla.get (gE hkl)<|gE (show k<ra.length by omega);have h2:=hallb.get (gE hkl)<|gE (show k<rb.length by omega);have g1:ra[((k:Nat):Int).toNat]?=some ra[k]:=gE (show k<ra.length by omega);have g2:rb[((k:Nat):Int).toNat]?=some rb[k]:=gE (show k<rb.length by omega);have hxl:=hs.2 _<|gM hkl;generalize L[k]=X at *;generalize ra[k]=xa at *;generalize rb[k]=xb at *;obtain ⟨ia,pA,nA,cA⟩:=xa;obtain ⟨ib,pB,nB,cB⟩:=xb;obtain ⟨f1,hA⟩:=h1;obtain ⟨f2,hB⟩:=h2;dsimp only at f1 f2 hA hB;subst f1 f2;have hnA:nA=X.2.length:=zc2 hA;have hnB:nB=X.2.length:=zc2 hB;subst hnA hnB;refine kP (tN<|sQ<|bK<|rZ<|lU (fA mU I kC I)<|lK (qL (v:=.slice pa ra.length ca) isAgg42 I<|cO 1 I I)<|lM I<|lU (iA vy j6 I I hb1 oM sL)<|lK (eA isAgg113 j6 I (za7 hra) g1)<|bW (aL zeroValue113) fun b6=>?_);refine oZ (sK 0 j6 I I I I I sB)<|tZ (rZ<|lU (fA mU I kC I)<|lK (qL (v:=.slice pb rb.length cb) isAgg42 I<|cO 1 I I)<|lM I<|lU (iA vy j6 I I hb2 oM sL)<|lK (eA isAgg113 j6 I (za7 hrb) g2)<|bW (aL zeroValue113) fun b7=>?_);refine oZ (sK 0 j6 I I I I I sB)<|tZ<|sQ<|rZ<|lU (fA lV I zT3 I)<|lK (qL (v:=vi X.1) iT3 I<|cO 1 I I)<|lU (fA lV I zT3 I)<|lK (qL (v:=vi X.1) iT3 I<|cO 0 I I)<|lU (SU.eq (v':=vb false) (nQ I I)<|ze5 vb<|zg1<|by simp) ?_;refine lM I<|lY I I I (fA lV I sizeOf72 I)<|SL.gq (gT I I I dC) (qL (v:=.slice pA X.2.length cA) isAgg72 I<|cO 1 I I) dC<|lY I I I (eN zk I)<|lY I I I (fA lV I sizeOf72 I)<|SL.gq (gT I I I dC) (qL (v:=.slice pB X.2.length cB) isAgg72 I<|cO 0 I I) dC<|lY I I I (eN zk I)<|lY I I I (SU.eq (v':=vb false) (nQ I I)<|ze5 vb<|zg1<|by simp[slen]) ?_;refine yF I<|tZ<|za1 I<|kP<|tN<|rZ<|aT I<|bK ?_;refine oP (ι:=Nat) (fun j=>[(2,pp b2 0),(3,pp b3 0),(5,vi k),(6,pp b6 0),(7,pp b7 0),(8,vi j)]) (fun _=>g) (fun _=>pt b7 (.cells #[vi X.1,.slice pB X.2.length cB] 113 (0,0))::pt b6 (.cells #[vi X.1,.slice pA X.2.length cA] 113 (0,0))::pt b3 (.cells #[.slice pb rb.length cb] 44 (0,0))::pt b2 (.cells #[.slice pa ra.length ca] 44 (0,0))::s)
   (fun j=>j≤X.2.length) (fun j=>X.2.length - j) 0 sB rfl rfl (zf9 _) ?_
  rintro j hj;try dsimp only at hj ⊢
  refine sQ<|sW I<|lU (fA lV I sizeOf72 I)<|lK (qL (v:=.slice pA X.2.length cA) isAgg72 I<|cO 1 I I)<|lU (eN zk I)<|yL I<|tZ<|iP I (fun hlt2=>?_) (fun hlt2=>?_)
  ·have hjl:j<X.2.length:=oM;have hb3:=za6 hA oM;have hb4:=za6 hB oM;have g3:X.2[((j:Nat):Int).toNat]?=some X.2[j]:=gE hjl;generalize X.2[j]=z at *;exact kP<|tN<|sQ<|bK<|sQ<|dW [] [(0,2),(1,1),(2,2),(3,2),(4,1),(5,2),(6,1),(7,2),(8,2),(9,1),(10,2)] ze6 kR<|pU I (fA lV I sizeOf72 I)<|pK I (qL (v:=.slice pA X.2.length cA) isAgg72 I<|cO 1 I I)<|yM I<|pU I (iA zk sizeOf77 I I hb3 oM sL)<|pK I (eA isAgg77 sizeOf77 I (za7 hA) g3)<|pU I (fA lV I sizeOf72 I)<|pK I (qL (v:=.slice pB X.2.length cB) isAgg72 I<|cO 0 I I)<|yM I<|pU I (iA zk sizeOf77 I I hb4 oM sL)<|pK I (eA isAgg77 sizeOf77 I (za7 hB) g3)<|pU I (SU.neqTmT z I I)<|pN<|tN<|za1 I<|kP<|bN<|tN<|rG<|lM I<|yD I<|lA I<|nL<|gA (j+1) sB I I oM oM
  ·exact xI<|tX<|tX<|bX<|bN<|tN<|rG<|lM I<|yD I<|lA I<|nL<|dR (.cons _<|.cons _<|.refl _)<|gA (k+1) sB I I oM oM
 ·exact xI<|tX<|tX<|bX<|tN<|rZ<|aT I<|rE<|dR (s':=s) uR<|za8 (.inl I) results52 I ⟨I,I,I⟩
theorem kZ (E:World)(g:PH)(s:Own)(x y:Sr)(L:Stp)(hx:StK g L x)(hy:StK g L y)(hs:StS L) :
  Ctr Tryz.prog E 18 #[srv x,srv y] g s (fun r g' s'=>r=vb true∧g=g'∧s=s'):=by
 obtain ⟨⟨pa,na,ca⟩,ba⟩:=x;obtain ⟨⟨pb,nb,cb⟩,bb⟩:=y;obtain ⟨f1,hA⟩:=hx;obtain ⟨f2,hB⟩:=hy;dsimp only at f1 f2 hA hB;subst f1;subst f2;refine zb2 (args:=[.agg #[.slice pa na ca,vb L.2],.agg #[.slice pb nb cb,vb L.2]]) func18 I ntmps18 (bE I)<|rZ (bW (bO I) fun b2=>?_);refine bW (bO I) fun b3=>aT I<|rZ<|lU (fA zm I zT4 I)<|lK (qL (v:=vb L.2) isAgg4 I<|cO 1 I I)<|lU (fA zm I zT4 I)<|lK (qL (v:=vb L.2) isAgg4 I<|cO 0 I I)<|lU (SU.eqBT uT4 I I)<|lM I<|lY I I I (fA zm I kr I)<|SL.gq (gT I I I dC) (SQ.loadOne isAgg44 kr I<|cO (v:=.slice pa na ca) 1 I I) dC<|lY I I I (fA zm I kr I)<|SL.gq (gT I I I dC) (SQ.loadOne isAgg44 kr I<|cO (v:=.slice pb nb cb) 0 I I) dC<|ze4 (gT I I I dC) (cL call52 I<|sw E g _ _ _ L.1 hA hB hs) dC ?_;rintro _ _ _ ⟨rfl,rfl,rfl⟩;exact yP I<|aT I<|rE<|dR (s':=s) uR<|za8 (.inl I) results18 I ⟨I,I,I⟩
theorem oH (E:World)(g:PH)(s:Own)(v ev:Value)(l:List Cl)(e:Ed)(hv:ao g v l)(hf:bo l)(he:EdR g ev e)(hs:EdS e) :
  Ctr Tryz.prog E 12 #[.agg #[v],ev] g s (fun r g' s'=>r=vb true∧s=s'∧Le g g'):=by
 obtain ⟨p,c,rfl⟩:=hv.form;have he0:=he;obtain ⟨sv,pv,rfl,hsv,hpv⟩:=he;obtain ⟨sp,sc,rfl⟩:=za4 hsv;obtain ⟨pq,pc,rfl⟩:=za4 hpv;have hDf:=jm l e;have hSm:=nj l e;refine zb2 (args:=[.agg #[.slice p l.length c],.agg #[vi e.kind,vi e.cell,vi e.dim,vi e.new,vi e.other,.slice sp e.sides.length sc,.slice pq e.pairs.length pc]]) func12 I ntmps12 (bE I)<|rZ (bW (bO I) fun b2=>?_);refine bW (bO I) fun b3=>aT I<|rZ<|lK (qV 1 aw ah I I I)<|lK (qV 0 jh eW I I I)<|lW (cL call16 I<|lC E g _ _ _ l e hv hf he0 hs.1 (by have:=hs.2; omega)) ?_;rintro _ g1 _ ⟨rfl,hle1,hR1⟩;obtain ⟨⟨u1,u2,u3⟩,⟨⟨x1,x2,x3⟩,x4⟩,rfl,hD1,hS1⟩:=hR1.one;refine lM I (yX I<|yX I<|yX I<|bW (aL zl5) fun b5=>?_);refine bW (aL zl7) fun b6=>oZ (sK 1 ah I I I I I sB)<|oZ (sK 0 bC I I I I I sB)<|aT I<|rZ<|lK (qV 3 aw ah I I I)<|lK (qV 2 jh eW I I I)<|lW (cL call37 I<|kL E g1 _ _ _ l e (hv.mono hle1) hf (he0.mono hle1) hs.1 (by have:=hs.2; omega)) ?_;rintro _ g2 _ ⟨rfl,hle2,hR2⟩;obtain ⟨⟨v1,v2,v3⟩,⟨⟨y1,y2,y3⟩,y4⟩,rfl,hD2,hS2⟩:=hR2.one;have hD3:=hD1.mono hle2;have hS3:=hS1.mono hle2;have hle12:=hle1.trans hle2;generalize (c4 l e).1=code at *;generalize (c4 l e).2=D at *;generalize imO l e=SS at *;refine lM I (yX I<|yX I<|yX I<|bW (aL zl5) fun b8=>?_);refine bW (aL zl7) fun b9=>oZ (sK 1 ah I I I I I sB)<|oZ (sK 0 bC I I I I I sB)<|aT I<|sW I<|lM I<|lU (SU.eq (v':=vb true) (eQ I I)<|ze5 vb<|zg2 I)<|lM I<|SL.gq (gT I I I dC) (qV (by exact 3) aw ah I I I) dC ?_;refine SL.gq (gT I I I dC) (qV (by exact 1) aw ah I I I) dC ?_;refine ze4 (gT I I I dC) (cL call17 I<|nJ E g2 _ _ _ D D hD3 hD2 hDf) dC ?_;rintro _ _ _ ⟨rfl,rfl,rfl⟩;rw[show decide (D=D)=true from zg2 rfl];refine yP I<|lM I<|SL.gq (gT I I I dC) (qV (by exact 2) fm bC I I I) dC ?_;refine SL.gq (gT I I I dC) (qV (by exact 0) fm bC I I I) dC ?_;refine ze4 (gT I I I dC) (cL call18 I<|kZ E g2 _ ⟨⟨x1,x2,x3⟩,x4⟩ ⟨⟨y1,y2,y3⟩,y4⟩ SS hS3 hS2 hSm) dC ?_;rintro _ _ _ ⟨rfl,rfl,rfl⟩;exact yP I<|aT I<|rE<|dR (s':=s) uR<|za8 (.inl I) results12 I ⟨I,I,hle12⟩
theorem xU (E:World)(g:PH)(s:Own)(v:Value)(L:List (Int×List Tm))(k0:Int)(hv:Ims g v L)(hs:L.length≤4000) :
  Ctr Tryz.prog E 27 #[.agg #[v],vi k0] g s (fun r g' s'=>g=g'∧s=s'∧SlA ci g r (((L.find? fun p=>decide (p.1=k0)).map Prod.snd).getD [])):=by
 obtain ⟨ra,hra,halla⟩:=hv;have eal:=halla.length;obtain ⟨pa,ca,rfl⟩:=za4 hra;refine zb2 (args:=[.agg #[.slice pa ra.length ca],vi k0]) func27 I ntmps27 (bE I)<|rZ (bW (bO I) fun b2=>?_);refine aT I<|sQ<|rZ<|aT I<|bK<|oP (ι:=Nat) (fun k=>[(1,vi k0),(2,pp b2 0),(5,vi k)]) (fun _=>g) (fun _=>pt b2 (.cells #[.slice pa ra.length ca] 44 (0,0))::s) (fun k=>k≤L.length∧(L.take k).find? (fun p=>decide (p.1=k0))=none) (fun k=>L.length - k) 0 sB I I ⟨zf9 _,I⟩ ?_;rintro k ⟨hk,hno⟩;try dsimp only at hk ⊢
 refine sQ<|sW I<|lU (fA mU I kC I)<|lK (qL (v:=.slice pa ra.length ca) isAgg42 I<|cO 0 I I)<|lU (eN vy I)<|yL I<|tZ<|iP I (fun hlt=>?_) (fun hlt=>?_)
 ·have hkl:k<L.length:=oM;have hb1:=za6 hra oM;have h1:=halla.get (gE hkl)<|gE (show k<ra.length by omega);have g1:ra[((k:Nat):Int).toNat]?=some ra[k]:=gE (show k<ra.length by omega);have htk:L.take (k+1)=L.take k++[L[k]]:=tS hkl;have hLk:L=L.take k++L[k]::L.drop (k+1):=by rw[← zg9 hkl,zj5]
  generalize L[k]=X at *;generalize ra[k]=xa at *;obtain ⟨ia,pA,nA,cA⟩:=xa;obtain ⟨f1,hA⟩:=h1;dsimp only at f1 hA;subst f1;refine kP<|tN<|sQ<|bK<|rZ<|lU (fA mU I kC I)<|lK (qL (v:=.slice pa ra.length ca) isAgg42 I<|cO 0 I I)<|lM I<|lU (iA vy j6 I I hb1 oM sL)<|lU (fC lV I zT3 I hb1)<|lK (aZ (e:=jo) (o:=0) (u:=vi X.1) iT3 I (za7 hra) g1 I)<|lM I<|yE I<|tZ<|iP I (fun he=>?_) (fun he=>?_)
  ·exact rZ<|lU (fA mU I kC I)<|lK (qL (v:=.slice pa ra.length ca) isAgg42 I<|cO 0 I I)<|lM I<|lU (iA vy j6 I I hb1 oM sL)<|lU (fC lV I sizeOf72 I hb1)<|lK (aZ (e:=jo) (o:=1) (u:=.slice pA nA cA) isAgg72 I (za7 hra) g1 I)<|aT I<|rE<|bR<|tR<|tR<|bR<|tR<|dR (s':=s) uR<|za8 (.inl I) results27 I ⟨I,I,by rw[hLk,List.find?_append,hno,zi9,zg2 he]; exact hA⟩
  ·exact kP<|bN<|tN<|rG<|lM I<|yD I<|lA I<|nL<|gA (k+1) sB I I ⟨oM,by rw[htk,List.find?_append,hno]; simp[he]⟩ oM
 ·refine xI<|tX<|tX<|bX<|tN<|rZ<|aT I<|rE ?_;have hL:L.take k=L:=tL oM;rw[hL] at hno;exact dR (s':=s) uR<|za8 (.inl I) results27 I ⟨I,I,by rw[hno]; exact zc1 _ _⟩
theorem B6 {g:PH}{p:Option Addr}{n c:Nat}{l:List Cl}(h:ao g (.slice p n c) l):n=l.length:=by
 obtain ⟨q,d,e⟩:=h.form;injection e
theorem oe (E:World)(g:PH)(s:Own):Ctr Tryz.prog E 26 #[] g s (fun r g' s'=>s=s'∧Le g g'∧∃ u,r = .agg #[u]∧ao g' u kE):=by
 refine zb2 (args:=[]) func26 I ntmps26 (bE I)<|rZ (bW (aL zl5) fun b0=>?_);refine tZ<|rZ<|lW (bS sty83 I I I (ae sB) dC) ?_;rintro _ _ _ ⟨b1,rfl,rfl,rfl⟩;refine zb5 fun g1 hle1 hb1=>?_;refine lW (bS sty22 I I I (ae ⟨I,trivial⟩) dC) ?_;rintro _ _ _ ⟨b2,rfl,rfl,rfl⟩;refine zb5 fun g2 hle2 hb2=>?_;have hlit:cZ g2 (.slice (some ⟨b2,0,none⟩) 1 1) [[0,1,2]]:=⟨[jg<|.slice (some ⟨b1,0,none⟩) 3 3],SlA.lit hb2 rfl rfl,⟨SlA.lit (hle2 _ _ hb1) rfl rfl,trivial⟩⟩;refine lW (cL call60 I<|oh E g2 _ _ _ hlit dC dC) ?_;rintro _ g3 _ ⟨rfl,hle3,u,rfl,hu⟩;rw[zP] at hu;obtain ⟨q,d,rfl⟩:=hu.form;exact oZ (sK 0 ah I I I I I sB)<|tZ<|rE<|ST.retCD 0 s (.inl I) results26 I aw ah I I uR ⟨I,hle1.trans<|hle2.trans hle3,_,I,hu⟩
def exA:Ed:=⟨1,8,2,0,0,[⟨4,1⟩,⟨5,-1⟩,⟨6,1⟩],[]⟩
def exB:Ed:=⟨2,4,0,0,0,[],[]⟩
def exC:Ed:=⟨2,7,0,0,0,[],[]⟩
def exD:Ed:=⟨3,4,0,10,11,[],[]⟩
def exE:Ed:=⟨5,5,0,0,7,[],[]⟩
def exF:Ed:=⟨4,0,0,0,0,[],[(1,2)]⟩
theorem AY:(c4 kE exA).1=0∧(c4 kE exA).2.length=8:=by decide +kernel
theorem CB:(c4 kE exB).1=31:=by decide +kernel
theorem wW:(c4 kE exC).1=0∧(c4 kE exC).2.length=6∧(imO kE exC).2=true:=by decide +kernel
theorem AX:(c4 kE exD).1=0∧(findC (c4 kE exD).2 7).getD bD=⟨7,2,[⟨4,1⟩,⟨5,-1⟩,⟨6,1⟩,⟨11,1⟩]⟩:=by
 refine⟨by decide +kernel,by kernel_rfl⟩
theorem AW:(c4 kE exE).1=0∧(((imO kE exE).1.find? fun p=>decide (p.1=5)).map Prod.snd).getD []=[(4,1),(6,1)]:=by decide +kernel
theorem CA:(c4 kE exF).1=22:=by decide +kernel
theorem Bc (E:World)(g:PH)(s:Own)(v ev:Value)(e:Ed)(code:Int)(hv:ao g v kE)(he:EdR g ev e)(hs:e.sides.length<1099511627776)(hp:e.pairs.length<1099511627776)(hc:(c4 kE e).1=code) :
  Ctr Tryz.prog E 16 #[.agg #[v],ev] g s (fun r g' s'=>s=s'∧Le g g'∧∃ u:Sv,∃ x:Sr,r = .tuple #[.agg #[.slice u.p (c4 kE e).2.length u.c],srv x,vi code]∧ao g' (.slice u.p (c4 kE e).2.length u.c) (c4 kE e).2∧StK g' (imO kE e) x) :=
 (lC E g s v ev kE e hv zI he hs hp).mono fun r g' s' ⟨h1,h2,h3⟩=>by
  obtain ⟨u,x,h4,h5,h6⟩:=h3.one;have:=B6 h5;refine⟨h1,h2,u,x,?_,?_,h6⟩
  ·rw[h4,this,hc]
  ·rw[← this]; exact h5
theorem Tryz.xA35 (a b d:Int)(q:Option Addr)(qn qc:Nat)(w:World):(Instr.build 35 #[(0,vi a),(1,vi b),(2,vi d),(5,.slice q qn qc)]).run Tryz.prog w = .ok (.agg #[vi a,vi b,vi d,vi 0,vi 0,.slice q qn qc,.slice none 0 0]) w:=by
 have h0:∀ a:Int,(vi a).cells = #[vi a]:=fun _=>rfl;have h3:(Value.slice q qn qc).cells = #[.slice q qn qc]:=rfl;simp[Instr.build,Instr.fill,h0,h3];rfl
theorem Tryz.xB35 (a b:Int)(w:World):(Instr.build 35 #[(0,vi a),(1,vi b)]).run Tryz.prog w = .ok (.agg #[vi a,vi b,vi 0,vi 0,vi 0,.slice none 0 0,.slice none 0 0]) w:=by
 have h0:∀ a:Int,(vi a).cells = #[vi a]:=fun _=>rfl;simp[Instr.build,Instr.fill,h0];rfl
theorem Tryz.xC35 (a b d e:Int)(w:World):(Instr.build 35 #[(0,vi a),(1,vi b),(3,vi d),(4,vi e)]).run Tryz.prog w = .ok (.agg #[vi a,vi b,vi 0,vi d,vi e,.slice none 0 0,.slice none 0 0]) w:=by
 have h0:∀ a:Int,(vi a).cells = #[vi a]:=fun _=>rfl;simp[Instr.build,Instr.fill,h0];rfl
theorem Tryz.xD35 (a b d:Int)(w:World):(Instr.build 35 #[(0,vi a),(1,vi b),(4,vi d)]).run Tryz.prog w = .ok (.agg #[vi a,vi b,vi 0,vi 0,vi d,.slice none 0 0,.slice none 0 0]) w:=by
 have h0:∀ a:Int,(vi a).cells = #[vi a]:=fun _=>rfl;simp[Instr.build,Instr.fill,h0];rfl
theorem Tryz.xE35 (a:Int)(q:Option Addr)(qn qc:Nat)(w:World):(Instr.build 35 #[(0,vi a),(6,.slice q qn qc)]).run Tryz.prog w = .ok (.agg #[vi a,vi 0,vi 0,vi 0,vi 0,.slice none 0 0,.slice q qn qc]) w:=by
 have h0:∀ a:Int,(vi a).cells = #[vi a]:=fun _=>rfl;have h3:(Value.slice q qn qc).cells = #[.slice q qn qc]:=rfl;simp[Instr.build,Instr.fill,h0,h3];rfl
theorem qx (E:World)(g:PH)(s:Own):Ctr Tryz.prog E 10 #[] g s (fun r g' s'=>r=vb true∧s=s'∧Le g g'):=by
 refine zb2 (args:=[]) func10 I ntmps10 (bE I)<|rZ<|aT I<|rZ<|lW (cL call26 I<|oe E g s) ?_;rintro _ g1 _ ⟨rfl,hle1,u,rfl,hu⟩;obtain ⟨q,d,rfl⟩:=hu.form;have hac:=hle1;refine bW (aL zl5) fun b1=>oZ (sK 0 ah I I I I I sB)<|tZ<|rZ<|lK (qV 0 aw ah I I I)<|lU (za3 I<|buildS55 _ _)<|lU (za3 I<|buildS55 _ _)<|lU (za3 I<|buildS55 _ _)<|lW (bS sty32 I I I (ae sB) dC) ?_;rintro _ _ _ ⟨b31,rfl,rfl,rfl⟩;refine zb5 fun g2 hle hb2=>?_;have hs2:SlA encSide g2 (.slice (some ⟨b31,0,none⟩) 3 3) exA.sides:=SlA.lit hb2 rfl rfl;have hu:=hu.mono hle;have hac:=hac.trans hle;clear hle;refine lU (za3 I<|xA35 _ _ _ _ _ _)<|lW (cL call16 I<|Bc E g2 _ _ _ exA 0 hu ⟨_,_,I,hs2,zc1 _ _⟩ dC dC AY.1) ?_;rintro _ g3 _ ⟨rfl,hle,⟨a1,a2,a3⟩,⟨⟨ax,ay,az⟩,ab⟩,rfl,hDa,hSa⟩;rw[AY.2] at *;clear hSa;have hu:=hu.mono hle;have hac:=hac.trans hle;clear hle;refine lM I (yX I<|yX I<|yX I<|bW (aL zl5) fun b2=>?_);refine bW (aL zl7) fun b3=>oZ (sK 1 ah I I I I I sB)<|oZ (sK 0 bC I I I I I sB)<|aT I<|rZ<|lK (qV 2 aw ah I I I)<|lU (za3 I<|xB35 _ _)<|lW (cL call16 I<|Bc E g3 _ _ _ exB 31 hu ⟨_,_,I,zc1 _ _,zc1 _ _⟩ dC dC CB) ?_;rintro _ g4 _ ⟨rfl,hle,⟨w1,w2,w3⟩,⟨⟨wx,wy,wz⟩,wb⟩,rfl,hDw,hSw⟩;clear hSw hDw;generalize (c4 kE exB).2.length=nb at *;have hu:=hu.mono hle;have hac:=hac.trans hle;clear hle;refine lM I (yX I<|yX I<|yX I<|bW (aL zl5) fun b5=>?_);refine bW (aL zl7) fun b6=>oZ (sK 1 ah I I I I I sB)<|oZ (sK 0 bC I I I I I sB)<|aT I<|rZ<|lK (qV 4 aw ah I I I)<|lU (za3 I<|xB35 _ _)<|lW (cL call16 I<|Bc E g4 _ _ _ exC 0 hu ⟨_,_,I,zc1 _ _,zc1 _ _⟩ dC dC wW.1) ?_;rintro _ g5 _ ⟨rfl,hle,⟨c1,c2,c3⟩,⟨⟨cx,cy,cz⟩,cb⟩,rfl,hDc,hSc⟩;have hcb:cb=true:=hSc.1.trans wW.2.2;subst hcb;rw[wW.2.1] at *;clear hSc;have hu:=hu.mono hle;have hac:=hac.trans hle;clear hle;refine lM I (yX I<|yX I<|yX I<|bW (aL zl5) fun b8=>?_);refine bW (aL zl7) fun b9=>oZ (sK 1 ah I I I I I sB)<|oZ (sK 0 bC I I I I I sB)<|aT I<|rZ<|lK (qV 6 aw ah I I I)<|lU (za3 I<|xC35 _ _ _ _)<|lW (cL call16 I<|Bc E g5 _ _ _ exD 0 hu ⟨_,_,I,zc1 _ _,zc1 _ _⟩ dC dC AX.1) ?_;rintro _ g6 _ ⟨rfl,hle,⟨d1,d2,d3⟩,⟨⟨dx,dy,dz⟩,db⟩,rfl,hDd,hSd⟩;clear hSd;have hu:=hu.mono hle;have hac:=hac.trans hle;clear hle;refine lM I (yX I<|yX I<|yX I<|bW (aL zl5) fun b11=>?_);refine bW (aL zl7) fun b12=>oZ (sK 1 ah I I I I I sB)<|oZ (sK 0 bC I I I I I sB)<|aT I<|rZ<|lK (qV 1 aw ah I I I)<|lW (cL call20 I<|y7 E g6 _ _ _ 7 hDd<|jm _ _) ?_;rintro _ g7 _ ⟨rfl,hle,⟨zi,zd,zp,zn,zc⟩,rfl,hz⟩;rw[AX.2] at hz;obtain ⟨-,-,hzs⟩:=hz;have hzn:zn=4:=zc2 hzs;subst hzn;have hbz:based (.slice zp 4 zc)=true:=za6 hzs dC;have hu:=hu.mono hle;have hac:=hac.trans hle;clear hle;refine lM I (yX I<|yX I<|bW (aL zl8) fun b14=>?_);refine oZ (sK 0 au I I I I I sB)<|aT I<|rZ<|lK (qV 9 aw ah I I I)<|lU (za3 I<|xD35 _ _ _)<|lW (cL call16 I<|Bc E g7 _ _ _ exE 0 hu ⟨_,_,I,zc1 _ _,zc1 _ _⟩ dC dC AW.1) ?_;rintro _ g8 _ ⟨rfl,hle,⟨e1,e2,e3⟩,⟨⟨ex,ey,ez⟩,eb⟩,rfl,hDe,hSe⟩;have hu:=hu.mono hle;have hac:=hac.trans hle;have hzs:=za5 hzs hle;clear hle;refine lM I (yX I<|yX I<|yX I<|bW (aL zl5) fun b16=>?_);refine bW (aL zl7) fun b17=>oZ (sK 1 ah I I I I I sB)<|oZ (sK 0 bC I I I I I sB)<|aT I<|rZ<|lK (qV 11 aw ah I I I)<|lU (za3 I<|build60 _ _)<|lW (bS sty33 I I I (ae ⟨I,trivial⟩) dC) ?_;rintro _ _ _ ⟨b73,rfl,rfl,rfl⟩;refine zb5 fun g9 hle hb9=>?_;have hs9:SlA dJ g9 (.slice (some ⟨b73,0,none⟩) 1 1) exF.pairs:=SlA.lit hb9 rfl rfl;have hu:=hu.mono hle;have hac:=hac.trans hle;have hzs:=za5 hzs hle;have hSe:=hSe.mono hle;clear hle;refine lU (za3 I<|xE35 _ _ _ _)<|lW (cL call16 I<|Bc E g9 _ _ _ exF 22 hu ⟨_,_,I,zc1 _ _,hs9⟩ dC dC CA) ?_;rintro _ g10 _ ⟨rfl,hle,⟨f1,f2,f3⟩,⟨⟨fx,fy,fz⟩,fb⟩,rfl,hDf,hSf⟩;clear hSf hDf;have hu:=hu.mono hle;have hac:=hac.trans hle;have hzs:=za5 hzs hle;have hSe:=hSe.mono hle;clear hle;refine lM I (yX I<|yX I<|yX I<|bW (aL zl5) fun b19=>?_);refine bW (aL zl7) fun b20=>oZ (sK 1 ah I I I I I sB)<|oZ (sK 0 bC I I I I I sB)<|aT I<|rZ<|lU (fA zm I kr I)<|lK (SQ.loadOne isAgg44 kr I<|cO (v:=.slice ex ey ez) 2 I I)<|lW (cL call27 I<|xU E g10 _ _ _ 5 hSe.2 (nj _ _).1) ?_;rintro v81 _ _ ⟨rfl,rfl,hl81⟩;rw[AW.2] at hl81;obtain ⟨lp,lc,rfl⟩:=za4 hl81;have hbl:based (.slice lp 2 lc)=true:=za6 hl81 dC;refine aT I<|sW I<|lU (SU.eq (v':=vb true) (eQ I I)<|ze5 vb<|zg2 I)<|lM I<|lY I I I (fA bM I bt I)<|SL.gq (gT I I I dC) (qL (v:=.slice a1 8 a3) de I<|cO 12 I I) dC<|lY I I I (eN aI I)<|lY I I I (SU.eq (v':=vb true) (eQ I I)<|ze5 vb<|zg2 I)<|yP I<|lM I<|yC I<|lY I I I (SU.eq (v':=vb true) (eQ I I)<|ze5 vb<|zg2 I)<|yP I<|lM I<|yC I<|lY I I I (SU.eq (v':=vb true) (eQ I I)<|ze5 vb<|zg2 I)<|yP I<|lM I<|lY I I I (fA bM I bt I)<|SL.gq (gT I I I dC) (qL (v:=.slice c1 6 c3) de I<|cO 8 I I) dC<|lY I I I (eN aI I)<|lY I I I (SU.eq (v':=vb true) (eQ I I)<|ze5 vb<|zg2 I)<|yP I<|lM I<|lY I I I (fA zm I zT4 I)<|SL.gq (gT I I I dC) (qL (v:=vb true) isAgg4 I<|cO 7 I I) dC<|yP I<|aT I<|sW I<|lU (SU.eq (v':=vb true) (eQ I I)<|ze5 vb<|zg2 I)<|lM I<|lY I I I (fA aq I aJ I)<|SL.gq (gT I I I dC) (qL (v:=.slice zp 4 zc) aX I<|cO 4 I I) dC<|lY I I I (eN aM I)<|lY I I I (SU.eq (v':=vb true) (eQ I I)<|ze5 vb<|zg2 I)<|yP I<|lM I<|lY I I I (fA aq I aJ I)<|SL.gq (gT I I I dC) (qL (v:=.slice zp 4 zc) aX I<|cO 4 I I) dC<|lY I I I (iA aM aH I I hbz dC (by show (3:Int)<4; decide)) ?_;refine SL.gq (gT I I I dC) (eA (a:=(⟨11,1⟩:Side)) eK aH I (za7 hzs) I) dC<|lY I I I (za3 I<|buildS55 _ _)<|lY I I I (SU.eq (SU.eqlSide ⟨11,1⟩ ⟨11,1⟩ I I)<|ze5 vb<|zg2 I)<|yP I<|aT I<|sQ ?_;refine dW [] [(0,2),(1,2),(2,2),(3,2),(4,2),(5,2),(6,2),(7,2),(8,2),(9,2),(10,2),(11,2),(12,2),(13,2),(14,2),(15,2),(16,1),(17,0),(18,2),(19,2),(20,2),(21,2),(22,2),(23,2),(24,2),(25,2)] ze6 kR ?_;refine yM I<|yM I<|yJ I<|pU I (wT I I)<|yM I<|yJ I<|zb3 I (gT I I I dC) (SU.eq (v':=vb true) (eQ I I)<|ze5 vb<|zg2 I) dC<|pU I (wT I I)<|yM I<|yJ I<|zb3 I (gT I I I dC) (eN zk I) dC<|zb3 I (gT I I I dC) (SU.eq (v':=vb true) (eQ I I)<|ze5 vb<|zg2 I) dC<|pU I (wT I I)<|yM I<|yJ I<|zb3 I (gT I I I dC) (iA zk sizeOf77 I I hbl dC (by show (0:Int)<2; decide)) dC ?_;refine SP.gq I (gT I I I dC) (eA (a:=((4,1):Tm)) isAgg77 sizeOf77 I (za7 hl81) I) dC<|SP.go I (gT I I I dC) (cL call28 I<|mg E g10 _ 1 dC dC) dC (.inr iR) ?_;rintro _ g11 _ ⟨rfl,rfl,hle11⟩;refine zb3 I (gT I I I dC) (za3 I<|build77 _ _ _) dC<|zb3 I (gT I I I dC) (SU.eqlTmT (4,1) I I) dC<|pU I (wT I I)<|yM I<|yJ I<|zb3 I (gT I I I dC) (SU.eq (v':=vb true) (eQ I I)<|ze5 vb<|zg2 I) dC<|pU I (wT I I)<|pU I (aS I)<|pN<|tN<|rE<|dR (s':=s) uR ?_;exact za8 (.inl I) results10 I ⟨I,I,hac.trans hle11⟩
end Go.Proofs.YtackilpikhkijaaGreatDoor
namespace Go.Sy
open Go
section
variable {P:Program}{N:Nat}{E:World}{f:Fr}{g:PH}{s:Own}{fn:Func}{R:Value→PH→Own→Prop}{e:Exit}
theorem ST.retC3 {T U:TypeId}{t u q m b k:Nat}{cs:Array Value}{fr:Nat×Nat}{x y z:Value}(i:Nat)(s':Own)(he:e = .ret∨e = .normal)(hr:fn.results = #[.cell t T,.tmp u,.tmp q,.tmp m])(hv:bg f t=some (pp b 0))(hu:bg f u=some x)(hq:bg f q=some y)(hm:bg f m=some z)
  (hT:∀ w,(isAgg T).run P w = .ok true w) (hk:∀ w,(sizeOf T).run P w = .ok k w)
  (hs:s[i]?=some (pt b<|.cells cs U fr)) (hc:cs.size=k) (hs':s'.Sublist s) (hR:R (.tuple #[.agg cs,x,y,z]) g s'):ST N E (bodyPost P fn<|mX E R) e f g s :=
 fun a w ha hw=>by
  have h1:=ee (P:=P) hw hT (by rw[hc]; exact hk) hs;have h2:=ha.at_ t _ hv;have h5:=ha.at_ u _ hu;have h6:=ha.at_ q _ hq;have h7:=ha.at_ m _ hm;simp only[Array.getD_eq_getD_getElem?] at h2 h5 h6 h7;have h3:(results fn a.tmps).run P w = .ok (.tuple #[.agg cs,x,y,z]) w:=by simp[results,hr,asAddr,pp,h2,h1,h5,h6,h7]
  have h4:mX E R (.returned<|.tuple #[.agg cs,x,y,z]) w:=⟨_,g,s',rfl,hw.sublist hs',hR⟩
  rcases he with rfl | rfl
  ·exact⟨ha.defers,_,h3,h4⟩
  ·exact⟨ha.defers,_,h3,h4⟩
end
end Go.Sy
