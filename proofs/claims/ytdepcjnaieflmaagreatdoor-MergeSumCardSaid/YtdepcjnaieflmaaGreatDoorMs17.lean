/- 17 -/
import Derived.Test.YtdepcjnaieflmaaGreatDoorMs16
set_option linter.unusedSimpArgs false
set_option linter.unusedVariables false
namespace Go.Proofs.YtdepcjnaieflmaaGreatDoor
open _root_.Go.Proofs.Tryz _root_.Go.Proofs.YtdepcjnaieflmaaGreatDoor.Tryz
open Go Go.Sy Go.Pl Go.Proofs
set_option maxRecDepth 100000
set_option maxHeartbeats 4000000
theorem vq {es:List Ed}{k:Nat}(h:k<es.length)(A:List Cl)(ss:List Stp):oe A ss k (es.drop k)=if (dT A es[k]).1=0 then oe (dT A es[k]).2 (ss++[imO A es[k]]) (k+1) (es.drop<|k+1) else (((dT A es[k]).1,(k:Int)),[],[]):=by
 rw[zg9 h];rfl
theorem zu {es:List Ed}{k:Nat}(h:es.length≤k)(A:List Cl)(ss:List Stp):oe A ss k (es.drop k)=((0,0),A,ss):=by
 rw[List.drop_of_length_le h];rfl
theorem jO {g:PH}{p:Option Addr}{n c:Nat}{l:List Cl}(h:ai g (.slice p n c) l):n=l.length:=by
 obtain ⟨q,d,e⟩:=h.form;injection e
theorem zI.nil {g:PH}{code i:Int}:zI ((code,i),[],[]) (.tuple #[.agg #[.slice none 0 0],.slice none 0 0,vi i,vi code]) g:=⟨_,none,0,0,rfl,ai.nil g,Sts.nil g⟩
theorem Ck (E:World)(g:PH)(s:Own)(v ev:Value)(l:List Cl)(es:List Ed)(N:ai g v l)(O:aK l)(he:Eds g ev es)(hs:∀ e∈es,FX e)(a2:es.length<1099511627776) :
  Ctr Tryz.prog E 12 #[.agg #[v],ev] g s (fun r g' s'=>s=s'∧Le g g'∧zI (ir l es) r g'):=by
 obtain ⟨p,c,rfl⟩:=N.form;obtain ⟨rs,G,n⟩:=he;have a3:=n.length;obtain ⟨R,ce,rfl⟩:=za4 G;refine zb2 (args:=[.agg #[.slice p l.length c],.slice R rs.length ce]) func12 I ntmps12 (bE I)<|rZ (bW (bO I) fun P=>?_);refine bW (aL zm2) fun Q=>lA I<|lA I<|aT I<|sQ<|bK<|sW I<|lU (eN ui I)<|lU (gR I I)<|aT I<|iP I (fun h0=>?_) (fun h0=>?_)
 ·have H:ir l es=((2,0),[],[]):=by unfold ir;rw[zg4 oM]
  refine rZ<|lU (za3 I buildE29)<|oZ (sK 0 ag I I I I I sB)<|lA I<|lA I<|aT I<|rE<|bR<|tR ?_;rw[H];exact ST.retC3 0 s (.inl I) results12 I I I I aj ag I I (.cons _<|.cons _<|.refl _) ⟨I,zb9 _,zI.nil⟩
 ·by_cases hr:(aq l).2=0
  ·have H:ir l es=oe (aa l) [] 0 es:=by unfold ir;rw[zg3 oM,zg3 oM]
   refine rZ<|lK (qV 1 aj ag I I I)<|lW (SO.call call45 I<|mn E g _ _ l N O true<|zg2 hr) ?_;rintro _ _ _ ⟨rfl,rfl,rfl⟩;refine lU (SU.not I)<|aT I<|za1 I<|kP<|bN<|tN<|rZ<|lK (qV 1 aj ag I I I)<|lW (SO.call call34 I<|e8 E g _ _ l N O) ?_;rintro _ g1 _ ⟨rfl,j,u1,rfl,hA⟩;obtain ⟨p1,c1,rfl⟩:=hA.form;refine oZ (sK 1 ag I I I I I sB)<|tZ<|rZ<|aT I<|sQ<|sW I<|lU (eN ui I)<|lM I<|tZ<|bK ?_;rw[H];have S:=aB O;generalize aa l=A at *;refine zb6 92 2<|oP (ι:=Nat×PH×List Cl×Option Addr×Nat×Value×List Sr×List Stp) (fun i=>[(2,pp P 0),(4,pp Q 0),(8,i.2.2.2.2.2.1),(26,.slice R rs.length ce),(27,vi rs.length),(28,vi i.1)]) (fun i=>i.2.1) (fun i=>rowA oC 92 i.2.2.2.2.2.1 i.2.2.2.2.2.2.1::pt Q (bY #[.slice none 0 0] 29)::pt P (bY #[.slice i.2.2.2.1 i.2.2.1.length i.2.2.2.2.1] 29)::s)
    (fun i=>i.1≤es.length∧Le g1 i.2.1∧ai i.2.1 (.slice i.2.2.2.1 i.2.2.1.length i.2.2.2.2.1) i.2.2.1∧aK i.2.2.1∧ax (StK i.2.1) i.2.2.2.2.2.2.2 i.2.2.2.2.2.2.1∧i.2.2.2.2.2.2.1.length=i.1∧oe A [] 0 es=oe i.2.2.1 i.2.2.2.2.2.2.2 i.1 (es.drop i.1)) (fun i=>es.length - i.1)
    (0,g1,A,p1,c1,.slice none 0 0,[],[]) sB rfl rfl ⟨zf9 _,zb9 _,hA,S,trivial,rfl,rfl⟩ ?_
   rintro ⟨k,gk,B,pk,ck,ov,acc,ss⟩ ⟨hk,d,hB,J,m,T,b⟩;dsimp only at hk d hB J m T b ⊢;refine rZ<|yL I<|tZ<|sQ<|iP I (fun U=>?_) (fun U=>?_)
   ·have C:k<es.length:=oM;have K:k<rs.length:=oM;have L:=za5 G<|j.trans d;have V:=za6 L oM;have W:rs[((k:Nat):Int).toNat]?=some rs[k]:=List.getElem?_eq_getElem K;have X:=(n.get (List.getElem?_eq_getElem C)<|List.getElem?_eq_getElem K).mono<|j.trans d;have Y:=hs _<|gM C;rw[vq C] at b;generalize es[k]=e at *;generalize rs[k]=x at *;obtain ⟨x1,x2,x3,x4,x5,⟨x6,x7,x8⟩,⟨x9,a4,a5⟩⟩:=x;have Z:=o5 B e;refine kP<|tN<|SC.cut (ι:=PH×Option Addr×Nat×Value×Sr) (fun i=>[(2,pp P 0),(4,pp Q 0),(8,i.2.2.2.1),(26,.slice R rs.length ce),(27,vi rs.length),(28,vi k)]) (fun i=>i.1) (fun i=>rowA oC 92 i.2.2.2.1 (acc++[i.2.2.2.2])::pt Q (bY #[.slice none 0 0] 29)::pt P (bY #[.slice i.2.1 (dT B e).2.length i.2.2.1] 29)::s)
     (fun i=>Le gk i.1∧ai i.1 (.slice i.2.1 (dT B e).2.length i.2.2.1) (dT B e).2∧StK i.1 (imO B e) i.2.2.2.2∧oe A [] 0 es=oe (dT B e).2 (ss++[imO B e]) (k+1) (es.drop<|k+1)) ?_ ?_
    ·refine bK (sW I<|lU (iA ui eG I I V oM sL)<|lK (SQ.elemA j4 eG I (za7 L) W)<|bW (aL zl4) fun a9=>?_);refine lA I<|oZ (sK 0 eG rfl rfl rfl rfl rfl<|by (repeat' (first | exact trivial | refine⟨by rfl,?_⟩))) ?_;refine tZ<|rZ<|lK (qV 3 aj ag I I I)<|lK (qV 0 j4 eG I I I)<|lW (SO.call call46 I<|Y E gk _ _ _ B hB J X) ?_;rintro _ g2 _ ⟨rfl,a,hR⟩;obtain ⟨⟨d1,d2,d3⟩,⟨⟨t,w,y⟩,z⟩,rfl,D,F⟩:=hR.one;have a0:=jO D;subst a0;refine lM I (yX I<|yX I<|yX I<|bW (aL zm2) fun b0=>?_);refine bW (aL zl7) fun b1=>?_;refine oZ (sK 1 ag I I I I I sB) ?_;refine oZ (sK 0 bT I I I I I sB) ?_;refine aT I<|sQ<|sW I<|lU (nQ I I)<|tZ ?_;refine iP I (fun hz=>?_) (fun hz=>?_)
     ·refine rZ<|lU (za3 I buildE29)<|lM I<|lM I<|oZ (sK 4 ag I I I I I sB)<|lA I<|lA I<|aT I<|rE<|tR<|bR<|tR<|tR<|bR<|tR ?_;rw[zg3 hz] at b;rw[b];exact ST.retC3 4 s (.inl I) results12 I I I I aj ag I I (.cons _<|.cons _<|.cons _<|.cons _<|.cons _<|.cons _<|.refl _) ⟨I,j.trans<|d.trans a,zI.nil⟩
     ·have hz:=Decidable.not_not.1 hz;rw[zg4 hz] at b;refine kP<|tN ?_;refine SC.drawX [4,5] ze6 kR ?_;refine SX.u (i:=1) I kR (mV I) dC<|SX.q (i:=2) I kR (qV 0 gK bT I I I) dC ?_;refine zd9 0 3 kR ?_ ?_
      ·refine SB.o (i:=0) I (SQ.sof<|qV 1 aj ag I I I) dC (.inr iR) ?_;rintro _ _ _ ⟨rfl,rfl,rfl⟩;refine zd8 3 kR ?_
       ·refine SB.o (i:=3) I (bS sty44 I I I (ae ⟨I,trivial⟩) dC) dC (.inr iR) ?_;rintro _ _ _ ⟨a1,rfl,rfl,rfl⟩;refine zd8 4 kR ?_
        ·refine SB.o (i:=4) I (aP (e:=oC) (l:=acc) 3 ⟨⟨t,w,y⟩,z⟩ sty44 I I I I I oM oM) dC (.inl dC) ?_;rintro f _ _ ⟨rfl,rfl⟩;refine zd8 5 kR ?_
         ·refine SB.on (i:=5) I (sK 5 ag I I I I I sB) (.inl dC) ?_;rintro _ _ _ ⟨rfl,rfl⟩;refine SX.u (i:=6) I kR (aS I) dC<|SX.nil kR<|bN ?_;refine dR (.cons _<|.cons _<|.cons _<|.refl _) ?_;exact za9 (g2,d1,d3,f,⟨⟨t,w,y⟩,z⟩) sB I I ⟨a,D,F,b⟩
      ·refine SB.o (i:=3) I (bS sty44 I I I (ae ⟨I,trivial⟩) dC) dC (.inr iR) ?_;rintro _ _ _ ⟨a1,rfl,rfl,rfl⟩;refine zd9 0 4 kR ?_ ?_
       ·refine SB.o (i:=0) I (SQ.sof<|qV 2 aj ag I I I) dC (.inr iR) ?_;rintro _ _ _ ⟨rfl,rfl,rfl⟩;refine zd8 4 kR ?_
        ·refine SB.o (i:=4) I (aP (e:=oC) (l:=acc) 3 ⟨⟨t,w,y⟩,z⟩ sty44 I I I I I oM oM) dC (.inl dC) ?_;rintro f _ _ ⟨rfl,rfl⟩;refine zd8 5 kR ?_
         ·refine SB.on (i:=5) I (sK 5 ag I I I I I sB) (.inl dC) ?_;rintro _ _ _ ⟨rfl,rfl⟩;refine SX.u (i:=6) I kR (aS I) dC<|SX.nil kR<|bN ?_;refine dR (.cons _<|.cons _<|.cons _<|.refl _) ?_;exact za9 (g2,d1,d3,f,⟨⟨t,w,y⟩,z⟩) sB I I ⟨a,D,F,b⟩
       ·refine SB.o (i:=4) I (aP (e:=oC) (l:=acc) 3 ⟨⟨t,w,y⟩,z⟩ sty44 I I I I I oM oM) dC (.inl dC) ?_;rintro f _ _ ⟨rfl,rfl⟩;refine zd8 0 kR ?_
        ·refine SB.ob (i:=0) I (SQ.sof<|qV 1 aj ag I I I) dC kR ?_;rintro _ _ _ ⟨rfl,rfl,rfl⟩;refine zd8 5 kR ?_
         ·refine SB.on (i:=5) I (sK 5 ag I I I I I sB) (.inl dC) ?_;rintro _ _ _ ⟨rfl,rfl⟩;refine SX.u (i:=6) I kR (aS I) dC<|SX.nil kR<|bN ?_;refine dR (.cons _<|.cons _<|.cons _<|.refl _) ?_;exact za9 (g2,d1,d3,f,⟨⟨t,w,y⟩,z⟩) sB I I ⟨a,D,F,b⟩
    rintro ⟨g2,d1,d3,f,⟨⟨t,w,y⟩,z⟩⟩ ⟨a,D,F,b⟩;dsimp only at a D F b ⊢;exact rG<|yD I<|lM I<|SL.nil<|ST.again (k+1,g2,(dT B e).2,d1,d3,f,acc++[⟨⟨t,w,y⟩,z⟩],ss++[imO B e]) sB I I ⟨by dsimp only;omega,d.trans a,D,Z,(m.mono fun _ _=>StK.mono a).append ⟨F,trivial⟩,by dsimp only;rw[ze8,zf1];omega,b⟩ (by dsimp only;omega)
   ·rw[zu oM] at b;refine xI (tX<|tX<|bX<|tN<|sQ<|zd6 fun g2 a M=>?_);obtain ⟨q2,d2,rfl⟩:=zc3 M;refine rG<|lK (qV 1 aj ag I I I)<|lM I<|oZ (sK 0 ag I I I I I sB)<|lA I<|lA I<|aT I<|rE ?_;rw[b];exact ST.retC3 0 s (.inl I) results12 I I I I aj ag I I (.cons _<|.cons _<|.refl _) ⟨I,j.trans<|d.trans a,_,_,_,_,I,hB.mono a,acc,M,m.mono fun _ _=>StK.mono a⟩
  ·have H:ir l es=((1,0),[],[]):=by unfold ir;rw[zg3 oM,zg4 hr]
   refine rZ<|lK (qV 1 aj ag I I I)<|lW (SO.call call45 I<|mn E g _ _ l N O false<|zg1 hr) ?_;rintro _ _ _ ⟨rfl,rfl,rfl⟩;refine lU (SU.not I)<|aT I<|za2 I<|rZ<|lU (za3 I buildE29)<|oZ (sK 0 ag I I I I I sB)<|lA I<|lA I<|aT I<|rE<|bR<|tR ?_;rw[H];exact ST.retC3 0 s (.inl I) results12 I I I I aj ag I I (.cons _<|.cons _<|.refl _) ⟨I,zb9 _,zI.nil⟩
theorem sn (E:World)(g:PH)(s:Own)(v ev:Value)(l:List Cl)(es:List Ed)(X:ai g v l)(Y:aK l)(he:Eds g ev es)(hs:∀ e∈es,EdS e)(b0:es.length<1099511627776) :
  Ctr Tryz.prog E 23 #[.agg #[v],ev] g s (fun r g' s'=>s=s'∧Le g g'∧zI (ir l es) r g'):=by
 obtain ⟨p,c,rfl⟩:=X.form;obtain ⟨rs,P,F⟩:=he;have b1:=F.length;obtain ⟨Z,ce,rfl⟩:=za4 P;refine zb2 (args:=[.agg #[.slice p l.length c],.slice Z rs.length ce]) func23 I ntmps23 (bE I)<|rZ (bW (bO I) fun b2=>?_);refine bW (aL zm2) fun U=>lA I<|lA I<|aT I<|sQ<|sW I<|lU (eN ui I)<|lU (gR I I)<|tZ<|iP I (fun h0=>?_) (fun h0=>?_)
 ·have Q:ir l es=((2,0),[],[]):=by unfold ir;rw[zg4 oM]
  refine rZ<|lU (za3 I buildE29)<|oZ (sK 0 ag I I I I I sB)<|lA I<|lA I<|aT I<|rE<|tR ?_;rw[Q];exact ST.retC3 0 s (.inl I) results23 I I I I aj ag I I (.cons _<|.cons _<|.refl _) ⟨I,zb9 _,zI.nil⟩
 ·refine kP<|tN<|rZ<|lK (qV 1 aj ag I I I)<|lW (SO.call call52 I<|dX E g _ _ l X Y) ?_;rintro _ g0 _ ⟨rfl,rfl,w⟩;rw[dM];have a0:=X.mono w;refine aT I<|sQ<|sW I<|lU (SU.notP I)<|tZ<|iP I (fun hr=>?_) (fun hr=>?_)
  ·have Q:ir l es=((1,0),[],[]):=by unfold ir;rw[zg3 oM,zg4 hr]
   refine rZ<|lU (za3 I buildE29)<|oZ (sK 0 ag I I I I I sB)<|lA I<|lA I<|aT I<|rE<|tR ?_;rw[Q];exact ST.retC3 0 s (.inl I) results23 I I I I aj ag I I (.cons _<|.cons _<|.refl _) ⟨I,w,zI.nil⟩
  ·have Q:ir l es=oe (aa l) [] 0 es:=by unfold ir;rw[zg3 oM,zg3 hr]
   refine kP<|tN<|rZ<|lK (qV 1 aj ag I I I)<|lW (SO.call call77 I<|cd E g0 _ _ l a0 Y) ?_;rintro _ g1 _ ⟨rfl,f,u1,rfl,hA⟩;obtain ⟨p1,c1,rfl⟩:=hA.form;have f:=w.trans f;refine bW (aL zm2) fun V=>oZ (sK 0 ag I I I I I sB)<|tZ<|rZ<|aT I<|sQ<|rZ<|aT I<|bK ?_;rw[Q];have a1:=aB Y;generalize aa l=A at *;refine zb6 92 2<|oP (ι:=Nat×PH×List Cl×Option Addr×Nat×Value×List Sr×List Stp) (fun i=>[(1,.slice Z rs.length ce),(4,pp U 0),(9,pp V 0),(10,i.2.2.2.2.2.1),(11,vi i.1)]) (fun i=>i.2.1) (fun i=>rowA oC 92 i.2.2.2.2.2.1 i.2.2.2.2.2.2.1::pt V (bY #[.slice i.2.2.2.1 i.2.2.1.length i.2.2.2.2.1] 29)::pt U (bY #[.slice none 0 0] 29)::pt b2 (bY #[.slice p l.length c] 29)::s)
    (fun i=>i.1≤es.length∧Le g1 i.2.1∧ai i.2.1 (.slice i.2.2.2.1 i.2.2.1.length i.2.2.2.2.1) i.2.2.1∧aK i.2.2.1∧ax (StK i.2.1) i.2.2.2.2.2.2.2 i.2.2.2.2.2.2.1∧i.2.2.2.2.2.2.1.length=i.1∧oe A [] 0 es=oe i.2.2.1 i.2.2.2.2.2.2.2 i.1 (es.drop i.1)) (fun i=>es.length - i.1)
    (0,g1,A,p1,c1,.slice none 0 0,[],[]) sB rfl rfl ⟨zf9 _,zb9 _,hA,a1,trivial,rfl,rfl⟩ ?_
   rintro ⟨k,W,B,pk,ck,ov,acc,ss⟩ ⟨hk,j,hB,D,y,a2,m⟩;dsimp only at hk j hB D y a2 m ⊢;refine sQ<|sW I<|lM I<|lU (eN ui I)<|yL I<|tZ<|iP I (fun a3=>?_) (fun a3=>?_)
   ·have H:k<es.length:=oM;have R:k<rs.length:=oM;have S:=za5 P<|f.trans j;have a4:=za6 S oM;have a5:rs[((k:Nat):Int).toNat]?=some rs[k]:=List.getElem?_eq_getElem R;have J:=(F.get (List.getElem?_eq_getElem H)<|List.getElem?_eq_getElem R).mono<|f.trans j;have t:=hs _<|gM H;rw[vq H] at m;generalize es[k]=e at *;generalize rs[k]=x at *;obtain ⟨x1,x2,x3,x4,x5,⟨x6,x7,x8⟩,⟨x9,b3,b5⟩⟩:=x;have a9:=o5 B e;refine kP<|tN<|sQ<|bK<|SC.cut (ι:=Nat×Nat×PH×Sv×Sr) (fun i=>[(1,.slice Z rs.length ce),(4,pp U 0),(9,pp V 0),(10,ov),(11,vi k),(12,pp i.1 0),(13,pp i.2.1 0),(14,vi (dT B e).1)]) (fun i=>i.2.2.1) (fun i=>pt i.2.1 (bY #[.slice i.2.2.2.2.sv.p i.2.2.2.2.sv.n i.2.2.2.2.sv.c,vb i.2.2.2.2.bk] 92)::pt i.1 (bY #[.slice i.2.2.2.1.p (dT B e).2.length i.2.2.2.1.c] 29)::rowA oC 92 ov acc::pt V (bY #[.slice pk B.length ck] 29)::pt U (bY #[.slice none 0 0] 29)::pt b2 (bY #[.slice p l.length c] 29)::s)
     (fun i=>Le W i.2.2.1∧ai i.2.2.1 (.slice i.2.2.2.1.p (dT B e).2.length i.2.2.2.1.c) (dT B e).2∧StK i.2.2.1 (imO B e) i.2.2.2.2) ?_ ?_
    ·refine SC.drawX [12,13] ze6 kR ?_;refine SX.q (i:=0) I kR (qV (by exact 1) aj ag I I I) dC ?_;refine SX.u (i:=1) I kR (mV I) dC<|SX.u (i:=2) I kR (mV I) dC<|SX.u (i:=3) I kR (iA ui eG I I a4 oM sL) dC<|SX.q (i:=4) I kR (SQ.elemA j4 eG I (za7 S) a5) dC ?_
     repeat' (first
      | (refine SB.o (i:=5) I (SO.call call78 I<|md E W _ _ _ B e hB D J t.1 (by have:=t.2;omega)) dC (.inr (by rintro _ g2 _ ⟨rfl,a,G⟩;exact⟨by assumption,(by exact .cons _<|.cons _<|.refl _)⟩)) ?_;rintro _ g2 _ ⟨rfl,a,G⟩;obtain ⟨⟨d1,d2,d3⟩,⟨⟨K,L,M⟩,N⟩,rfl,C,O⟩:=G.one;have z:=jO C;subst z;refine SX.u (i:=6) I kD (mV I) dC ?_;refine SX.u (i:=7) I kD (xT I I) dC ?_;refine SX.u (i:=8) I kD (xT I I) dC ?_;refine SX.u (i:=9) I kD (xT I I) dC ?_)
      | (refine SB.o (i:=5) I (SO.call call78 I<|md E W _ _ _ B e hB D J t.1 (by have:=t.2;omega)) dC (.inr (by rintro _ g2 _ ⟨rfl,a,G⟩;exact⟨by assumption,(by exact .cons _<|.refl _)⟩)) ?_;rintro _ g2 _ ⟨rfl,a,G⟩;obtain ⟨⟨d1,d2,d3⟩,⟨⟨K,L,M⟩,N⟩,rfl,C,O⟩:=G.one;have z:=jO C;subst z;refine SX.u (i:=6) I kD (mV I) dC ?_;refine SX.u (i:=7) I kD (xT I I) dC ?_;refine SX.u (i:=8) I kD (xT I I) dC ?_;refine SX.u (i:=9) I kD (xT I I) dC ?_)
      | (refine SB.o (i:=5) I (SO.call call78 I<|md E W _ _ _ B e hB D J t.1 (by have:=t.2;omega)) dC (.inr (by rintro _ g2 _ ⟨rfl,a,G⟩;exact⟨by assumption,(by exact .refl _)⟩)) ?_;rintro _ g2 _ ⟨rfl,a,G⟩;obtain ⟨⟨d1,d2,d3⟩,⟨⟨K,L,M⟩,N⟩,rfl,C,O⟩:=G.one;have z:=jO C;subst z;refine SX.u (i:=6) I kD (mV I) dC ?_;refine SX.u (i:=7) I kD (xT I I) dC ?_;refine SX.u (i:=8) I kD (xT I I) dC ?_;refine SX.u (i:=9) I kD (xT I I) dC ?_)
      | (refine SB.o (i:=10) rfl (aL zm2) dC (.inr (by rintro _ _ _ ⟨b,rfl,rfl,rfl⟩;exact⟨by exact zb9 _,(by exact .cons _<|.cons _<|.refl _)⟩)) ?_;rintro _ _ _ ⟨b,rfl,rfl,rfl⟩)
      | (refine SB.o (i:=10) rfl (aL zm2) dC (.inr (by rintro _ _ _ ⟨b,rfl,rfl,rfl⟩;exact⟨by assumption,(by exact .cons _<|.cons _<|.refl _)⟩)) ?_;rintro _ _ _ ⟨b,rfl,rfl,rfl⟩)
      | (refine SB.o (i:=10) rfl (aL zm2) dC (.inr (by rintro _ _ _ ⟨b,rfl,rfl,rfl⟩;exact⟨by exact zb9 _,(by exact .cons _<|.refl _)⟩)) ?_;rintro _ _ _ ⟨b,rfl,rfl,rfl⟩)
      | (refine SB.o (i:=10) rfl (aL zm2) dC (.inr (by rintro _ _ _ ⟨b,rfl,rfl,rfl⟩;exact⟨by assumption,(by exact .cons _<|.refl _)⟩)) ?_;rintro _ _ _ ⟨b,rfl,rfl,rfl⟩)
      | (refine SB.o (i:=11) rfl (aL zl7) dC (.inr (by rintro _ _ _ ⟨d,rfl,rfl,rfl⟩;exact⟨by exact zb9 _,(by exact .cons _<|.cons _<|.refl _)⟩)) ?_;rintro _ _ _ ⟨d,rfl,rfl,rfl⟩)
      | (refine SB.o (i:=11) rfl (aL zl7) dC (.inr (by rintro _ _ _ ⟨d,rfl,rfl,rfl⟩;exact⟨by assumption,(by exact .cons _<|.cons _<|.refl _)⟩)) ?_;rintro _ _ _ ⟨d,rfl,rfl,rfl⟩)
      | (refine SB.o (i:=11) rfl (aL zl7) dC (.inr (by rintro _ _ _ ⟨d,rfl,rfl,rfl⟩;exact⟨by exact zb9 _,(by exact .cons _<|.refl _)⟩)) ?_;rintro _ _ _ ⟨d,rfl,rfl,rfl⟩)
      | (refine SB.o (i:=11) rfl (aL zl7) dC (.inr (by rintro _ _ _ ⟨d,rfl,rfl,rfl⟩;exact⟨by assumption,(by exact .cons _<|.refl _)⟩)) ?_;rintro _ _ _ ⟨d,rfl,rfl,rfl⟩)
      | (refine SB.on (i:=12) I (sK 1 ag I I I I I sB) (.inl dC) ?_;rintro _ _ _ ⟨rfl,rfl⟩)
      | (refine SB.on (i:=12) I (sK 0 ag I I I I I sB) (.inl dC) ?_;rintro _ _ _ ⟨rfl,rfl⟩)
      | (refine SB.on (i:=13) I (sK 0 bT I I I I I sB) (.inl dC) ?_;rintro _ _ _ ⟨rfl,rfl⟩;refine SX.u (i:=14) I kD (aS I) dC ?_)
      | (refine SB.on (i:=13) I (sK 1 bT I I I I I sB) (.inl dC) ?_;rintro _ _ _ ⟨rfl,rfl⟩;refine SX.u (i:=14) I kD (aS I) dC ?_)
      | refine SX.br3 5 10 11 kD ?_ ?_ ?_
      | refine zd9 10 11 kD ?_ ?_
      | refine zd8 11 kD ?_
      | refine zd8 12 kD ?_
      | refine zd8 13 kD ?_
      | refine zd8 10 kD ?_
      | refine zd9 5 11 kD ?_ ?_
      | refine zd8 5 kD ?_
      | refine zd9 5 10 kD ?_ ?_
      | (refine SX.nil kD ?_;first | exact za9 (b,d,g2,⟨d1,_,d3⟩,⟨⟨K,L,M⟩,N⟩) sB rfl rfl ⟨a,C,O⟩ | (refine ST.perm (zk4 _ _ _) ?_;exact za9 (b,d,g2,⟨d1,0,d3⟩,⟨⟨K,L,M⟩,N⟩) sB I I ⟨a,C,O⟩)))
    rintro ⟨b,d,g2,⟨d1,d2,d3⟩,⟨⟨K,L,M⟩,N⟩⟩ ⟨a,C,O⟩;dsimp only at a C O ⊢;refine sQ<|sW I<|lU (nQ I I)<|tZ<|iP I (fun hz=>?_) (fun hz=>?_)
    ·refine rZ<|lU (za3 I buildE29)<|lM I<|lM I<|oZ (sK 4 ag I I I I I sB)<|lA I<|lA I<|aT I<|rE<|tR<|bR<|tR<|tR<|bR<|tR ?_;rw[zg3 hz] at m;rw[m];exact ST.retC3 4 s (.inl I) results23 I I I I aj ag I I (.cons _<|.cons _<|.cons _<|.cons _<|.cons _<|.cons _<|.refl _) ⟨I,f.trans<|j.trans a,zI.nil⟩
    ·have hz:=Decidable.not_not.1 hz;rw[zg4 hz] at m;refine kP<|tN<|rZ<|lK (qV 1 aj ag I I I)<|oZ (sK 3 ag I I I I I sB)<|tZ<|rG<|lM I<|lK (qV 0 gK bT I I I)<|lW (bS sty44 I I I (ae ⟨I,trivial⟩) dC) ?_;rintro _ _ _ ⟨b6,rfl,rfl,rfl⟩;refine lW (aP (e:=oC) (l:=acc) 2 ⟨⟨K,L,M⟩,N⟩ sty44 I I I I I oM oM) ?_;rintro ov' _ _ ⟨rfl,rfl⟩;exact lA I<|SL.nil<|bN<|tN<|rG<|lM I<|yD I<|lA I<|SL.nil<|dR (.cons _<|.cons _<|.refl _)<|ST.again (k+1,g2,(dT B e).2,d1,d3,ov',acc++[⟨⟨K,L,M⟩,N⟩],ss++[imO B e]) sB I I ⟨by dsimp only;omega,j.trans a,C,a9,(y.mono fun _ _=>StK.mono a).append ⟨O,trivial⟩,by dsimp only;rw[ze8,zf1];omega,m⟩ (by dsimp only;omega)
   ·rw[zu oM] at m;refine xI (tX<|tX<|bX<|tN<|sQ<|zd6 fun g2 a T=>?_);obtain ⟨q2,d2,rfl⟩:=zc3 T;refine rG<|lK (qV 0 aj ag I I I)<|lM I<|oZ (sK 1 ag I I I I I sB)<|lA I<|lA I<|aT I<|rE ?_;rw[m];exact ST.retC3 1 s (.inl I) results23 I I I I aj ag I I (.cons _<|.cons _<|.cons _<|.refl _) ⟨I,f.trans<|j.trans a,_,_,_,_,I,hB.mono a,acc,T,y.mono fun _ _=>StK.mono a⟩
set_option maxHeartbeats 8000000
def zB9:List Cl:=[⟨1,0,[]⟩,⟨2,0,[]⟩,⟨3,0,[]⟩,⟨4,1,[⟨1,-1⟩,⟨2,1⟩]⟩,⟨5,1,[⟨2,-1⟩,⟨3,1⟩]⟩]
def eA:Ed:=⟨1,6,1,0,0,[⟨1,-1⟩,⟨3,1⟩],[]⟩
def eC:Ed:=⟨1,7,0,0,0,[],[]⟩
def eD:Ed:=⟨1,6,1,0,0,[⟨3,-1⟩,⟨1,1⟩],[]⟩
def e5:Ed:=⟨2,5,0,0,0,[],[]⟩
def e3:Ed:=⟨2,3,0,0,0,[],[]⟩
def eT:Ed:=⟨1,5,1,0,0,[⟨3,-1⟩,⟨2,1⟩],[]⟩
def sA:List Cl:=zB9++[⟨6,1,[⟨1,-1⟩,⟨3,1⟩]⟩]
def sC:List Cl:=zB9++[⟨7,0,[]⟩]
def sD:List Cl:=zB9++[⟨6,1,[⟨1,1⟩,⟨3,-1⟩]⟩]
def sE:List Cl:=[⟨1,0,[]⟩,⟨2,0,[]⟩,⟨4,1,[⟨1,-1⟩,⟨2,1⟩]⟩]
def sT:List Cl:=[⟨1,0,[]⟩,⟨2,0,[]⟩,⟨3,0,[]⟩,⟨4,1,[⟨1,-1⟩,⟨2,1⟩]⟩,⟨5,1,[⟨2,1⟩,⟨3,-1⟩]⟩]
theorem Fp:dE [1,2]=[1,2]:=by
 unfold dE;rw[yj dC];rfl
theorem Fk:dB [[0,1],[1,2]]=zB9:=by
 simp only[dB,aX,Fq,Fp];rfl
theorem Ge:(ir zB9 [eA]).2.1=sA:=by kernel_rfl
theorem G9:(ir zB9 [eC]).2.1=sC:=by kernel_rfl
theorem Gc:(ir zB9 [eD]).2.1=sD:=by kernel_rfl
theorem G8:(ir zB9 [e5,e3]).2.1=sE:=by kernel_rfl
theorem Gb:(ir zB9 [e5,eT]).2.1=sT:=by kernel_rfl
theorem Dw:bL (aa zB9) (aa sA) (aa sC)=(sA++[⟨7,0,[]⟩],[]):=by kernel_rfl
theorem Dv:(bL (aa zB9) (aa sA)<|aa sD)=([],[6]):=by kernel_rfl
theorem Du:(bL (aa zB9) (aa sA)<|aa sE)=([],[6]):=by kernel_rfl
theorem ed_E:wD (aa zB9) (aa sE)=[e5,e3]:=by kernel_rfl
theorem ed_T:wD (aa zB9) (aa sT)=[e5,⟨1,5,1,0,0,[⟨2,1⟩,⟨3,-1⟩],[]⟩]:=by kernel_rfl
theorem lv:(aq zB9).2=0∧(aq sA).2=0∧(aq sC).2=0∧(aq sD).2=0∧(aq sE).2=0∧(aq sT).2=0:=by decide +kernel
theorem G7 {es:List Ed}(h:∀ e∈es,e.sides.length<1099511627776∧(e.kind=1∨e.kind=2)):∀ e∈es,FX e:=fun e a=>FQ (h e a).1 (h e a).2
theorem mQ {es:List Ed}(h:es.all (fun e=>decide (e.sides.length<1099511627776∧(e.kind=1∨e.kind=2)))=true):∀ e∈es,FX e:=G7 fun e a=>zg6 (p:=e.sides.length<1099511627776∧(e.kind=1∨e.kind=2)) (zk3.1 h e a)
theorem dP (E:World)(g:PH)(s:Own)(v ev:Value)(l:List Cl)(es:List Ed)(d:ai g v l)(j:aK l)(f:Eds g ev es)(k:∀ e∈es,FX e)(b:es.length<1099511627776) :
  Ctr Tryz.prog E 19 #[.agg #[v],ev] g s (fun r g' s'=>s=s'∧Le g g'∧∃ u,r = .agg #[u]∧ai g' u (ir l es).2.1):=by
 obtain ⟨p,c,rfl⟩:=d.form;obtain ⟨m,ce,rfl⟩:=f.form;refine zb2 (args:=[.agg #[.slice p l.length c],.slice m es.length ce]) func19 I ntmps19 (bE I)<|rZ (bW (bO I) fun o=>?_);refine bW (aL zm2) fun q=>tZ<|rZ<|lK (qV 1 aj ag I I I)<|lM I<|lW (SO.call call12 I<|Ck E g _ _ _ l es d j f k b) ?_;rintro _ g1 _ ⟨rfl,a,n⟩;obtain ⟨u,t,w,c1,rfl,i,x⟩:=n;obtain ⟨pu,y,rfl⟩:=i.form;refine lM I (yX I<|yX I<|yX I<|yX I<|bW (aL zm2) fun z=>?_);exact oZ (sK 0 ag I I I I I sB)<|lA I<|lA I<|aT I<|rZ<|lK (qV 0 aj ag I I I)<|oZ (sK 1 ag I I I I I sB)<|tZ<|rE<|ST.retCD 1 s (.inl I) results19 I aj ag I I uR ⟨I,a,_,I,i⟩
theorem fQ (E:World)(g:PH)(s:Own)(id a b:Int) :
  Ctr Tryz.prog E 20 #[vi id,vi a,vi b] g s (fun r g' s'=>s=s'∧Le g g'∧EdR g' r ⟨1,id,1,0,0,[⟨a,-1⟩,⟨b,1⟩],[]⟩):=by
 refine zb2 (args:=[vi id,vi a,vi b]) func20 I ntmps20 (bE I)<|rZ (bW (aL zl4) fun i=>?_);refine tZ<|sW I<|lM I<|lU (za3 I<|buildS80 _ _)<|lM I<|lU (za3 I<|buildS80 _ _)<|lW (bS sty35 I I I (ae sB) dC) ?_;rintro _ _ _ ⟨d,rfl,rfl,rfl⟩;refine zb5 fun g1 c e=>?_;have f:SlA encSide g1 (.slice (some ⟨d,0,none⟩) 2 2) [⟨a,-1⟩,⟨b,1⟩]:=SlA.lit e rfl rfl;refine lU (za3 I<|xA58 _ _ _ _ _ _)<|oZ (sK 0 eG rfl rfl rfl rfl rfl<|by (repeat' (first | exact trivial | refine⟨by rfl,?_⟩))) ?_;refine tZ<|rE ?_;exact ST.retCD 0 s (.inl I) results20 I j4 eG I I uR ⟨I,c,_,_,I,f,zc1 _ _⟩
theorem ez:aK zB9:=jX dC dC
theorem wm:aK sA:=jX dC dC
theorem Fu:aK sC:=jX dC dC
theorem Ft:aK sD:=jX dC dC
theorem Bo:aK sE:=jX dC dC
theorem Fs:aK sT:=jX dC dC
theorem wl {b l r:List Cl}(h:(b++(l++r)).all (fun c=>decide (0≤c.id∧c.id<1000))=true):∀ x,x∈b∨x∈l∨x∈r→a8 x.id:=by
 intro x a;have d:=zk3.1 h x (by simpa using a);have e:=zg6 d;exact⟨oM,oM⟩
theorem uW {g:PH}{e:Ed}{r:Er}(h:EdK g e r):r.kind=e.kind∧r.cell=e.cell:=by
 obtain ⟨sv,pv,a,_,_⟩:=h;have e2:il.enc r=[vi e.kind,vi e.cell,vi e.dim,vi e.new,vi e.other,sv,pv]:=by
  have e3:(il.enc r).toArray = #[vi e.kind,vi e.cell,vi e.dim,vi e.new,vi e.other,sv,pv]:=Value.agg.inj a;exact ze5 Array.toList e3
 exact⟨(Value.int.inj (List.cons.inj e2).1).2,(Value.int.inj (List.cons.inj (List.cons.inj e2).2).1).2⟩
theorem Bg {g:PH}{v:Value}{a b:Ed}(h:Eds g v [a,b]):∃ d1 c d s1 e d2 f i s2 j,SlA il g v [⟨a.kind,a.cell,d1,c,d,s1,e⟩,⟨b.kind,b.cell,d2,f,i,s2,j⟩]:=by
 obtain ⟨rs,k,l⟩:=h;obtain ⟨r,m,rfl,hr,n⟩:=ax.cons_left l;obtain ⟨q,m2,rfl,hq,o⟩:=ax.cons_left n;obtain rfl:=ax.nil_left o;obtain ⟨p,s⟩:=uW hr;obtain ⟨e3,t⟩:=uW hq;refine⟨r.dim,r.new,r.other,r.sv,r.pv,q.dim,q.new,q.other,q.sv,q.pv,?_⟩;rw[← p,← s,← e3,← t];exact k
theorem dv {g:PH}{v:Value}{n:Nat}{l:List Cl}(h:ai g v l)(hl:l.length=n):∃ p c,v = .slice p n c:=by
 subst hl;exact h.form
theorem jJ {g:PH}{v:Value}{n:Nat}{l:List Int}(h:dw g v l)(hl:l.length=n):∃ p c,v = .slice p n c:=by
 subst hl;exact za4 h
theorem SX.freeze {P:Program}{N:Nat}{E:World}{ops:Array Oper}{Q:Exit→Act→World→Prop}{g0:PH}{s0:Own}{tail:List Nat}{f:Fr}{g:PH}{s:Own}{L:Array Bool}{n:Nat}{b:Nat}{o:Obj}(h:∀ g',Le g g'→g' b=some o→SX P N E ops Q g0 s0 tail L n f g' s):SX P N E ops Q g0 s0 tail L n f g (pt b o::s):=fun a w i c j d hb=>by
 have e:=d.own (pt b o) dO;simp only[pt,Option.bind_some] at e;obtain ⟨k,l⟩:=d.freeze (b:=b) rfl e;exact h _ l (fh _ _ _) a w i c j k hb
theorem tO (E:World)(N:E.drawn=0)(g:PH)(s:Own):Ctr Tryz.prog E 6 #[] g s (fun r g' s'=>r=vb true∧s=s'∧Le g g'):=by
 refine zb2 (args:=[]) func6 I ntmps6 (bE I)<|rZ<|aT I<|rZ<|lW (bS sty32 I I I (ae sB) dC) ?_;rintro _ _ _ ⟨R,rfl,rfl,rfl⟩;refine zb5 fun g1 b S=>?_;have K:SlA encInt g1 (.slice (some ⟨R,0,none⟩) 2 2) [0,1]:=SlA.lit S rfl rfl;have c:=b;clear b;refine lW (bS sty32 I I I (ae sB) dC) ?_;rintro _ _ _ ⟨T,rfl,rfl,rfl⟩;refine zb5 fun g2 b U=>?_;have V:SlA encInt g2 (.slice (some ⟨T,0,none⟩) 2 2) [1,2]:=SlA.lit U rfl rfl;have K:=za5 K b;have c:=c.trans b;clear b;refine lW (bS sty22 I I I (ae sB) dC) ?_;rintro _ _ _ ⟨c9,rfl,rfl,rfl⟩;refine zb5 fun g3 b W=>?_;have X:cU g3 (.slice (some ⟨c9,0,none⟩) 2 2) [[0,1],[1,2]]:=⟨[jD<|.slice (some ⟨R,0,none⟩) 2 2,jD<|.slice (some ⟨T,0,none⟩) 2 2],SlA.lit W rfl rfl,⟨za5 K b,za5 V b,trivial⟩⟩;have c:=c.trans b;clear b;refine lW (SO.call call18 I<|qx E g3 _ _ _ X dC dC) ?_;rintro _ g4 _ ⟨rfl,b,uB,rfl,hB⟩;rw[Fk] at hB;obtain ⟨pB,cB,rfl⟩:=dv (n:=5) hB rfl;have c:=c.trans b;clear b;refine bW (aL zm2) fun Q=>oZ (sK 0 ag I I I I I sB)<|tZ<|SC.cut (ι:=Nat×PH×Option Addr×Nat) (fun i=>[(1,pp Q 0),(2,pp i.1 0)]) (fun i=>i.2.1) (fun i=>pt i.1 (bY #[.slice i.2.2.1 6 i.2.2.2] 29)::pt Q (bY #[.slice pB 5 cB] 29)::s) (fun i=>Le g4 i.2.1∧ai i.2.1 (.slice i.2.2.1 6 i.2.2.2) sA) ?_ ?_
 ·refine SC.drawX [5] ze6 kR ?_;refine SX.q (i:=0) I kR (qV 0 aj ag I I I) dC ?_
  repeat' (first
   | ((with_reducible refine SB.k 5 ?_);refine SB.on (i:=5) I (sK 0 ag I I I I I ⟨I,trivial⟩) (.inl dC) ?_;rintro _ _ _ ⟨rfl,rfl⟩)
   | ((with_reducible refine SB.k 4 ?_);first | (refine SB.o (i:=4) rfl (aL zm2) dC (.inr (by rintro _ _ _ ⟨bv,rfl,rfl,rfl⟩;exact⟨by assumption,(by exact .cons _<|.refl _)⟩)) ?_;rintro _ _ _ ⟨bv,rfl,rfl,rfl⟩) | (refine SB.o (i:=4) rfl (aL zm2) dC (.inr (by rintro _ _ _ ⟨bv,rfl,rfl,rfl⟩;exact⟨by exact zb9 _,(by exact .cons _<|.refl _)⟩)) ?_;rintro _ _ _ ⟨bv,rfl,rfl,rfl⟩))
   | ((with_reducible refine SB.k 3 ?_);first | (refine SB.o (i:=3) rfl (SO.call call19 rfl<|dP E g6 _ _ _ zB9 [eA] (hB.mono d) ez hq (mQ dC) dC) dC (.inr (by rintro _ g7 _ ⟨rfl,f,L,rfl,t⟩;exact⟨by exact Le.trans io io,(by exact .refl _)⟩)) ?_;rintro _ g7 _ ⟨rfl,f,L,rfl,t⟩;rw[Ge] at t;obtain ⟨pu,M,rfl⟩:=dv (n:=6) t rfl;have w:=d.trans f) | (refine SB.o (i:=3) rfl (SO.call call19 rfl<|dP E g6 _ _ _ zB9 [eA] (hB.mono d) ez hq (mQ dC) dC) dC (.inr (by rintro _ g7 _ ⟨rfl,f,L,rfl,t⟩;exact⟨by exact Le.trans io io,(by exact .cons _<|.refl _)⟩)) ?_;rintro _ g7 _ ⟨rfl,f,L,rfl,t⟩;rw[Ge] at t;obtain ⟨pu,M,rfl⟩:=dv (n:=6) t rfl;have w:=d.trans f))
   | ((with_reducible refine SB.k 2 ?_);first | (refine SB.o (i:=2) rfl (bS sty42 rfl rfl rfl (ae ⟨rfl,trivial⟩) dC) dC (.inr (by rintro _ _ _ ⟨G,rfl,rfl,rfl⟩;exact⟨by assumption,(by exact .cons _<|.refl _)⟩)) ?_;rintro _ _ _ ⟨G,rfl,rfl,rfl⟩;refine SX.freeze fun g6 j y=>?_;have hq:Eds g6 (.slice (some ⟨G,0,none⟩) 1 1) [eA]:=⟨[⟨k1,k2,k3,k4,k5,⟨k6,k7,k8⟩,⟨k9,k10,k11⟩⟩],SlA.lit y rfl rfl,⟨EdK.mono j m,trivial⟩⟩;have d:=l.trans j) | (refine SB.o (i:=2) rfl (bS sty42 rfl rfl rfl (ae ⟨rfl,trivial⟩) dC) dC (.inr (by rintro _ _ _ ⟨G,rfl,rfl,rfl⟩;exact⟨by assumption,(by exact .cons _<|.cons _<|.refl _)⟩)) ?_;rintro _ _ _ ⟨G,rfl,rfl,rfl⟩;refine SX.freeze fun g6 j y=>?_;have hq:Eds g6 (.slice (some ⟨G,0,none⟩) 1 1) [eA]:=⟨[⟨k1,k2,k3,k4,k5,⟨k6,k7,k8⟩,⟨k9,k10,k11⟩⟩],SlA.lit y rfl rfl,⟨EdK.mono j m,trivial⟩⟩;have d:=l.trans j))
   | ((with_reducible refine SB.k 1 ?_);first | (refine SB.o (i:=1) rfl (SO.call call20 rfl<|fQ E g4 _ 6 1 3) dC (.inr (by rintro _ g5 _ ⟨rfl,l,m⟩;exact⟨by assumption,(by exact .refl _)⟩)) ?_;rintro _ g5 _ ⟨rfl,l,m⟩;obtain ⟨⟨k1,k2,k3,k4,k5,⟨k6,k7,k8⟩,⟨k9,k10,k11⟩⟩,rfl,m⟩:=EdR.rc m) | (refine SB.o (i:=1) rfl (SO.call call20 rfl<|fQ E g4 _ 6 1 3) dC (.inr (by rintro _ g5 _ ⟨rfl,l,m⟩;exact⟨by assumption,(by exact .cons _<|.refl _)⟩)) ?_;rintro _ g5 _ ⟨rfl,l,m⟩;obtain ⟨⟨k1,k2,k3,k4,k5,⟨k6,k7,k8⟩,⟨k9,k10,k11⟩⟩,rfl,m⟩:=EdR.rc m))
   | ((with_reducible refine SX.k 4 ?_);first | refine zd8 1 kD ?_ | refine zd9 2 4 kD ?_ ?_)
   | ((with_reducible refine SX.k 3 ?_);first | refine zd8 2 kD ?_ | refine zd9 3 4 kD ?_ ?_)
   | ((with_reducible refine SX.k 2 ?_);first | refine zd8 4 kD ?_ | refine zd8 3 kD ?_)
   | ((with_reducible refine SX.k 1 ?_);refine zd8 5 kD ?_)
   | ((with_reducible refine SX.k 0 ?_);refine SX.nil kD ?_;exact za9 (bv,g7,pu,M) sB I I ⟨w,t⟩)
   | (refine SX.k 5 ?_;refine zd9 1 4 kD ?_ ?_))
 rintro ⟨b2,g8,pA,cA⟩ ⟨b,hA⟩;dsimp only at b hA ⊢;have hB:=hB.mono b;have c:=c.trans b;clear b;refine rZ<|lK (qV 1 aj ag I I I)<|lU (za3 I<|xB58 _ _)<|lW (bS sty42 I I I (ae ⟨I,trivial⟩) dC) ?_;rintro _ _ _ ⟨d0,rfl,rfl,rfl⟩;refine zb5 fun g9 b Y=>?_;have Z:Eds g9 (.slice (some ⟨d0,0,none⟩) 1 1) [eC]:=⟨[⟨1,7,0,0,0,⟨none,0,0⟩,⟨none,0,0⟩⟩],SlA.lit Y rfl rfl,⟨⟨_,_,rfl,zc1 _ _,zc1 _ _⟩,trivial⟩⟩;have hB:=hB.mono b;have hA:=hA.mono b;have c:=c.trans b;clear b;refine lW (SO.call call19 I<|dP E g9 _ _ _ zB9 [eC] hB ez Z (mQ dC) dC) ?_;rintro _ g10 _ ⟨rfl,b,uC,rfl,x⟩;rw[G9] at x;obtain ⟨pC,cC,rfl⟩:=dv (n:=6) x rfl;have hB:=hB.mono b;have hA:=hA.mono b;have c:=c.trans b;clear b;refine bW (aL zm2) fun b3=>oZ (sK 0 ag I I I I I sB)<|tZ<|SC.cut (ι:=Nat×PH×Option Addr×Nat) (fun i=>[(1,pp Q 0),(2,pp b2 0),(3,pp b3 0),(4,pp i.1 0)]) (fun i=>i.2.1) (fun i=>pt i.1 (bY #[.slice i.2.2.1 6 i.2.2.2] 29)::pt b3 (bY #[.slice pC 6 cC] 29)::pt b2 (bY #[.slice pA 6 cA] 29)::pt Q (bY #[.slice pB 5 cB] 29)::s) (fun i=>Le g10 i.2.1∧ai i.2.1 (.slice i.2.2.1 6 i.2.2.2) sD) ?_ ?_
 ·refine SC.drawX [5] ze6 kR ?_;refine SX.q (i:=0) I kR (qV 2 aj ag I I I) dC ?_
  repeat' (first
   | ((with_reducible refine SB.k 5 ?_);refine SB.on (i:=5) I (sK 0 ag I I I I I ⟨I,trivial⟩) (.inl dC) ?_;rintro _ _ _ ⟨rfl,rfl⟩)
   | ((with_reducible refine SB.k 4 ?_);first | (refine SB.o (i:=4) rfl (aL zm2) dC (.inr (by rintro _ _ _ ⟨bv,rfl,rfl,rfl⟩;exact⟨by assumption,(by exact .cons _<|.refl _)⟩)) ?_;rintro _ _ _ ⟨bv,rfl,rfl,rfl⟩) | (refine SB.o (i:=4) rfl (aL zm2) dC (.inr (by rintro _ _ _ ⟨bv,rfl,rfl,rfl⟩;exact⟨by exact zb9 _,(by exact .cons _<|.refl _)⟩)) ?_;rintro _ _ _ ⟨bv,rfl,rfl,rfl⟩))
   | ((with_reducible refine SB.k 3 ?_);first | (refine SB.o (i:=3) rfl (SO.call call19 rfl<|dP E g12 _ _ _ zB9 [eD] (hB.mono d) ez hq (mQ dC) dC) dC (.inr (by rintro _ g13 _ ⟨rfl,f,L,rfl,t⟩;exact⟨by exact Le.trans io io,(by exact .refl _)⟩)) ?_;rintro _ g13 _ ⟨rfl,f,L,rfl,t⟩;rw[Gc] at t;obtain ⟨pu,M,rfl⟩:=dv (n:=6) t rfl;have w:=d.trans f) | (refine SB.o (i:=3) rfl (SO.call call19 rfl<|dP E g12 _ _ _ zB9 [eD] (hB.mono d) ez hq (mQ dC) dC) dC (.inr (by rintro _ g13 _ ⟨rfl,f,L,rfl,t⟩;exact⟨by exact Le.trans io io,(by exact .cons _<|.refl _)⟩)) ?_;rintro _ g13 _ ⟨rfl,f,L,rfl,t⟩;rw[Gc] at t;obtain ⟨pu,M,rfl⟩:=dv (n:=6) t rfl;have w:=d.trans f))
   | ((with_reducible refine SB.k 2 ?_);first | (refine SB.o (i:=2) rfl (bS sty42 rfl rfl rfl (ae ⟨rfl,trivial⟩) dC) dC (.inr (by rintro _ _ _ ⟨G,rfl,rfl,rfl⟩;exact⟨by assumption,(by exact .cons _<|.refl _)⟩)) ?_;rintro _ _ _ ⟨G,rfl,rfl,rfl⟩;refine SX.freeze fun g12 j y=>?_;have hq:Eds g12 (.slice (some ⟨G,0,none⟩) 1 1) [eD]:=⟨[⟨k1,k2,k3,k4,k5,⟨k6,k7,k8⟩,⟨k9,k10,k11⟩⟩],SlA.lit y rfl rfl,⟨EdK.mono j m,trivial⟩⟩;have d:=l.trans j) | (refine SB.o (i:=2) rfl (bS sty42 rfl rfl rfl (ae ⟨rfl,trivial⟩) dC) dC (.inr (by rintro _ _ _ ⟨G,rfl,rfl,rfl⟩;exact⟨by assumption,(by exact .cons _<|.cons _<|.refl _)⟩)) ?_;rintro _ _ _ ⟨G,rfl,rfl,rfl⟩;refine SX.freeze fun g12 j y=>?_;have hq:Eds g12 (.slice (some ⟨G,0,none⟩) 1 1) [eD]:=⟨[⟨k1,k2,k3,k4,k5,⟨k6,k7,k8⟩,⟨k9,k10,k11⟩⟩],SlA.lit y rfl rfl,⟨EdK.mono j m,trivial⟩⟩;have d:=l.trans j))
   | ((with_reducible refine SB.k 1 ?_);first | (refine SB.o (i:=1) rfl (SO.call call20 rfl<|fQ E g10 _ 6 3 1) dC (.inr (by rintro _ g11 _ ⟨rfl,l,m⟩;exact⟨by assumption,(by exact .refl _)⟩)) ?_;rintro _ g11 _ ⟨rfl,l,m⟩;obtain ⟨⟨k1,k2,k3,k4,k5,⟨k6,k7,k8⟩,⟨k9,k10,k11⟩⟩,rfl,m⟩:=EdR.rc m) | (refine SB.o (i:=1) rfl (SO.call call20 rfl<|fQ E g10 _ 6 3 1) dC (.inr (by rintro _ g11 _ ⟨rfl,l,m⟩;exact⟨by assumption,(by exact .cons _<|.refl _)⟩)) ?_;rintro _ g11 _ ⟨rfl,l,m⟩;obtain ⟨⟨k1,k2,k3,k4,k5,⟨k6,k7,k8⟩,⟨k9,k10,k11⟩⟩,rfl,m⟩:=EdR.rc m))
   | ((with_reducible refine SX.k 4 ?_);first | refine zd8 1 kD ?_ | refine zd9 2 4 kD ?_ ?_)
   | ((with_reducible refine SX.k 3 ?_);first | refine zd8 2 kD ?_ | refine zd9 3 4 kD ?_ ?_)
   | ((with_reducible refine SX.k 2 ?_);first | refine zd8 4 kD ?_ | refine zd8 3 kD ?_)
   | ((with_reducible refine SX.k 1 ?_);refine zd8 5 kD ?_)
   | ((with_reducible refine SX.k 0 ?_);refine SX.nil kD ?_;exact za9 (bv,g13,pu,M) sB I I ⟨w,t⟩)
   | (refine SX.k 5 ?_;refine zd9 1 4 kD ?_ ?_))
 rintro ⟨b4,g14,pD,cD⟩ ⟨b,A⟩;dsimp only at b A ⊢;have hB:=hB.mono b;have hA:=hA.mono b;have x:=x.mono b;have c:=c.trans b;clear b;refine rZ<|lK (qV 3 aj ag I I I)<|lU (za3 I<|xB58 _ _)<|lU (za3 I<|xB58 _ _)<|lW (bS sty42 I I I (ae sB) dC) ?_;rintro _ _ _ ⟨d1,rfl,rfl,rfl⟩;refine zb5 fun g15 b a0=>?_;have a1:Eds g15 (.slice (some ⟨d1,0,none⟩) 2 2) [e5,e3]:=⟨[⟨2,5,0,0,0,⟨none,0,0⟩,⟨none,0,0⟩⟩,⟨2,3,0,0,0,⟨none,0,0⟩,⟨none,0,0⟩⟩],SlA.lit a0 rfl rfl,⟨⟨_,_,rfl,zc1 _ _,zc1 _ _⟩,⟨_,_,rfl,zc1 _ _,zc1 _ _⟩,trivial⟩⟩;have hB:=hB.mono b;have hA:=hA.mono b;have x:=x.mono b;have A:=A.mono b;have c:=c.trans b;clear b;refine lW (SO.call call19 I<|dP E g15 _ _ _ zB9 [e5,e3] hB ez a1 (mQ dC) dC) ?_;rintro _ g16 _ ⟨rfl,b,uE,rfl,C⟩;rw[G8] at C;obtain ⟨pE,cE,rfl⟩:=dv (n:=3) C rfl;have hB:=hB.mono b;have hA:=hA.mono b;have x:=x.mono b;have A:=A.mono b;have c:=c.trans b;clear b;refine bW (aL zm2) fun b5=>oZ (sK 0 ag I I I I I sB)<|tZ<|SC.cut (ι:=Nat×PH×Option Addr×Nat) (fun i=>[(1,pp Q 0),(2,pp b2 0),(3,pp b3 0),(4,pp b4 0),(5,pp b5 0),(6,pp i.1 0)]) (fun i=>i.2.1) (fun i=>pt i.1 (bY #[.slice i.2.2.1 5 i.2.2.2] 29)::pt b5 (bY #[.slice pE 3 cE] 29)::pt b4 (bY #[.slice pD 6 cD] 29)::pt b3 (bY #[.slice pC 6 cC] 29)::pt b2 (bY #[.slice pA 6 cA] 29)::pt Q (bY #[.slice pB 5 cB] 29)::s) (fun i=>Le g16 i.2.1∧ai i.2.1 (.slice i.2.2.1 5 i.2.2.2) sT) ?_ ?_
 ·refine SC.drawX [6] ze6 kR ?_;refine SX.q (i:=0) I kR (qV 4 aj ag I I I) dC<|SX.u (i:=1) I kR (za3 I<|xB58 _ _) dC ?_
  repeat' (first
   | ((with_reducible refine SB.k 6 ?_);refine SB.on (i:=6) I (sK 0 ag I I I I I ⟨I,trivial⟩) (.inl dC) ?_;rintro _ _ _ ⟨rfl,rfl⟩)
   | ((with_reducible refine SB.k 5 ?_);first | (refine SB.o (i:=5) rfl (aL zm2) dC (.inr (by rintro _ _ _ ⟨bv,rfl,rfl,rfl⟩;exact⟨by assumption,(by exact .cons _<|.refl _)⟩)) ?_;rintro _ _ _ ⟨bv,rfl,rfl,rfl⟩) | (refine SB.o (i:=5) rfl (aL zm2) dC (.inr (by rintro _ _ _ ⟨bv,rfl,rfl,rfl⟩;exact⟨by exact zb9 _,(by exact .cons _<|.refl _)⟩)) ?_;rintro _ _ _ ⟨bv,rfl,rfl,rfl⟩))
   | ((with_reducible refine SB.k 4 ?_);first | (refine SB.o (i:=4) rfl (SO.call call19 rfl<|dP E g18 _ _ _ zB9 [e5,eT] (hB.mono d) ez hq (mQ dC) dC) dC (.inr (by rintro _ g19 _ ⟨rfl,f,L,rfl,t⟩;exact⟨by exact Le.trans io io,(by exact .refl _)⟩)) ?_;rintro _ g19 _ ⟨rfl,f,L,rfl,t⟩;rw[Gb] at t;obtain ⟨pu,M,rfl⟩:=dv (n:=5) t rfl;have w:=d.trans f) | (refine SB.o (i:=4) rfl (SO.call call19 rfl<|dP E g18 _ _ _ zB9 [e5,eT] (hB.mono d) ez hq (mQ dC) dC) dC (.inr (by rintro _ g19 _ ⟨rfl,f,L,rfl,t⟩;exact⟨by exact Le.trans io io,(by exact .cons _<|.refl _)⟩)) ?_;rintro _ g19 _ ⟨rfl,f,L,rfl,t⟩;rw[Gb] at t;obtain ⟨pu,M,rfl⟩:=dv (n:=5) t rfl;have w:=d.trans f))
   | ((with_reducible refine SB.k 3 ?_);first | (refine SB.o (i:=3) rfl (bS sty42 rfl rfl rfl (ae sB) dC) dC (.inr (by rintro _ _ _ ⟨G,rfl,rfl,rfl⟩;exact⟨by assumption,(by exact .cons _<|.refl _)⟩)) ?_;rintro _ _ _ ⟨G,rfl,rfl,rfl⟩;refine SX.freeze fun g18 j y=>?_;have hq:Eds g18 (.slice (some ⟨G,0,none⟩) 2 2) [e5,eT]:=⟨[⟨2,5,0,0,0,⟨none,0,0⟩,⟨none,0,0⟩⟩,⟨k1,k2,k3,k4,k5,⟨k6,k7,k8⟩,⟨k9,k10,k11⟩⟩],SlA.lit y rfl rfl,⟨⟨_,_,rfl,zc1 _ _,zc1 _ _⟩,EdK.mono j m,trivial⟩⟩;have d:=l.trans j) | (refine SB.o (i:=3) rfl (bS sty42 rfl rfl rfl (ae sB) dC) dC (.inr (by rintro _ _ _ ⟨G,rfl,rfl,rfl⟩;exact⟨by assumption,(by exact .cons _<|.cons _<|.refl _)⟩)) ?_;rintro _ _ _ ⟨G,rfl,rfl,rfl⟩;refine SX.freeze fun g18 j y=>?_;have hq:Eds g18 (.slice (some ⟨G,0,none⟩) 2 2) [e5,eT]:=⟨[⟨2,5,0,0,0,⟨none,0,0⟩,⟨none,0,0⟩⟩,⟨k1,k2,k3,k4,k5,⟨k6,k7,k8⟩,⟨k9,k10,k11⟩⟩],SlA.lit y rfl rfl,⟨⟨_,_,rfl,zc1 _ _,zc1 _ _⟩,EdK.mono j m,trivial⟩⟩;have d:=l.trans j))
   | ((with_reducible refine SB.k 2 ?_);first | (refine SB.o (i:=2) rfl (SO.call call20 rfl<|fQ E g16 _ 5 3 2) dC (.inr (by rintro _ g17 _ ⟨rfl,l,m⟩;exact⟨by assumption,(by exact .refl _)⟩)) ?_;rintro _ g17 _ ⟨rfl,l,m⟩;obtain ⟨⟨k1,k2,k3,k4,k5,⟨k6,k7,k8⟩,⟨k9,k10,k11⟩⟩,rfl,m⟩:=EdR.rc m) | (refine SB.o (i:=2) rfl (SO.call call20 rfl<|fQ E g16 _ 5 3 2) dC (.inr (by rintro _ g17 _ ⟨rfl,l,m⟩;exact⟨by assumption,(by exact .cons _<|.refl _)⟩)) ?_;rintro _ g17 _ ⟨rfl,l,m⟩;obtain ⟨⟨k1,k2,k3,k4,k5,⟨k6,k7,k8⟩,⟨k9,k10,k11⟩⟩,rfl,m⟩:=EdR.rc m))
   | ((with_reducible refine SX.k 4 ?_);first | refine zd8 2 kD ?_ | refine zd9 3 5 kD ?_ ?_)
   | ((with_reducible refine SX.k 3 ?_);first | refine zd8 3 kD ?_ | refine zd9 4 5 kD ?_ ?_)
   | ((with_reducible refine SX.k 2 ?_);first | refine zd8 5 kD ?_ | refine zd8 4 kD ?_)
   | ((with_reducible refine SX.k 1 ?_);refine zd8 6 kD ?_)
   | ((with_reducible refine SX.k 0 ?_);refine SX.nil kD ?_;exact za9 (bv,g19,pu,M) sB I I ⟨w,t⟩)
   | (refine SX.k 5 ?_;refine zd9 2 5 kD ?_ ?_))
 rintro ⟨b6,g20,pT,cT⟩ ⟨b,H⟩;dsimp only at b H ⊢;have hB:=hB.mono b;have hA:=hA.mono b;have x:=x.mono b;have A:=A.mono b;have C:=C.mono b;have c:=c.trans b;clear b;refine rZ<|lK (qV 5 aj ag I I I)<|lK (qV 4 aj ag I I I)<|lK (qV 3 aj ag I I I)<|lW (SO.call call8 I<|fI E N g20 _ _ _ _ zB9 sA sC hB hA x ez wm Fu lv.1 lv.2.1 lv.2.2.1 (wl dC) dC) ?_;rintro _ g21 _ ⟨rfl,b,h8,h9,rfl,a2,a3⟩;rw[Dw] at a2 a3;obtain ⟨d2,d3,rfl⟩:=dv (n:=7) a2 rfl;obtain ⟨i0,i1,rfl⟩:=jJ (n:=0) a3 rfl;have hB:=hB.mono b;have hA:=hA.mono b;have x:=x.mono b;have A:=A.mono b;have C:=C.mono b;have H:=H.mono b;have c:=c.trans b;clear b;refine lM I (yX I<|yX I<|bW (aL zm2) fun b7=>?_);refine oZ (sK 0 ag I I I I I sB)<|aT I<|rZ<|lK (qV 6 aj ag I I I)<|lK (qV 5 aj ag I I I)<|lK (qV 3 aj ag I I I)<|lW (SO.call call8 I<|fI E N g21 _ _ _ _ zB9 sA sD hB hA A ez wm Ft lv.1 lv.2.1 lv.2.2.2.1 (wl dC) dC) ?_;rintro _ g22 _ ⟨rfl,b,i2,i3,rfl,a4,p⟩;rw[Dv] at a4 p;obtain ⟨j0,j1,rfl⟩:=dv (n:=0) a4 rfl;obtain ⟨j2,l0,rfl⟩:=jJ (n:=1) p rfl;have hB:=hB.mono b;have hA:=hA.mono b;have x:=x.mono b;have A:=A.mono b;have C:=C.mono b;have H:=H.mono b;have c:=c.trans b;clear b;refine lM I (yX I<|yX I<|bW (aL zm2) fun b9=>?_);refine oZ (sK 0 ag I I I I I sB)<|aT I<|rZ<|lK (qV 7 aj ag I I I)<|lK (qV 6 aj ag I I I)<|lK (qV 3 aj ag I I I)<|lW (SO.call call8 I<|fI E N g22 _ _ _ _ zB9 sA sE hB hA C ez wm Bo lv.1 lv.2.1 lv.2.2.2.2.1 (wl dC) dC) ?_;rintro _ g23 _ ⟨rfl,b,l1,l2,rfl,a5,z⟩;rw[Du] at a5 z;obtain ⟨l3,l4,rfl⟩:=dv (n:=0) a5 rfl;obtain ⟨m1,m2,rfl⟩:=jJ (n:=1) z rfl;have hB:=hB.mono b;have hA:=hA.mono b;have x:=x.mono b;have A:=A.mono b;have C:=C.mono b;have H:=H.mono b;have p:=za5 p b;have c:=c.trans b;clear b;refine lM I (yX I<|yX I<|bW (aL zm2) fun m3=>?_);refine oZ (sK 0 ag I I I I I sB)<|aT I<|rZ<|lK (qV 8 aj ag I I I)<|lK (qV 4 aj ag I I I)<|lW (SO.call call11 I<|qd E g23 _ _ _ zB9 sE hB C ez Bo lv.1 lv.2.2.2.2.1) ?_;rintro _ g24 _ ⟨rfl,b,O⟩;rw[ed_E] at O;obtain ⟨d4,d5,d6,d7,d8,d9,e0,e1,e2,e4,B⟩:=Bg O;clear O;obtain ⟨e9,f7,rfl⟩:=za4 B;have J:based (.slice e9 2 f7)=true:=za6 B<|Nat.zero_lt_succ _;have hB:=hB.mono b;have hA:=hA.mono b;have x:=x.mono b;have A:=A.mono b;have C:=C.mono b;have H:=H.mono b;have p:=za5 p b;have z:=za5 z b;have c:=c.trans b;clear b;refine aT I<|rZ<|lK (qV 8 aj ag I I I)<|lK (qV 3 aj ag I I I)<|lW (SO.call call11 I<|qd E g24 _ _ _ zB9 sT hB H ez Fs lv.1 lv.2.2.2.2.2) ?_;rintro _ g25 _ ⟨rfl,b,P⟩;rw[ed_T] at P;obtain ⟨f8,h0,h1,h2,h3,a9,b0,b8,c0,c1,F⟩:=Bg P;clear P;obtain ⟨h4,h5,rfl⟩:=za4 F;have D:based (.slice h4 2 h5)=true:=za6 F<|Nat.zero_lt_succ _;have hB:=hB.mono b;have hA:=hA.mono b;have x:=x.mono b;have A:=A.mono b;have C:=C.mono b;have H:=H.mono b;have p:=za5 p b;have z:=za5 z b;have B:=za5 B b;have c:=c.trans b;clear b;refine aT I<|sQ<|sW I<|lU (eN ui I)<|lU (SU.eq (v':=vb false) (nQ I I) I)<|lM I<|yC I<|lY I I I (eN ui I)<|lY I I I (SU.eq (v':=vb false) (nQ I I) I)<|yF I<|tZ<|za1 I<|kP<|tN<|rZ<|lU (fA dj I cj I)<|lK (qL (v:=.slice d2 7 d3) ef I<|cO 2 I I)<|lU (eN aC I)<|lU (SU.eq (v':=vb true) (eQ I I)<|ze5 vb<|zg2 I)<|lM I<|yC I<|lY I I I (eN az I)<|lY I I I (SU.eq (v':=vb true) (eQ I I)<|ze5 vb<|zg2 I)<|yP I<|lM I<|yC I<|ze4 (gT I I I dC) (bS sty32 I I I (ae ⟨I,trivial⟩) dC) dC ?_;rintro _ _ _ ⟨h6,rfl,rfl,rfl⟩;refine zb5 fun c2 b c3=>?_;have c4:SlA encInt c2 (.slice (some ⟨h6,0,none⟩) 1 1) [6]:=SlA.lit c3 rfl rfl;have hB:=hB.mono b;have hA:=hA.mono b;have x:=x.mono b;have A:=A.mono b;have C:=C.mono b;have H:=H.mono b;have p:=za5 p b;have z:=za5 z b;have B:=za5 B b;have F:=za5 F b;have c:=c.trans b;clear b;refine ze4 (gT I I I dC) (SO.call call21 I<|uK E c2 _ _ _ [6] [6] p c4 dC) dC ?_;rintro _ _ _ ⟨rfl,rfl,rfl⟩;rw[show decide (([6]:List Int)=[6])=true from rfl];refine yP I<|lM I<|yC I<|ze4 (gT I I I dC) (bS sty32 I I I (ae ⟨I,trivial⟩) dC) dC ?_;rintro _ _ _ ⟨h7,rfl,rfl,rfl⟩;refine zb5 fun c5 b c6=>?_;have c7:SlA encInt c5 (.slice (some ⟨h7,0,none⟩) 1 1) [6]:=SlA.lit c6 rfl rfl;have hB:=hB.mono b;have hA:=hA.mono b;have x:=x.mono b;have A:=A.mono b;have C:=C.mono b;have H:=H.mono b;have p:=za5 p b;have z:=za5 z b;have B:=za5 B b;have F:=za5 F b;have c:=c.trans b;clear b;refine ze4 (gT I I I dC) (SO.call call21 I<|uK E c5 _ _ _ [6] [6] z c7 dC) dC ?_;rintro _ _ _ ⟨rfl,rfl,rfl⟩;rw[show decide (([6]:List Int)=[6])=true from rfl];refine yP I<|lM I<|yC I<|lY I I I (iA ui eG I I J dC (by show (0:Int)<2;decide)) ?_;refine lY I I I (fC a6 I zT3 I J)<|SL.gq (gT I I I dC) (aZ (e:=il) (o:=1) (u:=vi 5) (a:=(⟨e5.kind,e5.cell,d4,d5,d6,d7,d8⟩:Er)) iT3 I (za7 B) I I) dC<|lY I I I (SU.eq (v':=vb true) (eQ I I)<|ze5 vb<|zg2 I)<|yP I<|lM I<|yC I<|lY I I I (iA ui eG I I J dC (by show (1:Int)<2;decide)) ?_;refine lY I I I (fC a6 I zT3 I J)<|SL.gq (gT I I I dC) (aZ (e:=il) (o:=1) (u:=vi 3) (a:=(⟨e3.kind,e3.cell,d9,e0,e1,e2,e4⟩:Er)) iT3 I (za7 B) I I) dC<|lY I I I (SU.eq (v':=vb true) (eQ I I)<|ze5 vb<|zg2 I)<|yP I<|lM I<|yC I<|lY I I I (iA ui eG I I D dC (by show (0:Int)<2;decide)) ?_;refine lY I I I (fC a6 I zT3 I D)<|SL.gq (gT I I I dC) (aZ (e:=il) (o:=0) (u:=vi 2) (a:=(⟨e5.kind,e5.cell,f8,h0,h1,h2,h3⟩:Er)) iT3 I (za7 F) I I) dC<|lY I I I (SU.eq (v':=vb true) (eQ I I)<|ze5 vb<|zg2 I)<|yP I<|lM I<|yC I<|lY I I I (iA ui eG I I D dC (by show (1:Int)<2;decide)) ?_;refine lY I I I (fC a6 I zT3 I D)<|SL.gq (gT I I I dC) (aZ (e:=il) (o:=0) (u:=vi 1) (a:=(⟨(⟨1,5,1,0,0,[⟨2,1⟩,⟨3,-1⟩],[]⟩:Ed).kind,(⟨1,5,1,0,0,[⟨2,1⟩,⟨3,-1⟩],[]⟩:Ed).cell,a9,b0,b8,c0,c1⟩:Er)) iT3 I (za7 F) I I) dC<|lY I I I (SU.eq (v':=vb true) (eQ I I)<|ze5 vb<|zg2 I)<|yP I<|lM I<|yC I<|lY I I I (iA ui eG I I D dC (by show (1:Int)<2;decide)) ?_;refine lY I I I (fC a6 I zT3 I D)<|SL.gq (gT I I I dC) (aZ (e:=il) (o:=1) (u:=vi 5) (a:=(⟨(⟨1,5,1,0,0,[⟨2,1⟩,⟨3,-1⟩],[]⟩:Ed).kind,(⟨1,5,1,0,0,[⟨2,1⟩,⟨3,-1⟩],[]⟩:Ed).cell,a9,b0,b8,c0,c1⟩:Er)) iT3 I (za7 F) I I) dC<|lY I I I (SU.eq (v':=vb true) (eQ I I)<|ze5 vb<|zg2 I)<|yP I<|aT I<|rE<|dR (s':=s) uR ?_;exact za8 (.inl I) results6 I ⟨I,I,c⟩
theorem EdS.pr {e:Ed}(h:EdS e):e.sides.length<1099511627776∧e.pairs.length<100000000000:=⟨h.1,by have:=h.2;omega⟩
end Go.Proofs.YtdepcjnaieflmaaGreatDoor
namespace Go.Sy
open Go
section
variable {P:Program}{N:Nat}{E:World}{f:Fr}{g:PH}{s:Own}{fn:Func}{R:Value→PH→Own→Prop}{e:Exit}
theorem ST.retCCC {T T' T'' U U' U'':TypeId}{t z j b M l k O m:Nat}{cs cs' c:Array Value}{W A n:Nat×Nat}(i X B:Nat)(s':Own)(Y:e = .ret∨e = .normal)(hr:fn.results = #[.cell t T,.cell z T',.cell j T''])(Z:aN f t=some (pp b 0))(C:aN f z=some (pp M 0))(o:aN f j=some (pp l 0))
  (hT:∀ w,(isAgg T).run P w = .ok true w) (hk:∀ w,(sizeOf T).run P w = .ok k w) (D:∀ w,(isAgg T').run P w = .ok true w) (F:∀ w,(sizeOf T').run P w = .ok O w) (p:∀ w,(isAgg T'').run P w = .ok true w) (q:∀ w,(sizeOf T'').run P w = .ok m w)
  (hs:s[i]?=some (pt b<|.cells cs U W)) (hc:cs.size=k) (G:s[X]?=some (pt M<|.cells cs' U' A)) (H:cs'.size=O) (J:s[B]?=some (pt l<|.cells c U'' n)) (r:c.size=m) (K:s'.Sublist s) (hR:R (.tuple #[.agg cs,.agg cs',.agg c]) g s'):ST N E (bodyPost P fn<|ng E R) e f g s :=
 fun a w u y=>by
  have h1:=cg (P:=P) y hT (by rw[hc];exact hk) hs;have L:=cg (P:=P) y D (by rw[H];exact F) G;have v:=cg (P:=P) y p (by rw[r];exact q) J;have Q:=u.at_ t _ Z;have x:=u.at_ z _ C;have d:=u.at_ j _ o;simp only[Array.getD_eq_getD_getElem?] at Q x d;have S:(results fn a.tmps).run P w = .ok (.tuple #[.agg cs,.agg cs',.agg c]) w:=by simp[results,hr,asAddr,pp,Q,x,d,h1,L,v]
  have V:ng E R (.returned<|.tuple #[.agg cs,.agg cs',.agg c]) w:=⟨_,g,s',rfl,y.sublist K,hR⟩
  rcases Y with rfl | rfl
  ·exact⟨u.defers,_,S,V⟩
  ·exact⟨u.defers,_,S,V⟩
end
end Go.Sy
namespace Go.Proofs.YtdepcjnaieflmaaGreatDoor
open _root_.Go.Proofs.Tryz _root_.Go.Proofs.YtdepcjnaieflmaaGreatDoor.Tryz
open Go Go.Sy Go.Pl Go.Proofs
set_option maxRecDepth 100000
set_option maxHeartbeats 8000000
def EdT (e:Ed):Prop:=EdS e∧((e.kind=1→a8 e.cell)∧(e.kind=3→a8 e.new∧a8 e.other))
def Hg (l:List Cl):Prop:=aK l∧∀ c∈l,a8 c.id
theorem vf {l:List Cl}(h:∀ c∈l,a8 c.id):∀ c∈aa l,a8 c.id:=fun c hc=>by
 obtain ⟨d,hd,e⟩:=tm hc;rw[← e];exact h d hd
theorem Ew {es:List Ed}:∀ {A:List Cl} {ss:List Stp} {i:Nat},(∀ c∈A,a8 c.id)→(∀ e∈es,EdT e)→∀ c∈(oe A ss i es).2.1,a8 c.id:=by
 induction es with
 | nil=>intro A ss i hA _;exact hA
 | cons e es ih =>
  intro A ss i hA a;unfold oe;split
  ·rename_i hz;exact ih (zq hz hA (a e<|by simp).2.1 (a e<|by simp).2.2) fun x b=>a x (by simp[b])
  ·intro c hc;cases hc
theorem Ex {l:List Cl}{es:List Ed}(hl:∀ c∈l,a8 c.id)(a:∀ e∈es,EdT e):∀ c∈(ir l es).2.1,a8 c.id:=by
 unfold ir;split
 ·intro c hc;cases hc
 ·split
  ·intro c hc;cases hc
  ·exact Ew (vf hl) a
theorem fx (E:World)(g:PH)(s:Own)(v av:Value)(l:List Cl)(d:List Ac)(b:Bool)(hv:ai g v l)(hf:aK l)(ha:SlA ln g av d)(hi:∀ c∈l,a8 c.id)(hw:∀ a∈d,A64 a) :
  Ctr Tryz.prog E 24 #[.agg #[v],av,vb b] g s (fun r g' s'=>s=s'∧Le g g'∧∃ es,Eds g' r es∧(∀ e∈es,EdT e)∧es.length≤12):=by
 obtain ⟨p,c,rfl⟩:=hv.form;obtain ⟨pa,ca,rfl⟩:=za4 ha;refine zb2 (args:=[.agg #[.slice p l.length c],.slice pa d.length ca,vb b]) func24 I ntmps24 (bE I)<|rZ (bW (bO I) fun b3=>?_);refine aT I<|rZ<|aT I<|rZ<|lK (qV 0 aj ag I I I)<|lW (SO.call call77 I<|cd E g _ _ l hv hf) ?_;rintro _ g1 _ ⟨rfl,L,u1,rfl,hA⟩;obtain ⟨p1,c1,rfl⟩:=hA.form;have a9:=aB hf;have b0:∀ c∈aa l,a8 c.id:=vf hi;have b1:=za5 ha L;refine bW (aL zm2) fun W=>oZ (sK 0 ag I I I I I sB)<|tZ<|sQ<|rZ<|aT I<|bK<|zb6 58 7<|oP (ι:=Nat×PH×List Cl×Option Addr×Nat×Value×List Er×List Ed) (fun i=>[(1,.slice pa d.length ca),(2,vb b),(7,i.2.2.2.2.2.1),(8,pp W 0),(9,vi i.1)]) (fun i=>i.2.1) (fun i=>rowA il 58 i.2.2.2.2.2.1 i.2.2.2.2.2.2.1::pt W (bY #[.slice i.2.2.2.1 i.2.2.1.length i.2.2.2.2.1] 29)::pt b3 (bY #[.slice p l.length c] 29)::s)
  (fun i=>i.1≤d.length∧i.1≤12∧Le g1 i.2.1∧ai i.2.1 (.slice i.2.2.2.1 i.2.2.1.length i.2.2.2.2.1) i.2.2.1∧Hg i.2.2.1∧ax (EdK i.2.1) i.2.2.2.2.2.2.2 i.2.2.2.2.2.2.1∧(∀ e∈i.2.2.2.2.2.2.2,EdT e)∧i.2.2.2.2.2.2.1.length≤i.1) (fun i=>d.length - i.1)
  (0,g1,aa l,p1,c1,.slice none 0 0,[],[]) sB rfl rfl ⟨zf9 _,zf9 _,zb9 _,hA,⟨a9,b0⟩,trivial,by simp,Nat.le_refl _⟩ ?_
 rintro ⟨k,gk,B,pk,ck,ov,acc,es⟩ ⟨hk,a0,n,hB,t,y,K,b2⟩;dsimp only at hk a0 n hB t y K b2 ⊢;refine sQ<|SC.cutB 23 (decide (k<d.length)&&decide (k<12)) ?_ ?_
 ·refine rG<|lM I<|lM I<|lU (eN underlying25 I)<|yL I<|lM I<|sP ?_ ?_
  ·intro b4;exact yC I<|lY I I I (lS I I)<|yP I<|SL.nil<|zb1 (by (simp_all[aN];omega)) mI
  ·intro b4;exact yA I<|yA I<|yF I<|SL.nil<|zb1 (by (simp_all[aN];omega)) mI
 refine iQ I (fun X=>?_) (fun X=>?_)
 ·simp only[zj6,zj9] at X;obtain ⟨a1,c3⟩:=X;have a2:=za5 b1 n;have b5:=za6 a2 oM;have b6:d[((k:Nat):Int).toNat]?=some d[k]:=List.getElem?_eq_getElem a1;have D:=hw _<|gM a1;generalize d[k]=x at *;obtain ⟨k0,k1,k2,k3⟩:=x;refine kP<|tN<|sQ<|bK<|SC.cut (ι:=Nat×PH×Ed×Er) (fun i=>[(1,.slice pa d.length ca),(2,vb b),(7,ov),(8,pp W 0),(9,vi k),(10,pp i.1 0)]) (fun i=>i.2.1) (fun i=>pt i.1 (.cells (il.enc i.2.2.2).toArray 58 (0,0))::rowA il 58 ov acc::pt W (bY #[.slice pk B.length ck] 29)::pt b3 (bY #[.slice p l.length c] 29)::s)
   (fun i=>Le gk i.2.1∧EdK i.2.1 i.2.2.1 i.2.2.2∧EdT i.2.2.1) ?_ ?_
  ·refine SC.drawX [7] ze6 kR ?_;refine SX.u (i:=0) I kR (mV I) dC<|SX.u (i:=1) I kR (mV I) dC<|SX.u (i:=2) I kR (iA underlying25 sizeOf117 I I b5 oM sL) dC<|SX.q (i:=3) I kR (SQ.elemA isAgg117 sizeOf117 I (za7 a2) b6) dC<|SX.q (i:=4) I kR (qV (by exact 1) aj ag I I I) dC ?_;refine zd9 5 6 kR ?_ ?_
   ·refine SB.o (i:=5) I (SO.call call79 I<|mB E gk _ _ B k0 k1 k2 k3 hB t.1) dC (.inr iR) ?_;rintro ev g3 _ ⟨rfl,f,e,he,F,G,-,Y⟩;have j:EdT e:=⟨⟨F,G⟩,Y t.2 D.2.1 D.2.2.1 D.2.2.2⟩;obtain ⟨⟨M,N,O,P,Q,⟨R,S,T⟩,⟨U,z,A⟩⟩,rfl,hr⟩:=he.rc;refine zd8 6 kR ?_
    ·refine SB.o (i:=6) I (aL zl4) dC (.inr iR) ?_;rintro _ _ _ ⟨C,rfl,rfl,rfl⟩;refine zd8 7 kR ?_
     ·refine SB.on (i:=7) rfl (sK 0 eG rfl rfl rfl rfl rfl<|by (repeat' (first | exact trivial | refine⟨by rfl,?_⟩))) (.inl dC) ?_;rintro _ _ _ ⟨rfl,rfl⟩;refine SX.nil kR ?_;exact za9 (C,g3,e,⟨M,N,O,P,Q,⟨R,S,T⟩,⟨U,z,A⟩⟩) sB I I ⟨f,hr,j⟩
   ·refine SB.o (i:=6) I (aL zl4) dC (.inr iR) ?_;rintro _ _ _ ⟨C,rfl,rfl,rfl⟩;refine zd8 5 kR ?_
    ·refine SB.o (i:=5) I (SO.call call79 I<|mB E gk _ _ B k0 k1 k2 k3 hB t.1) dC (.inr iR) ?_;rintro ev g3 _ ⟨rfl,f,e,he,F,G,-,Y⟩;have j:EdT e:=⟨⟨F,G⟩,Y t.2 D.2.1 D.2.2.1 D.2.2.2⟩;obtain ⟨⟨M,N,O,P,Q,⟨R,S,T⟩,⟨U,z,A⟩⟩,rfl,hr⟩:=he.rc;refine zd8 7 kR ?_
     ·refine SB.on (i:=7) rfl (sK 0 eG rfl rfl rfl rfl rfl<|by (repeat' (first | exact trivial | refine⟨by rfl,?_⟩))) (.inl dC) ?_;rintro _ _ _ ⟨rfl,rfl⟩;refine SX.nil kR ?_;exact za9 (C,g3,e,⟨M,N,O,P,Q,⟨R,S,T⟩,⟨U,z,A⟩⟩) sB I I ⟨f,hr,j⟩
  rintro ⟨C,g3,e,⟨M,N,O,P,Q,⟨R,S,T⟩,⟨U,z,A⟩⟩⟩ ⟨f,hr,j⟩;dsimp only at f hr j ⊢;refine SC.to (g':=g3) (s':=pt C (bY #[vi M,vi N,vi O,vi P,vi Q,.slice R S T,.slice U z A] 58)::rowA il 58 ov acc::pt W (bY #[.slice pk B.length ck] 29)::pt b3 (bY #[.slice p l.length c] 29)::s) (fun w hw=>hw) ?_;have a3:=hB.mono f;have a4:=o5 B e;refine rZ<|lK (qV 2 aj ag I I I)<|lK (qV 0 j4 eG I I I)<|lW (SO.call call78 I<|md E g3 _ _ _ B e a3 t.1 hr j.1.pr.1 j.1.pr.2) ?_;rintro _ g4 _ ⟨rfl,H,hR⟩;obtain ⟨⟨d1,d2,d3⟩,⟨⟨y1,y2,y3⟩,y4⟩,rfl,hD,hS⟩:=hR.one;have b7:=jO hD;subst b7;have b9:=a3.mono H;have c0:=hr.mono H;have m:=f.trans H;clear hS hR;refine lM I (yX I<|yX I<|yX I<|bW (aL zm2) fun c4=>?_);refine bW (aL zl7) fun c6=>oZ (sK 1 ag I I I I I sB)<|oZ (sK 0 bT I I I I I sB)<|aT I<|SC.cut (ι:=List Cl×Option Addr×Nat) (fun _=>[(1,.slice pa d.length ca),(2,vb b),(7,ov),(8,pp W 0),(9,vi k),(10,pp C 0),(13,vi (dT B e).1)]) (fun _=>g4) (fun i=>pt C (bY #[vi M,vi N,vi O,vi P,vi Q,.slice R S T,.slice U z A] 58)::rowA il 58 ov acc::pt W (bY #[.slice i.2.1 i.1.length i.2.2] 29)::pt b3 (bY #[.slice p l.length c] 29)::s)
   (fun i=>ai g4 (.slice i.2.1 i.1.length i.2.2) i.1∧Hg i.1) ?_ ?_
  ·refine sW I<|yE I<|tZ<|iP I (fun hz=>?_) (fun hz=>?_)
   ·exact rG<|lK (qV 1 aj ag I I I)<|oZ (sK 4 ag I I I I I sB)<|SL.nil<|dR (.cons _<|.cons _<|.refl _)<|za9 ((dT B e).2,d1,d3) sB I I ⟨hD,a4,zq hz t.2 j.2.1 j.2.2⟩
   ·exact kP<|dR (.cons _<|.cons _<|.refl _)<|za9 (B,pk,ck) sB I I ⟨b9,t⟩
  rintro ⟨B5,p5,c5⟩ ⟨Z,J⟩;dsimp only at Z J ⊢;generalize (dT B e).1=code at *;clear a4;refine SC.cutB 47 (decide (code=0) || !b) ?_ ?_
  ·refine rG<|lM I<|yE I<|lM I<|sP ?_ ?_
   ·intro c2;exact yA I<|yA I<|yP I<|SL.nil<|zb1 (by (simp_all[aN];done)) mI
   ·intro c2;exact yC I<|lY I I I (SU.not I)<|yF I<|SL.nil<|zb1 (by (simp_all[aN];done)) mI
  refine iQ I (fun hq=>?_) (fun hq=>?_)
  ·refine rG (lM I (lK (qV 0 j4 eG I I I) (lW (bS sty42 I I I (ae ⟨I,trivial⟩) dC) ?_)));rintro _ _ _ ⟨c7,rfl,rfl,rfl⟩;refine lW (aP (e:=il) (l:=acc) 1 ⟨M,N,O,P,Q,⟨R,S,T⟩,⟨U,z,A⟩⟩ sty42 I I I I I oM oM) ?_;rintro ov' _ _ ⟨rfl,rfl⟩;refine lA I (SL.nil (bN (tN (rG (lM I (yD I (lA I (SL.nil (dR (.cons _ (.refl _)) ?_)))))))));exact ST.again (k+1,g4,B5,p5,c5,ov',acc++[⟨M,N,O,P,Q,⟨R,S,T⟩,⟨U,z,A⟩⟩],es++[e]) sB I I ⟨by dsimp only;omega,by dsimp only;omega,n.trans m,Z,J,(y.mono fun _ _=>EdK.mono m).append ⟨c0,trivial⟩,fun q hq=>by
    rcases zf6.1 hq with h | h
    ·exact K q h
    ·simp at h;subst h;exact j,by dsimp only;rw[ze8,zf1];omega⟩ (by dsimp only;omega)
  ·exact kP<|bN<|tN<|rG<|lM I<|yD I<|lA I<|SL.nil<|dR (.cons _<|.refl _)<|ST.again (k+1,g4,B5,p5,c5,ov,acc,es) sB I I ⟨by dsimp only;omega,by dsimp only;omega,n.trans m,Z,J,y.mono fun _ _=>EdK.mono m,K,by dsimp only;omega⟩ (by dsimp only;omega)
 ·refine xI (tX<|tX<|bX<|tN<|sQ<|zd6 fun g5 V a5=>?_);obtain ⟨q5,d5,rfl⟩:=zc3 a5;exact rG<|lM I<|aT I<|rE<|dR (s':=s) uR<|za8 (.inl I) results24 I ⟨I,L.trans<|n.trans V,es,⟨acc,a5,y.mono fun _ _=>EdK.mono V⟩,K,by have:=y.length;omega⟩
def EdL (es:List Ed):Prop:=(∀ e∈es,EdT e)∧es.length≤12
theorem vH (E:World)(g:PH)(s:Own)(v av bv:Value)(F y:Int)(ls:List (List Int))(ac N:List Ac)(hv:cU g v ls)(ha:SlA ln g av ac)(hb:SlA ln g bv N)(P:∀ a∈ac,A64 a)(Q:∀ a∈N,A64 a) :
  Ctr Tryz.prog E 7 #[.agg #[vi F,v,vi y],av,bv] g s (fun r g' s'=>s=s'∧Le g g'∧∃ x u w es D,r = .tuple #[.agg #[x],.agg #[u],.agg #[w]]∧ai g' x (jS F ls y)∧EdL es∧EdL D∧ai g' u (ir (jS F ls y) es).2.1∧ai g' w (ir (jS F ls y) D).2.1):=by
 have J:=yN F ls y;have l:=rD F ls y;obtain ⟨p,n,c,rfl⟩:∃ p n c,v = .slice p n c:=by
  obtain ⟨a3,R,_⟩:=hv;obtain ⟨p,c,rfl⟩:=za4 R;exact⟨_,_,_,I⟩
 obtain ⟨pa,ca,rfl⟩:=za4 ha;obtain ⟨pb,cb,rfl⟩:=za4 hb;refine zb2 (args:=[.agg #[vi F,.slice p n c,vi y],.slice pa ac.length ca,.slice pb N.length cb]) func7 I ntmps7 (bE I)<|rZ (bW (bO I) fun b3=>?_);refine bW (aL zm2) fun W=>bW (aL zm2) fun X=>bW (aL zm2) fun Y=>tZ<|rZ<|lK (qV 3 isAgg24 sizeOf24 I I I)<|lW (SO.call call22 I<|Cy E g _ _ F y ls hv) ?_;rintro _ g1 _ ⟨rfl,G,xm,rfl,O⟩;generalize jS F ls y=M at *;obtain ⟨pM,cM,rfl⟩:=O.form;have S:=za5 ha G;have a0:=za5 hb G;refine bW (aL zm2) fun Z=>oZ (sK 0 ag I I I I I sB)<|tZ<|SC.cut (ι:=Nat×PH×Sv×List Ed) (fun i=>[(2,.slice pb N.length cb),(6,pp W 0),(7,pp X 0),(8,pp Y 0),(9,pp Z 0),(10,pp i.1 0)]) (fun i=>i.2.1) (fun i=>pt i.1 (bY #[.slice i.2.2.1.p i.2.2.1.n i.2.2.1.c] 29)::pt Z (bY #[.slice pM M.length cM] 29)::pt Y (bY #[.slice none 0 0] 29)::pt X (bY #[.slice none 0 0] 29)::pt W (bY #[.slice none 0 0] 29)::pt b3 (bY #[vi F,.slice p n c,vi y] 24)::s) (fun i=>Le g1 i.2.1∧EdL i.2.2.2∧ai i.2.1 (.slice i.2.2.1.p i.2.2.1.n i.2.2.1.c) (ir M i.2.2.2).2.1) ?_ ?_
 ·refine SC.drawX [11] ze6 kR ?_;refine SX.q (i:=0) I kR (qV 0 aj ag I I I) dC<|SX.q (i:=1) I kR (qV 0 aj ag I I I) dC<|SX.u (i:=2) I kR (mV I) dC ?_
  repeat' (first
   | ((with_reducible refine SB.k 11 ?_);refine SB.on (i:=11) I (sK 0 ag I I I I I ⟨I,trivial⟩) (.inl dC) ?_;rintro _ _ _ ⟨rfl,rfl⟩;refine SX.u (i:=12) I kD (aS I) dC ?_;refine SX.u (i:=13) I kD (aS I) dC ?_;refine SX.u (i:=14) I kD (aS I) dC ?_)
   | ((with_reducible refine SB.k 10 ?_);first | (refine SB.o (i:=10) rfl (aL zm2) dC (.inr (by rintro _ _ _ ⟨bv,rfl,rfl,rfl⟩;exact⟨by assumption,(by exact .cons _<|.refl _)⟩)) ?_;rintro _ _ _ ⟨bv,rfl,rfl,rfl⟩) | (refine SB.o (i:=10) rfl (aL zm2) dC (.inr (by rintro _ _ _ ⟨bv,rfl,rfl,rfl⟩;exact⟨by exact zb9 _,(by exact .cons _<|.refl _)⟩)) ?_;rintro _ _ _ ⟨bv,rfl,rfl,rfl⟩))
   | ((with_reducible refine SB.k 4 ?_);first | (refine SB.o (i:=4) rfl (SO.call call23 rfl<|sn E gx _ _ _ M es (O.mono b) l m (fun e L=>(d e L).1) oM) dC (.inr (by rintro _ gz _ ⟨rfl,f,A⟩;exact⟨by exact Le.trans io io,(by exact .refl _)⟩)) ?_;rintro _ gz _ ⟨rfl,f,A⟩;obtain ⟨u,p1,n1,c1,rfl,K,hS⟩:=A;obtain ⟨pu,T,rfl⟩:=K.form;have t:=b.trans f;refine SX.u (i:=5) I kD (mV I) dC ?_;refine SX.u (i:=6) I kD (xT I I) dC ?_;refine SX.u (i:=7) I kD (xT I I) dC ?_;refine SX.u (i:=8) I kD (xT I I) dC ?_;refine SX.u (i:=9) rfl kD (xT rfl rfl) dC ?_) | (refine SB.o (i:=4) rfl (SO.call call23 rfl<|sn E gx _ _ _ M es (O.mono b) l m (fun e L=>(d e L).1) oM) dC (.inr (by rintro _ gz _ ⟨rfl,f,A⟩;exact⟨by exact Le.trans io io,(by exact .cons _<|.refl _)⟩)) ?_;rintro _ gz _ ⟨rfl,f,A⟩;obtain ⟨u,p1,n1,c1,rfl,K,hS⟩:=A;obtain ⟨pu,T,rfl⟩:=K.form;have t:=b.trans f;refine SX.u (i:=5) I kD (mV I) dC ?_;refine SX.u (i:=6) I kD (xT I I) dC ?_;refine SX.u (i:=7) I kD (xT I I) dC ?_;refine SX.u (i:=8) I kD (xT I I) dC ?_;refine SX.u (i:=9) I kD (xT I I) dC ?_))
   | ((with_reducible refine SB.k 3 ?_);first | (refine SB.o (i:=3) rfl (SO.call call24 rfl<|fx E g1 _ _ _ M ac true O l S J P) dC (.inr (by rintro _ gx _ ⟨rfl,b,es,m,d,j⟩;exact⟨by assumption,(by exact .refl _)⟩)) ?_;rintro _ gx _ ⟨rfl,b,es,m,d,j⟩) | (refine SB.o (i:=3) rfl (SO.call call24 rfl<|fx E g1 _ _ _ M ac true O l S J P) dC (.inr (by rintro _ gx _ ⟨rfl,b,es,m,d,j⟩;exact⟨by assumption,(by exact .cons _<|.refl _)⟩)) ?_;rintro _ gx _ ⟨rfl,b,es,m,d,j⟩))
   | ((with_reducible refine SX.k 11 ?_);first | refine zd8 3 kD ?_ | refine zd9 4 10 kD ?_ ?_)
   | ((with_reducible refine SX.k 10 ?_);refine zd8 4 kD ?_)
   | ((with_reducible refine SX.k 5 ?_);refine zd8 10 kD ?_)
   | ((with_reducible refine SX.k 4 ?_);refine zd8 11 kD ?_)
   | ((with_reducible refine SX.k 0 ?_);refine SX.nil kD ?_;exact za9 (bv,gz,⟨pu,(ir M es).2.1.length,T⟩,es) sB I I ⟨t,⟨d,j⟩,K⟩)
   | (refine SX.k 12 ?_;refine zd9 3 10 kD ?_ ?_))
 rintro ⟨U,g2,⟨pL,nL,cL⟩,es⟩ ⟨B,m,hL⟩;dsimp only at B m hL ⊢;have H:=O.mono B;have V:=za5 a0 B;refine SC.cut (ι:=Nat×PH×Sv×List Ed) (fun i=>[(6,pp W 0),(7,pp X 0),(8,pp Y 0),(9,pp Z 0),(10,pp U 0),(14,pp i.1 0)]) (fun i=>i.2.1) (fun i=>pt i.1 (bY #[.slice i.2.2.1.p i.2.2.1.n i.2.2.1.c] 29)::pt U (bY #[.slice pL nL cL] 29)::pt Z (bY #[.slice pM M.length cM] 29)::pt Y (bY #[.slice none 0 0] 29)::pt X (bY #[.slice none 0 0] 29)::pt W (bY #[.slice none 0 0] 29)::pt b3 (bY #[vi F,.slice p n c,vi y] 24)::s) (fun i=>Le g2 i.2.1∧EdL i.2.2.2∧ai i.2.1 (.slice i.2.2.1.p i.2.2.1.n i.2.2.1.c) (ir M i.2.2.2).2.1) ?_ ?_
 ·refine SC.drawX [11] ze6 kR ?_;refine SX.q (i:=0) I kR (qV 1 aj ag I I I) dC<|SX.q (i:=1) I kR (qV 1 aj ag I I I) dC<|SX.u (i:=2) I kR (mV I) dC ?_
  repeat' (first
   | ((with_reducible refine SB.k 11 ?_);refine SB.on (i:=11) I (sK 0 ag I I I I I ⟨I,trivial⟩) (.inl dC) ?_;rintro _ _ _ ⟨rfl,rfl⟩;refine SX.u (i:=12) I kD (aS I) dC ?_;refine SX.u (i:=13) I kD (aS I) dC ?_;refine SX.u (i:=14) I kD (aS I) dC ?_)
   | ((with_reducible refine SB.k 10 ?_);first | (refine SB.o (i:=10) rfl (aL zm2) dC (.inr (by rintro _ _ _ ⟨bv,rfl,rfl,rfl⟩;exact⟨by assumption,(by exact .cons _<|.refl _)⟩)) ?_;rintro _ _ _ ⟨bv,rfl,rfl,rfl⟩) | (refine SB.o (i:=10) rfl (aL zm2) dC (.inr (by rintro _ _ _ ⟨bv,rfl,rfl,rfl⟩;exact⟨by exact zb9 _,(by exact .cons _<|.refl _)⟩)) ?_;rintro _ _ _ ⟨bv,rfl,rfl,rfl⟩))
   | ((with_reducible refine SB.k 4 ?_);first | (refine SB.o (i:=4) rfl (SO.call call23 rfl<|sn E gx _ _ _ M D (H.mono b) l z (fun e L=>(d e L).1) oM) dC (.inr (by rintro _ gz _ ⟨rfl,f,A⟩;exact⟨by exact Le.trans io io,(by exact .refl _)⟩)) ?_;rintro _ gz _ ⟨rfl,f,A⟩;obtain ⟨u,p1,n1,c1,rfl,K,hS⟩:=A;obtain ⟨pu,T,rfl⟩:=K.form;have t:=b.trans f;refine SX.u (i:=5) I kD (mV I) dC ?_;refine SX.u (i:=6) I kD (xT I I) dC ?_;refine SX.u (i:=7) I kD (xT I I) dC ?_;refine SX.u (i:=8) I kD (xT I I) dC ?_;refine SX.u (i:=9) rfl kD (xT rfl rfl) dC ?_) | (refine SB.o (i:=4) rfl (SO.call call23 rfl<|sn E gx _ _ _ M D (H.mono b) l z (fun e L=>(d e L).1) oM) dC (.inr (by rintro _ gz _ ⟨rfl,f,A⟩;exact⟨by exact Le.trans io io,(by exact .cons _<|.refl _)⟩)) ?_;rintro _ gz _ ⟨rfl,f,A⟩;obtain ⟨u,p1,n1,c1,rfl,K,hS⟩:=A;obtain ⟨pu,T,rfl⟩:=K.form;have t:=b.trans f;refine SX.u (i:=5) I kD (mV I) dC ?_;refine SX.u (i:=6) I kD (xT I I) dC ?_;refine SX.u (i:=7) I kD (xT I I) dC ?_;refine SX.u (i:=8) I kD (xT I I) dC ?_;refine SX.u (i:=9) I kD (xT I I) dC ?_))
   | ((with_reducible refine SB.k 3 ?_);first | (refine SB.o (i:=3) rfl (SO.call call24 rfl<|fx E g2 _ _ _ M N true H l V J Q) dC (.inr (by rintro _ gx _ ⟨rfl,b,D,z,d,j⟩;exact⟨by assumption,(by exact .refl _)⟩)) ?_;rintro _ gx _ ⟨rfl,b,D,z,d,j⟩) | (refine SB.o (i:=3) rfl (SO.call call24 rfl<|fx E g2 _ _ _ M N true H l V J Q) dC (.inr (by rintro _ gx _ ⟨rfl,b,D,z,d,j⟩;exact⟨by assumption,(by exact .cons _<|.refl _)⟩)) ?_;rintro _ gx _ ⟨rfl,b,D,z,d,j⟩))
   | ((with_reducible refine SX.k 11 ?_);first | refine zd8 3 kD ?_ | refine zd9 4 10 kD ?_ ?_)
   | ((with_reducible refine SX.k 10 ?_);refine zd8 4 kD ?_)
   | ((with_reducible refine SX.k 5 ?_);refine zd8 10 kD ?_)
   | ((with_reducible refine SX.k 4 ?_);refine zd8 11 kD ?_)
   | ((with_reducible refine SX.k 0 ?_);refine SX.nil kD ?_;exact za9 (bv,gz,⟨pu,(ir M D).2.1.length,T⟩,D) sB I I ⟨t,⟨d,j⟩,K⟩)
   | (refine SX.k 12 ?_;refine zd9 3 10 kD ?_ ?_))
 rintro ⟨a4,g3,⟨pR,nR,cR⟩,D⟩ ⟨C,z,A⟩;dsimp only at C z A ⊢;have a1:=H.mono C;have a2:=hL.mono C;refine sQ ?_;refine SC.drawX [3,4,5] ze6 kR ?_;refine SX.q (i:=0) I kR (qV 2 aj ag I I I) dC ?_
 repeat' (first
  | ((with_reducible refine SB.k 5 ?_);refine SB.on (i:=5) I (sK 3 ag I I I I I ⟨I,trivial⟩) (.inl dC) ?_;rintro _ _ _ ⟨rfl,rfl⟩)
  | ((with_reducible refine SB.k 4 ?_);refine SB.on (i:=4) I (sK 4 ag I I I I I ⟨I,trivial⟩) (.inl dC) ?_;rintro _ _ _ ⟨rfl,rfl⟩)
  | ((with_reducible refine SB.k 3 ?_);refine SB.on (i:=3) I (sK 5 ag I I I I I ⟨I,trivial⟩) (.inl dC) ?_;rintro _ _ _ ⟨rfl,rfl⟩)
  | ((with_reducible refine SB.k 2 ?_);first | (refine SB.ob (i:=2) rfl (SQ.sof<|qV 0 aj ag rfl rfl rfl) dC kD ?_;rintro _ _ _ ⟨rfl,rfl,rfl⟩) | (refine SB.o (i:=2) rfl (SQ.sof<|qV 0 aj ag rfl rfl rfl) dC (.inr (by rintro _ _ _ ⟨rfl,rfl,rfl⟩;exact⟨by exact zb9 _,(by exact .refl _)⟩)) ?_;rintro _ _ _ ⟨rfl,rfl,rfl⟩))
  | ((with_reducible refine SB.k 1 ?_);first | (refine SB.ob (i:=1) rfl (SQ.sof<|qV 1 aj ag rfl rfl rfl) dC kD ?_;rintro _ _ _ ⟨rfl,rfl,rfl⟩) | (refine SB.o (i:=1) rfl (SQ.sof<|qV 1 aj ag rfl rfl rfl) dC (.inr (by rintro _ _ _ ⟨rfl,rfl,rfl⟩;exact⟨by exact zb9 _,(by exact .refl _)⟩)) ?_;rintro _ _ _ ⟨rfl,rfl,rfl⟩))
  | ((with_reducible refine SX.k 4 ?_);first | refine zd9 2 3 kD ?_ ?_ | refine zd9 1 3 kD ?_ ?_ | refine zd9 1 2 kD ?_ ?_)
  | ((with_reducible refine SX.k 3 ?_);first | refine zd8 3 kD ?_ | refine zd8 1 kD ?_ | refine zd9 2 4 kD ?_ ?_)
  | ((with_reducible refine SX.k 2 ?_);first | refine zd8 4 kD ?_ | refine zd8 2 kD ?_)
  | ((with_reducible refine SX.k 1 ?_);refine zd8 5 kD ?_)
  | ((with_reducible refine SX.k 0 ?_);refine SX.nil kD ?_;refine tN ?_;refine rE ?_;exact ST.retCCC 5 4 3 s (.inl I) results7 I I I aj ag aj ag aj ag I I I I I I (.cons _<|.cons _<|.cons _<|.cons _<|.cons _<|.cons _<|.cons _<|.refl _) ⟨I,G.trans<|B.trans C,_,_,_,es,D,I,a1,m,z,a2,A⟩)
  | (refine SX.k 5 ?_;refine SX.br3 1 2 3 kD ?_ ?_ ?_))
set_option maxHeartbeats 1000000
theorem Eu {l:List Cl}{e:Ed}(h:(dT l e).1=0):(dT l e).2.length≤l.length+2:=by
 obtain ⟨g,hc,b,f⟩:=sH h;have hA:=iS hc;rw[f,aw];have hl:=aw l;have d:=sa b;unfold cG
 rcases d with k | k | k | k | k
 ·rw[zg4 k,ze8,zf1];omega
 ·rw[zg3 oM,zg4 k];unfold cN;have:=zc6 (fun c:Cl=>!decide (c.id∈[e.cell]))<|aa l;omega
 ·rw[zg3 oM,zg3 oM,zg4 k];unfold bG at b;rw[zg3 oM,zg3 oM,zg4 k] at b;obtain ⟨i,_,_,_,_,a⟩:=po hA b;rw[a];simp;omega
 ·rw[zg3 oM,zg3 oM,zg3 oM,zg4 k];unfold eE;rw[ze9];unfold cN;refine zl1 (zc6 _ _) ?_;omega
 ·rw[zg3 oM,zg3 oM,zg3 oM,zg3 oM];unfold cN;refine zl1 (zc6 _ _) ?_;omega
theorem DK:Rt ([]:List Cl):=iS (l:=[]) dC
theorem BM {es:List Ed}:∀ {A:List Cl} {ss:List Stp} {i:Nat},Rt A→Rt (oe A ss i es).2.1∧(oe A ss i es).2.1.length≤A.length+2 * es.length:=by
 induction es with
 | nil=>intro A ss i hA;exact⟨hA,Nat.le_refl _⟩
 | cons e es ih =>
  intro A ss i hA;unfold oe;split
  ·rename_i hz;obtain ⟨a,b⟩:=ih (ss:=ss++[imO A e]) (i:=i+1) (sH hz).1;have:=Eu hz;rw[zf2];exact⟨a,oM⟩
  ·exact⟨DK,zf9 _⟩
theorem Bl {l:List Cl}{es:List Ed}(hc:(aq l).2=0)(hl:∀ c∈l,a8 c.id)(a:l.length≤90)(h:EdL es):Rt (ir l es).2.1∧(ir l es).2.1.length≤114∧∀ c∈(ir l es).2.1,a8 c.id:=by
 refine⟨?_,?_,Ex hl h.1⟩
 ·unfold ir;rw[zg3 (by have:=h.2;omega),zg3 (by rw[hc];exact fun h=>h I)];exact (BM<|iS hc).1
 ·unfold ir;rw[zg3 (by have:=h.2;omega),zg3 (by rw[hc];exact fun h=>h I)];have:=(BM (es:=es) (ss:=[]) (i:=0)<|iS hc).2;rw[aw] at this;have:=h.2;omega
theorem qC {l:List Cl}(h:Rt l):(aq l).2=0:=by rw[h.check]
theorem e7 (E:World)(g:PH)(s:Own)(v:Value)(l:List Cl)(id:Int)(a:ai g v l)(hl:Rt l) :
  Ctr Tryz.prog E 9 #[.agg #[v],vi id] g s (fun r g' s'=>s=s'∧Le g g'∧∃ x,r = .tuple #[rcv x,vb<|decide ((ab l id).isSome=true)]∧ak g' ((ab l id).getD aA) x) :=
 (CS E g s v l id a hl.fits).mono fun _ _ _ ⟨b,c,x,d,e⟩=>⟨b,c,x,by rw[d,hl.findC,Bool.decide_eq_true],by rw[← hl.findC];exact e⟩
theorem nV {l:List Cl}(h:Rt l)(id:Int):((ab l id).getD aA).sides.length<1099511627776:=by
 rcases h.getD id with e | e
 ·rw[e];decide
 ·have:=h.few64 e;omega
theorem SU.eqlB {P:Program}{N:Nat}{f:Fr}{dst:Option Tmp}{ty:TypeId}{pos:String}{af:Array Edge}{gd:Option (Nat×Bool)}{x y:Operand}{T U:TypeId}{a b:Bool}(d:P.underlying T=some .bool)(e:ev f x=some (vb a))(g:ev f y=some (vb b)) :
  SU P N ⟨dst,.binOp .eql T x y U,ty,pos,af,gd⟩ f (vb<|decide (a=b)):=fun ac w c=>by
 have hg:(eqGuard .eql T x y (.bool a)<|.bool b).run P w = .ok () w:=by simp[eqGuard]
 have hb:=run_eql_bool (P:=P) w T a b d;simp only[execOp,c.ev e,c.ev g,Sem.run_bind,hg,zd2,hb];rfl
theorem Gp {a b:Option Cl}(h:decide (a.isSome=true)=decide (b.isSome=true))(c:¬ a.isSome=true):decide (a=b)=true:=by
 cases a <;> cases b <;> simp_all
theorem Gn {a b:Option Cl}(h:decide (a.isSome=true)=decide (b.isSome=true))(c:¬ ¬ a.isSome=true):decide (a=b)=decide (a.getD aA=b.getD aA):=by
 cases a <;> cases b <;> simp_all
theorem Gm {a b:Option Cl}(h:¬ decide (a.isSome=true)=decide (b.isSome=true)):decide (a=b)=false:=by
 cases a <;> cases b <;> simp_all
theorem Ej (B L R:List Cl):(bL B L R).2.length≤B.length+(L.length+R.length):=by
 have a:=og B L R;have b:∀ w:Cl→Bool,(br w<|fp B L R).length≤(fp B L R).length:=fun w=>by
  unfold br;rw[ze9];exact zc6 _ _
 have hc:(eI B L R).length≤B.length+(L.length+R.length):=by
  have c:(eI B L R).length≤(fV [B,L,R]).length:=zc6 _ _;have d:=ij [B,L,R].flatten;unfold fV at c;rw[ze9] at c;have e:[B,L,R].flatten.length=B.length+(L.length+R.length):=by simp
  omega
 unfold bL;split
 ·exact hc
 ·split
  ·exact zl1 (b _) a
  ·split
   ·exact zl1 (b _) a
   ·split
    ·exact zl1 (b _) a
    ·exact zf9 _
theorem nq (B L R:List Cl):(bL B L R).1=[]∨(bL B L R).1=fp B L R:=by
 unfold bL;split
 ·exact .inl I
 ·split
  ·exact .inl I
  ·split
   ·exact .inl I
   ·split
    ·exact .inl I
    ·exact .inr I
theorem Gu (B L R:List Cl):∀ x∈(bL B L R).1,x∈L∨x∈R:=fun x a=>by
 rcases nq B L R with h | h
 ·rw[h] at a;cases a
 ·rw[h] at a;exact lz a
theorem sumN (B L R:List Cl):(bL B L R).1.length≤B.length+(L.length+R.length):=by
 rcases nq B L R with h | h
 ·rw[h];exact zf9 _
 ·rw[h];exact og B L R
theorem yT {α:Type}{l:Array α}{i:Nat}{x:α}(h:l[i]?=some x):l[0+(i:Int).toNat * 1+0]?=some x:=by
 have:0+(i:Int).toNat * 1+0=i:=oM;rw[this];exact h
set_option maxHeartbeats 16000000
theorem Tryz.b451 (a:Option Addr)(b c1:Nat)(d:Option Addr)(e c2:Nat)(f:Option Addr)(g i:Nat)(j:Option Addr)(k l:Nat)(w:World):(Instr.build 51 #[(0,.agg #[.slice a b c1]),(1,.agg #[.slice d e c2]),(2,.agg #[.slice f g i]),(3,.agg #[.slice j k l])]).run Tryz.prog w = .ok (.agg #[.slice a b c1,.slice d e c2,.slice f g i,.slice j k l]) w:=by
 have hz:(Value.agg #[Value.slice none 0 0,Value.slice none 0 0,Value.slice none 0 0,Value.slice none 0 0]).cells = #[.slice none 0 0,.slice none 0 0,.slice none 0 0,.slice none 0 0]:=rfl;have m:∀ p n c,(Value.agg #[Value.slice p n c]).cells = #[.slice p n c]:=fun _ _ _=>rfl;simp[Instr.build,Instr.fill,hz,m]
theorem FL {α:Type}{P:Nat→α→Prop}{a b c d:α}(e:P 0 a)(f:P 1 b)(g:P 2 c)(j:P 3 d){i:Nat}(k:i<4):∃ x,#[a,b,c,d][i]?=some x∧P i x:=by
 rcases (by omega:i=0∨i=1∨i=2∨i=3) with rfl | rfl | rfl | rfl
 ·exact⟨a,I,e⟩
 ·exact⟨b,I,f⟩
 ·exact⟨c,I,g⟩
 ·exact⟨d,I,j⟩
theorem Dz {M L R S:List Cl}(h:∀ id,pickT M L R id=some (ab S id))(id:Int) :
  ((ab L id=ab S id)∨(ab L id=ab M id))∧((ab R id=ab S id)∨(ab R id=ab M id))∧((ab L id=ab S id)∨ab R id=ab S id):=by
 rcases s7 h id with ⟨a,b⟩ | ⟨a,b⟩
 ·refine⟨.inl b.symm,?_,.inl b.symm⟩
  rcases a with a | a
  ·exact .inl (by rw[← a,b])
  ·exact .inr a
 ·exact⟨.inr a,.inl b.symm,.inr b.symm⟩
theorem tV (E:World)(g:PH)(s:Own)(u:Value)(D y:Int)(ls:List (List Int))(av:Value)(U:List Ac)(bv:Value)(V:List Ac)(l0:cU g u ls)(ha:SlA ln g av U)(hw:∀ a∈U,A64 a)(hb:SlA ln g bv V)(q3:∀ a∈V,A64 a)(hE:E.drawn=0) :
  Ctr Tryz.prog E 5 #[.agg #[vi D,u,vi y],av,bv] g s (fun r g' s'=>r=vb true∧s=s'∧Le g g'):=by
 obtain ⟨p,n,c,rfl⟩:∃ p n c,u = .slice p n c:=by
  obtain ⟨r5,l1,_⟩:=l0;obtain ⟨p,c,rfl⟩:=za4 l1;exact⟨_,_,_,I⟩
 obtain ⟨pa,ca,rfl⟩:=za4 ha;obtain ⟨pb,cb,rfl⟩:=za4 hb;have b6:=yN D ls y;have h7:=rD D ls y;have F:=rC D ls y;have h3:=D3 D ls y;refine zb2 (args:=[.agg #[vi D,.slice p n c,vi y],.slice pa U.length ca,.slice pb V.length cb]) func5 I ntmps5 (bE I)<|rZ (bW (bO I) fun b3=>?_);refine aT I<|rZ<|lW (SO.call call6 I<|tO E hE g _) ?_;rintro _ g1 _ ⟨rfl,rfl,W⟩;refine aT I<|rZ<|lK (qV 0 isAgg24 sizeOf24 I I I)<|lM I<|lM I<|lW (SO.call call7 I<|vH E g1 _ _ _ _ D y ls U V (l0.mono W) (za5 ha W) (za5 hb W) hw q3) ?_;rintro _ g2 _ ⟨rfl,l2,x0,x1,x2,es,fs,rfl,hM,q4,q5,hL,hR⟩;obtain ⟨lR,lN,lI⟩:=Bl (qC F) b6 h3 q4;obtain ⟨rR,rN,rI⟩:=Bl (qC F) b6 h3 q5;generalize (ir (jS D ls y) es).2.1=L at *;generalize (ir (jS D ls y) fs).2.1=R at *;generalize jS D ls y=M at *;obtain ⟨J,K,rfl⟩:=hM.form;obtain ⟨N,O,rfl⟩:=hL.form;obtain ⟨Q,T,rfl⟩:=hR.form;have d8:=W.trans l2;have ckL:=qC lR;have ckR:=qC rR;have ckM:=qC F;refine lM I (yX I<|yX I<|yX I<|bW (aL zm2) fun X=>?_);refine bW (aL zm2) fun Y=>bW (aL zm2) fun d=>oZ (sK 2 ag I I I I I sB)<|oZ (sK 1 ag I I I I I sB)<|oZ (sK 0 ag I I I I I sB)<|tZ<|rZ<|lK (qV 2 aj ag I I I)<|lK (qV 1 aj ag I I I)<|lK (qV 0 aj ag I I I)<|lW (SO.call call8 I<|fI E hE g2 _ _ _ _ M L R hM hL hR h7 lR.fits rR.fits ckM ckL ckR (fun x hx=>hx.elim (b6 x) fun hx=>hx.elim (lI x)<|rI x) oM) ?_;rintro _ g3 _ ⟨rfl,Z,y5,z5,rfl,hY,hZ⟩;rw[F.canon,lR.canon,rR.canon] at hY hZ;obtain ⟨G,H,rfl⟩:=hY.form;have h4:=BW (B:=M) (L:=L) (R:=R) oM;have h5:=BU (B:=M) lR rR oM;have l3:=Ej M L R;have l4:=Gu M L R;have m1:=sumN M L R;generalize (bL M L R).1=S at *;generalize (bL M L R).2=C at *;obtain ⟨pZ,cZ,rfl⟩:=za4 hZ;have m2:=hM.mono Z;have m3:=hL.mono Z;have m4:=hR.mono Z;have d8:=d8.trans Z;refine lM I (yX I<|yX I<|bW (aL zm2) fun f=>?_);refine oZ (sK 0 ag I I I I I sB)<|aT I<|sQ<|sW I<|lU (eN az I)<|lU (gR I I)<|tZ<|iP I (fun hc=>?_) (fun hc=>?_)
 ·have hS:S=[]:=h4 fun e=>by rw[e] at hc;simp at hc
  have r6:S.length=0:=by rw[hS];rfl
  exact sW I<|lM I<|lY I I I (fA dj I cj I)<|SL.gq (gT I I I dC) (qL (v:=.slice G S.length H) ef I<|cO 0 I I) dC<|lY I I I (eN aC I)<|lY I I I (SU.eq (v':=vb true) (eQ I I)<|ze5 vb<|zg2 oM)<|yP I<|aT I<|rE<|tR<|dR (s':=s) uR<|za8 (.inl I) results5 I ⟨I,I,d8⟩
 ·have hC:C=[]:=zf7 oM;obtain ⟨z,n0⟩:=h5 hC;obtain ⟨q6,q7⟩:=wM z n0;have h6:=Dz n0;have n1:∀ x∈S,a8 x.id:=fun x hx=>(l4 x hx).elim (lI x)<|rI x;have fS:=z.fits;have nS:=z.few;have ckS:=qC z;have nS2:S.length≤M.length+(L.length+R.length):=m1;clear h4 h5 l3 l4 hZ m1;refine kP (tN<|rZ<|aT I<|rZ<|lK (qV 3 aj ag I I I)<|lK (qV 2 aj ag I I I)<|lK (qV 1 aj ag I I I)<|lK (qV 0 aj ag I I I)<|lU (za3 I<|b451 _ _ _ _ _ _ _ _ _ _ _ _)<|bW (aL zeroValue51) fun A=>?_);refine oZ (sK 0 sizeOf51 I I I I I sB)<|tZ<|sQ<|rZ<|aT I<|bK<|zb6 3 1<|oP (ι:=Nat×Value×List Int) (fun i=>[(7,vb true),(8,pp X 0),(9,pp Y 0),(10,pp d 0),(11,pp f 0),(13,i.2.1),(14,pp A 0),(15,vi i.1)]) (fun _=>g3) (fun i=>rowA encInt 3 i.2.1 i.2.2::pt A (bY #[.slice J M.length K,.slice N L.length O,.slice Q R.length T,.slice G S.length H] 51)::pt f (bY #[.slice G S.length H] 29)::pt d (bY #[.slice Q R.length T] 29)::pt Y (bY #[.slice N L.length O] 29)::pt X (bY #[.slice J M.length K] 29)::pt b3 (bY #[vi D,.slice p n c,vi y] 24)::s)
   (fun i=>i.1≤4∧i.2.2.length≤4000 * i.1) (fun i=>4 - i.1) (0,.slice none 0 0,[]) sB rfl rfl ⟨zf9 _,Nat.le_refl _⟩ ?_
  rintro ⟨i,ov,acc⟩ ⟨hi,b7⟩;dsimp only at hi b7 ⊢;refine sQ<|sW I<|yL I<|tZ<|iP I (fun q8=>?_) (fun q8=>?_)
  ·have q9:i<4:=oM;obtain ⟨sv,n2,ps,ns,cs,rs,rfl,h8,r7⟩:∃ sv,#[Value.slice J M.length K,.slice N L.length O,.slice Q R.length T,.slice G S.length H][i]?=some sv∧∃ ps ns cs rs,sv = .slice ps ns cs∧SlA encCell g3 (.slice ps ns cs) rs∧ns≤4000:=by
    refine FL (P:=fun _ (sv:Value)=>∃ ps ns cs rs,sv=Value.slice ps ns cs∧SlA encCell g3 (.slice ps ns cs) rs∧ns≤4000) ?_ ?_ ?_ ?_ q9
    ·obtain ⟨rs,h1,_⟩:=m2;exact⟨_,_,_,rs,I,h1,oM⟩
    ·obtain ⟨rs,h1,_⟩:=m3;exact⟨_,_,_,rs,I,h1,oM⟩
    ·obtain ⟨rs,h1,_⟩:=m4;exact⟨_,_,_,rs,I,h1,oM⟩
    ·obtain ⟨rs,h1,_⟩:=hY;exact⟨_,_,_,rs,I,h1,nS⟩
   obtain rfl:ns=rs.length:=zc2 h8;refine kP<|tN<|sQ<|bK<|rZ<|aT I<|bK<|oP (ι:=Nat×Value×List Int) (fun q=>[(7,vb true),(8,pp X 0),(9,pp Y 0),(10,pp d 0),(11,pp f 0),(13,q.2.1),(14,pp A 0),(15,vi i),(16,vi q.1)]) (fun _=>g3) (fun q=>rowA encInt 3 q.2.1 q.2.2::pt A (bY #[.slice J M.length K,.slice N L.length O,.slice Q R.length T,.slice G S.length H] 51)::pt f (bY #[.slice G S.length H] 29)::pt d (bY #[.slice Q R.length T] 29)::pt Y (bY #[.slice N L.length O] 29)::pt X (bY #[.slice J M.length K] 29)::pt b3 (bY #[vi D,.slice p n c,vi y] 24)::s)
    (fun q=>q.1≤rs.length∧q.2.2.length≤4000 * i+q.1) (fun q=>rs.length - q.1) (0,ov,acc) sB rfl rfl ⟨zf9 _,b7⟩ ?_
   clear b7;rintro ⟨k,ov,acc⟩ ⟨hk,b7⟩;dsimp only at hk b7 ⊢;refine sQ<|sW I<|lM I<|lU (iB underlying51 ag I I oM oM)<|lU (fA dj I cj I)<|lK (qL (v:=.slice ps rs.length cs) ef I<|cO 1 I<|yT n2)<|lU (eN aC I)<|yL I<|tZ<|iP I (fun c0=>?_) (fun c0=>?_)
   ·have r0:k<rs.length:=oM;have a9:=za6 h8 oM;have b0:rs[((k:Nat):Int).toNat]?=some rs[k]:=List.getElem?_eq_getElem r0;generalize rs[k]=x at *;refine kP<|tN<|sQ<|bK<|rG<|lM I<|lM I<|lU (iB underlying51 ag I I oM oM)<|lU (fA dj I cj I)<|lK (qL (v:=.slice ps rs.length cs) ef I<|cO 1 I<|yT n2)<|lM I<|lU (iA aC ar I I a9 oM sL)<|lU (fC ao I zT3 I<|by assumption) ?_;refine lK (aZ (e:=encCell) (o:=0) (u:=vi x.id) iT3 I (za7 h8) b0 I)<|lW (bS sty32 I I I (ae ⟨I,trivial⟩) dC) ?_;rintro _ _ _ ⟨r8,rfl,rfl,rfl⟩;refine lW (aP (e:=encInt) (l:=acc) 0 x.id sty32 I I I I I oM oM) ?_;rintro ov' _ _ ⟨rfl,rfl⟩;exact lA I<|SL.nil<|bN<|tN<|rG<|lM I<|yD I<|lA I<|SL.nil<|ST.again (k+1,ov',acc++[x.id]) sB I I ⟨by dsimp only;omega,by dsimp only;rw[ze8,zf1];omega⟩ (by dsimp only;omega)
   ·exact xI<|tX<|tX<|bX<|bN<|tN<|rG<|lM I<|yD I<|lA I<|SL.nil<|ST.again (i+1,ov,acc) sB I I ⟨by dsimp only;omega,by dsimp only;omega⟩ (by dsimp only;omega)
  ·refine xI (tX<|tX<|bX<|tN<|sQ<|sQ<|zd6 fun g4 n3 hI=>?_);obtain ⟨qI,dI,rfl⟩:=zc3 hI;refine rG<|aT I<|bK ?_;have hI:SlA encInt g4 (.slice qI acc.length dI) acc:=hI;refine oP (ι:=PH×Nat) (fun q=>[(7,vb true),(8,pp X 0),(9,pp Y 0),(10,pp d 0),(11,pp f 0),(13,.slice qI acc.length dI),(17,vi q.2)]) (fun q=>q.1) (fun _=>pt A (bY #[.slice J M.length K,.slice N L.length O,.slice Q R.length T,.slice G S.length H] 51)::pt f (bY #[.slice G S.length H] 29)::pt d (bY #[.slice Q R.length T] 29)::pt Y (bY #[.slice N L.length O] 29)::pt X (bY #[.slice J M.length K] 29)::pt b3 (bY #[vi D,.slice p n c,vi y] 24)::s)
    (fun q=>Le g4 q.1∧q.2≤acc.length) (fun q=>acc.length - q.2) (g4,0) sB rfl rfl ⟨zb9 _,zf9 _⟩ ?_
   rintro ⟨g5,k⟩ ⟨a0,hk⟩;dsimp only at a0 hk ⊢;have j:=n3.trans a0;have d9:=m2.mono j;have n4:=m3.mono j;have n5:=m4.mono j;have e0:=hY.mono j;refine sQ<|sW I<|lM I<|lU (eN az I)<|yL I<|tZ<|iP I (fun c0=>?_) (fun c0=>?_)
   ·have n6:k<acc.length:=oM;have h9:=za5 hI a0;have a9:=za6 h9 oM;have b0:acc[((k:Nat):Int).toNat]?=some acc[k]:=List.getElem?_eq_getElem n6;generalize acc[k]=id at *;have r1:=h6 id;refine kP<|tN<|sQ<|bK<|SC.cut (ι:=Nat×PH×Rc) (fun q=>[(7,vb true),(8,pp X 0),(9,pp Y 0),(10,pp d 0),(11,pp f 0),(13,.slice qI acc.length dI),(17,vi k),(18,pp q.1 0),(19,vb<|decide ((ab M id).isSome=true))]) (fun q=>q.2.1) (fun q=>pt q.1 (bY #[vi q.2.2.id,vi q.2.2.dim,.slice q.2.2.sv.p q.2.2.sv.n q.2.2.sv.c] 37)::pt A (bY #[.slice J M.length K,.slice N L.length O,.slice Q R.length T,.slice G S.length H] 51)::pt f (bY #[.slice G S.length H] 29)::pt d (bY #[.slice Q R.length T] 29)::pt Y (bY #[.slice N L.length O] 29)::pt X (bY #[.slice J M.length K] 29)::pt b3 (bY #[vi D,.slice p n c,vi y] 24)::s) (fun q=>Le g5 q.2.1∧ak q.2.1 ((ab M id).getD aA) q.2.2) ?_ ?_
    ·refine SC.drawX [10] ze6 kR ?_;refine SX.q (i:=0) I kR (qV 4 aj ag I I I) dC<|SX.u (i:=1) I kR (mV I) dC<|SX.u (i:=2) I kR (mV I) dC<|SX.u (i:=3) I kR (iA az zT3 I I a9 oM sL) dC<|SX.q (i:=4) I kR (eB iT3 I (za7 h9) b0 I) dC ?_
     repeat' (first
      | (refine SB.o (i:=5) I (SO.call call9 I<|e7 E g5 _ _ M id d9 F) dC (.inr iR) ?_;rintro _ gz _ ⟨rfl,m,⟨y1,y2,⟨y3,y4,y5⟩⟩,rfl,t⟩;refine SX.u (i:=6) I kD (mV I) dC ?_;refine SX.u (i:=7) I kD (xT I I) dC ?_;refine SX.u (i:=8) I kD (xT I I) dC ?_)
      | (refine SB.o (i:=5) I (SO.call call9 I<|e7 E g5 _ _ M id d9 F) dC (.inr iR) ?_;rintro _ gz _ ⟨rfl,m,⟨y1,y2,⟨y3,y4,y5⟩⟩,rfl,t⟩;refine SX.u (i:=6) I kD (mV I) dC ?_;refine SX.u (i:=7) I kD (xT I I) dC ?_;refine SX.u (i:=8) I kD (xT I I) dC ?_)
      | (refine SB.o (i:=9) I (aL zl8) dC (.inr iR) ?_;rintro _ _ _ ⟨bv,rfl,rfl,rfl⟩)
      | (refine SB.o (i:=9) I (aL zl8) dC (.inr iR) ?_;rintro _ _ _ ⟨bv,rfl,rfl,rfl⟩)
      | (refine SB.on (i:=10) I (sK 0 ar I I I I I sB) (.inl dC) ?_;rintro _ _ _ ⟨rfl,rfl⟩;refine SX.u (i:=11) I kD (aS I) dC ?_)
      | refine zd9 5 9 kD ?_ ?_
      | refine zd8 9 kD ?_
      | refine zd8 10 kD ?_
      | refine zd8 5 kD ?_
      | (refine SX.nil kD ?_;exact za9 (bv,gz,⟨y1,y2,⟨y3,y4,y5⟩⟩) sB I I ⟨m,t⟩))
    rintro ⟨b1,g6,⟨c1,c2,⟨c3,c4,c5⟩⟩⟩ ⟨b2,c6⟩;dsimp only at b2 c6 ⊢;have n7:=n4.mono b2;have i0:=n5.mono b2;have e1:=e0.mono b2;have n8:=za5 h9 b2;refine SC.cut (ι:=Nat×PH×Rc) (fun q=>[(7,vb true),(8,pp X 0),(9,pp Y 0),(10,pp d 0),(11,pp f 0),(13,.slice qI acc.length dI),(17,vi k),(18,pp b1 0),(19,vb<|decide ((ab M id).isSome=true)),(20,pp q.1 0),(21,vb<|decide ((ab L id).isSome=true))]) (fun q=>q.2.1) (fun q=>pt q.1 (bY #[vi q.2.2.id,vi q.2.2.dim,.slice q.2.2.sv.p q.2.2.sv.n q.2.2.sv.c] 37)::pt b1 (bY #[vi c1,vi c2,.slice c3 c4 c5] 37)::pt A (bY #[.slice J M.length K,.slice N L.length O,.slice Q R.length T,.slice G S.length H] 51)::pt f (bY #[.slice G S.length H] 29)::pt d (bY #[.slice Q R.length T] 29)::pt Y (bY #[.slice N L.length O] 29)::pt X (bY #[.slice J M.length K] 29)::pt b3 (bY #[vi D,.slice p n c,vi y] 24)::s) (fun q=>Le g6 q.2.1∧ak q.2.1 ((ab L id).getD aA) q.2.2) ?_ ?_
    ·refine SC.drawX [10] ze6 kR ?_;refine SX.q (i:=0) I kR (qV 4 aj ag I I I) dC<|SX.u (i:=1) I kR (mV I) dC<|SX.u (i:=2) I kR (mV I) dC<|SX.u (i:=3) I kR (iA az zT3 I I a9 oM sL) dC<|SX.q (i:=4) I kR (eB iT3 I (za7 n8) b0 I) dC ?_
     repeat' (first
      | (refine SB.o (i:=5) I (SO.call call9 I<|e7 E g6 _ _ L id n7 lR) dC (.inr iR) ?_;rintro _ gz _ ⟨rfl,m,⟨y1,y2,⟨y3,y4,y5⟩⟩,rfl,t⟩;refine SX.u (i:=6) I kD (mV I) dC ?_;refine SX.u (i:=7) I kD (xT I I) dC ?_;refine SX.u (i:=8) I kD (xT I I) dC ?_)
      | (refine SB.o (i:=5) I (SO.call call9 I<|e7 E g6 _ _ L id n7 lR) dC (.inr iR) ?_;rintro _ gz _ ⟨rfl,m,⟨y1,y2,⟨y3,y4,y5⟩⟩,rfl,t⟩;refine SX.u (i:=6) I kD (mV I) dC ?_;refine SX.u (i:=7) I kD (xT I I) dC ?_;refine SX.u (i:=8) I kD (xT I I) dC ?_)
      | (refine SB.o (i:=9) I (aL zl8) dC (.inr iR) ?_;rintro _ _ _ ⟨bv,rfl,rfl,rfl⟩)
      | (refine SB.o (i:=9) I (aL zl8) dC (.inr iR) ?_;rintro _ _ _ ⟨bv,rfl,rfl,rfl⟩)
      | (refine SB.on (i:=10) I (sK 0 ar I I I I I sB) (.inl dC) ?_;rintro _ _ _ ⟨rfl,rfl⟩;refine SX.u (i:=11) I kD (aS I) dC ?_)
      | refine zd9 5 9 kD ?_ ?_
      | refine zd8 9 kD ?_
      | refine zd8 10 kD ?_
      | refine zd8 5 kD ?_
      | (refine SX.nil kD ?_;exact za9 (bv,gz,⟨y1,y2,⟨y3,y4,y5⟩⟩) sB I I ⟨m,t⟩))
    rintro ⟨e2,g7,⟨e4,e9,⟨f7,f8,h0⟩⟩⟩ ⟨b4,c7⟩;dsimp only at b4 c7 ⊢;have o1:=i0.mono b4;have h2:=e1.mono b4;have o2:=za5 n8 b4;refine SC.cut (ι:=Nat×PH×Rc) (fun q=>[(7,vb true),(8,pp X 0),(9,pp Y 0),(10,pp d 0),(11,pp f 0),(13,.slice qI acc.length dI),(17,vi k),(18,pp b1 0),(19,vb<|decide ((ab M id).isSome=true)),(20,pp e2 0),(21,vb<|decide ((ab L id).isSome=true)),(22,pp q.1 0),(23,vb<|decide ((ab R id).isSome=true))]) (fun q=>q.2.1) (fun q=>pt q.1 (bY #[vi q.2.2.id,vi q.2.2.dim,.slice q.2.2.sv.p q.2.2.sv.n q.2.2.sv.c] 37)::pt e2 (bY #[vi e4,vi e9,.slice f7 f8 h0] 37)::pt b1 (bY #[vi c1,vi c2,.slice c3 c4 c5] 37)::pt A (bY #[.slice J M.length K,.slice N L.length O,.slice Q R.length T,.slice G S.length H] 51)::pt f (bY #[.slice G S.length H] 29)::pt d (bY #[.slice Q R.length T] 29)::pt Y (bY #[.slice N L.length O] 29)::pt X (bY #[.slice J M.length K] 29)::pt b3 (bY #[vi D,.slice p n c,vi y] 24)::s) (fun q=>Le g7 q.2.1∧ak q.2.1 ((ab R id).getD aA) q.2.2) ?_ ?_
    ·refine SC.drawX [10] ze6 kR ?_;refine SX.q (i:=0) I kR (qV 4 aj ag I I I) dC<|SX.u (i:=1) I kR (mV I) dC<|SX.u (i:=2) I kR (mV I) dC<|SX.u (i:=3) I kR (iA az zT3 I I a9 oM sL) dC<|SX.q (i:=4) I kR (eB iT3 I (za7 o2) b0 I) dC ?_
     repeat' (first
      | (refine SB.o (i:=5) I (SO.call call9 I<|e7 E g7 _ _ R id o1 rR) dC (.inr iR) ?_;rintro _ gz _ ⟨rfl,m,⟨y1,y2,⟨y3,y4,y5⟩⟩,rfl,t⟩;refine SX.u (i:=6) I kD (mV I) dC ?_;refine SX.u (i:=7) I kD (xT I I) dC ?_;refine SX.u (i:=8) I kD (xT I I) dC ?_)
      | (refine SB.o (i:=5) I (SO.call call9 I<|e7 E g7 _ _ R id o1 rR) dC (.inr iR) ?_;rintro _ gz _ ⟨rfl,m,⟨y1,y2,⟨y3,y4,y5⟩⟩,rfl,t⟩;refine SX.u (i:=6) I kD (mV I) dC ?_;refine SX.u (i:=7) I kD (xT I I) dC ?_;refine SX.u (i:=8) I kD (xT I I) dC ?_)
      | (refine SB.o (i:=9) I (aL zl8) dC (.inr iR) ?_;rintro _ _ _ ⟨bv,rfl,rfl,rfl⟩)
      | (refine SB.o (i:=9) I (aL zl8) dC (.inr iR) ?_;rintro _ _ _ ⟨bv,rfl,rfl,rfl⟩)
      | (refine SB.on (i:=10) I (sK 0 ar I I I I I sB) (.inl dC) ?_;rintro _ _ _ ⟨rfl,rfl⟩;refine SX.u (i:=11) I kD (aS I) dC ?_)
      | refine zd9 5 9 kD ?_ ?_
      | refine zd8 9 kD ?_
      | refine zd8 10 kD ?_
      | refine zd8 5 kD ?_
      | (refine SX.nil kD ?_;exact za9 (bv,gz,⟨y1,y2,⟨y3,y4,y5⟩⟩) sB I I ⟨m,t⟩))
    rintro ⟨p0,g8,⟨i1,i2,⟨i3,j0,j1⟩⟩⟩ ⟨b5,c9⟩;dsimp only at b5 c9 ⊢;have p1:=h2.mono b5;have r2:=za5 o2 b5;refine SC.cut (ι:=Nat×PH×Rc) (fun q=>[(7,vb true),(8,pp X 0),(9,pp Y 0),(10,pp d 0),(11,pp f 0),(13,.slice qI acc.length dI),(17,vi k),(18,pp b1 0),(19,vb<|decide ((ab M id).isSome=true)),(20,pp e2 0),(21,vb<|decide ((ab L id).isSome=true)),(22,pp p0 0),(23,vb<|decide ((ab R id).isSome=true)),(24,pp q.1 0),(25,vb<|decide ((ab S id).isSome=true))]) (fun q=>q.2.1) (fun q=>pt q.1 (bY #[vi q.2.2.id,vi q.2.2.dim,.slice q.2.2.sv.p q.2.2.sv.n q.2.2.sv.c] 37)::pt p0 (bY #[vi i1,vi i2,.slice i3 j0 j1] 37)::pt e2 (bY #[vi e4,vi e9,.slice f7 f8 h0] 37)::pt b1 (bY #[vi c1,vi c2,.slice c3 c4 c5] 37)::pt A (bY #[.slice J M.length K,.slice N L.length O,.slice Q R.length T,.slice G S.length H] 51)::pt f (bY #[.slice G S.length H] 29)::pt d (bY #[.slice Q R.length T] 29)::pt Y (bY #[.slice N L.length O] 29)::pt X (bY #[.slice J M.length K] 29)::pt b3 (bY #[vi D,.slice p n c,vi y] 24)::s) (fun q=>Le g8 q.2.1∧ak q.2.1 ((ab S id).getD aA) q.2.2) ?_ ?_
    ·refine SC.drawX [10] ze6 kR ?_;refine SX.q (i:=0) I kR (qV 4 aj ag I I I) dC<|SX.u (i:=1) I kR (mV I) dC<|SX.u (i:=2) I kR (mV I) dC<|SX.u (i:=3) I kR (iA az zT3 I I a9 oM sL) dC<|SX.q (i:=4) I kR (eB iT3 I (za7 r2) b0 I) dC ?_
     repeat' (first
      | (refine SB.o (i:=5) I (SO.call call9 I<|e7 E g8 _ _ S id p1 z) dC (.inr iR) ?_;rintro _ gz _ ⟨rfl,m,⟨y1,y2,⟨y3,y4,y5⟩⟩,rfl,t⟩;refine SX.u (i:=6) I kD (mV I) dC ?_;refine SX.u (i:=7) I kD (xT I I) dC ?_;refine SX.u (i:=8) I kD (xT I I) dC ?_)
      | (refine SB.o (i:=5) I (SO.call call9 I<|e7 E g8 _ _ S id p1 z) dC (.inr iR) ?_;rintro _ gz _ ⟨rfl,m,⟨y1,y2,⟨y3,y4,y5⟩⟩,rfl,t⟩;refine SX.u (i:=6) I kD (mV I) dC ?_;refine SX.u (i:=7) I kD (xT I I) dC ?_;refine SX.u (i:=8) I kD (xT I I) dC ?_)
      | (refine SB.o (i:=9) I (aL zl8) dC (.inr iR) ?_;rintro _ _ _ ⟨bv,rfl,rfl,rfl⟩)
      | (refine SB.o (i:=9) I (aL zl8) dC (.inr iR) ?_;rintro _ _ _ ⟨bv,rfl,rfl,rfl⟩)
      | (refine SB.on (i:=10) I (sK 0 ar I I I I I sB) (.inl dC) ?_;rintro _ _ _ ⟨rfl,rfl⟩;refine SX.u (i:=11) I kD (aS I) dC ?_)
      | refine zd9 5 9 kD ?_ ?_
      | refine zd8 9 kD ?_
      | refine zd8 10 kD ?_
      | refine zd8 5 kD ?_
      | (refine SX.nil kD ?_;exact za9 (bv,gz,⟨y1,y2,⟨y3,y4,y5⟩⟩) sB I I ⟨m,t⟩))
    rintro ⟨r9,g9,⟨p2,p3,⟨p4,p5,p6⟩⟩⟩ ⟨d0,j2⟩;dsimp only at d0 j2 ⊢;have c9:=c9.mono d0;have c7:=(c7.mono b5).mono d0;have c6:=((c6.mono b4).mono b5).mono d0;have p7:=a0.trans<|(b2.trans b4).trans<|b5.trans d0;refine SC.cutB 26 (decide (ab L id=ab S id)) ?_ ?_
    ·refine rG<|lM I<|lM I<|lU (SU.eqlB uT4 I I)<|lM I<|sP ?_ ?_
     ·intro a1;refine yC I<|lY I I I (SU.notP I)<|yC I<|sP ?_ ?_
      ·intro d1;exact yA I<|yA I<|yA I<|lY I I I (wT I I)<|yP I<|lA I<|SL.nil<|zb1 (by exact ze5 (fun b=>some<|Value.bool b) (Gp a1 d1).symm) mI
      ·intro d1;refine SL.gq (gT I I I dC) (qV 2 dn ar I I I) dC<|SL.gq (gT I I I dC) (qV 0 dn ar I I I) dC<|ze4 (gT I I I dC) (SO.call call10 I<|gV E g9 _ ((ab L id).getD aA) ((ab S id).getD aA) ⟨e4,e9,⟨f7,f8,h0⟩⟩ ⟨p2,p3,⟨p4,p5,p6⟩⟩ c7 j2<|nV lR id) dC ?_;rintro _ _ _ ⟨rfl,rfl,rfl⟩;exact lY I I I (wF I I)<|yP I<|lA I<|SL.nil<|zb1 (by exact ze5 (fun b=>some<|Value.bool b) (Gn a1 d1).symm) mI
     ·intro a1;exact yA I<|yA I<|yA I<|yB I<|yB I<|yB I<|yA I<|yF I<|lA I<|SL.nil<|zb1 (by exact ze5 (fun b=>some<|Value.bool b) (Gm a1).symm) mI
    refine SC.cutB 27 (decide (ab R id=ab S id)) ?_ ?_
    ·refine rG<|lM I<|lM I<|lU (SU.eqlB uT4 I I)<|lM I<|sP ?_ ?_
     ·intro a2;refine yC I<|lY I I I (SU.notP I)<|yC I<|sP ?_ ?_
      ·intro d2;exact yA I<|yA I<|yA I<|lY I I I (wT I I)<|yP I<|lA I<|SL.nil<|zb1 (by exact ze5 (fun b=>some<|Value.bool b) (Gp a2 d2).symm) mI
      ·intro d2;refine SL.gq (gT I I I dC) (qV 1 dn ar I I I) dC<|SL.gq (gT I I I dC) (qV 0 dn ar I I I) dC<|ze4 (gT I I I dC) (SO.call call10 I<|gV E g9 _ ((ab R id).getD aA) ((ab S id).getD aA) ⟨i1,i2,⟨i3,j0,j1⟩⟩ ⟨p2,p3,⟨p4,p5,p6⟩⟩ c9 j2<|nV rR id) dC ?_;rintro _ _ _ ⟨rfl,rfl,rfl⟩;exact lY I I I (wF I I)<|yP I<|lA I<|SL.nil<|zb1 (by exact ze5 (fun b=>some<|Value.bool b) (Gn a2 d2).symm) mI
     ·intro a2;exact yA I<|yA I<|yA I<|yB I<|yB I<|yB I<|yA I<|yF I<|lA I<|SL.nil<|zb1 (by exact ze5 (fun b=>some<|Value.bool b) (Gm a2).symm) mI
    refine SC.cutB 28 (decide (ab L id=ab M id)) ?_ ?_
    ·refine rG<|lM I<|lM I<|lU (SU.eqlB uT4 I I)<|lM I<|sP ?_ ?_
     ·intro a3;refine yC I<|lY I I I (SU.notP I)<|yC I<|sP ?_ ?_
      ·intro d3;exact yA I<|yA I<|yA I<|lY I I I (wT I I)<|yP I<|lA I<|SL.nil<|zb1 (by exact ze5 (fun b=>some<|Value.bool b) (Gp a3 d3).symm) mI
      ·intro d3;refine SL.gq (gT I I I dC) (qV 2 dn ar I I I) dC<|SL.gq (gT I I I dC) (qV 3 dn ar I I I) dC<|ze4 (gT I I I dC) (SO.call call10 I<|gV E g9 _ ((ab L id).getD aA) ((ab M id).getD aA) ⟨e4,e9,⟨f7,f8,h0⟩⟩ ⟨c1,c2,⟨c3,c4,c5⟩⟩ c7 c6<|nV lR id) dC ?_;rintro _ _ _ ⟨rfl,rfl,rfl⟩;exact lY I I I (wF I I)<|yP I<|lA I<|SL.nil<|zb1 (by exact ze5 (fun b=>some<|Value.bool b) (Gn a3 d3).symm) mI
     ·intro a3;exact yA I<|yA I<|yA I<|yB I<|yB I<|yB I<|yA I<|yF I<|lA I<|SL.nil<|zb1 (by exact ze5 (fun b=>some<|Value.bool b) (Gm a3).symm) mI
    refine SC.cutB 29 (decide (ab R id=ab M id)) ?_ ?_
    ·refine rG<|lM I<|lM I<|lU (SU.eqlB uT4 I I)<|lM I<|sP ?_ ?_
     ·intro a4;refine yC I<|lY I I I (SU.notP I)<|yC I<|sP ?_ ?_
      ·intro d4;exact yA I<|yA I<|yA I<|lY I I I (wT I I)<|yP I<|lA I<|SL.nil<|zb1 (by exact ze5 (fun b=>some<|Value.bool b) (Gp a4 d4).symm) mI
      ·intro d4;refine SL.gq (gT I I I dC) (qV 1 dn ar I I I) dC<|SL.gq (gT I I I dC) (qV 3 dn ar I I I) dC<|ze4 (gT I I I dC) (SO.call call10 I<|gV E g9 _ ((ab R id).getD aA) ((ab M id).getD aA) ⟨i1,i2,⟨i3,j0,j1⟩⟩ ⟨c1,c2,⟨c3,c4,c5⟩⟩ c9 c6<|nV rR id) dC ?_;rintro _ _ _ ⟨rfl,rfl,rfl⟩;exact lY I I I (wF I I)<|yP I<|lA I<|SL.nil<|zb1 (by exact ze5 (fun b=>some<|Value.bool b) (Gn a4 d4).symm) mI
     ·intro a4;exact yA I<|yA I<|yA I<|yB I<|yB I<|yB I<|yA I<|yF I<|lA I<|SL.nil<|zb1 (by exact ze5 (fun b=>some<|Value.bool b) (Gm a4).symm) mI
    refine SC.cutB 202 (false) ?_ ?_
    ·refine rG<|lM I<|lU (SU.notP I)<|lM I<|sP ?_ ?_
     ·intro p9;refine yC I<|lY I I I (SU.notP I)<|yP I<|lM I<|sP ?_ ?_
      ·intro q0;exact yA I<|yA I<|yA I<|yB I<|yB I<|yA I<|yP I<|lM I<|yA I<|yA I<|yA I<|yB I<|yB I<|yA I<|yP I<|SL.nil<|zb1 (by (simp_all[aN];done)) mI
      ·intro q0;refine yC I<|lY I I I (SU.notP I)<|yC I<|sP ?_ ?_
       ·intro d5;refine yC I<|lY I I I (SU.notP I)<|lY I I I (wT I I)<|yF I<|lM I<|sP ?_ ?_
        ·intro d6;exact yA I<|yA I<|yA I<|yB I<|yB I<|yA I<|yP I<|SL.nil<|zb1 (by (simp_all[aN];done)) mI
        ·intro d6;refine yC I<|lY I I I (SU.notP I)<|yC I<|sP ?_ ?_
         ·intro w;exact yC I<|lY I I I (SU.notP I)<|lY I I I (wT I I)<|yF I<|SL.nil<|zb1 (by (simp_all[aN];done)) mI
         ·intro w;exact yA I<|yA I<|lY I I I (wF I I)<|yF I<|SL.nil<|zb1 (by rfl) mI
       ·intro d5;refine yA I<|yA I<|lY I I I (wF I I)<|yF I<|lM I<|yC I<|lY I I I (SU.notP I)<|yC I<|sP ?_ ?_
        ·intro w;exact yC I<|lY I I I (SU.notP I)<|lY I I I (wT I I)<|yF I<|SL.nil<|zb1 (by (simp_all[aN];done)) mI
        ·intro w;exact yA I<|yA I<|lY I I I (wF I I)<|yF I<|SL.nil<|zb1 (by rfl) mI
     ·intro p9;refine yA I<|yA I<|yF I<|lM I<|yC I<|lY I I I (SU.notP I)<|yC I<|sP ?_ ?_
      ·intro d5;refine yC I<|lY I I I (SU.notP I)<|lY I I I (wT I I)<|yF I<|lM I<|sP ?_ ?_
       ·intro d6;exact yA I<|yA I<|yA I<|yB I<|yB I<|yA I<|yP I<|SL.nil<|zb1 (by (simp_all[aN];done)) mI
       ·intro d6;refine yC I<|lY I I I (SU.notP I)<|yC I<|sP ?_ ?_
        ·intro w;exact yC I<|lY I I I (SU.notP I)<|lY I I I (wT I I)<|yF I<|SL.nil<|zb1 (by (simp_all[aN];done)) mI
        ·intro w;exact yA I<|yA I<|lY I I I (wF I I)<|yF I<|SL.nil<|zb1 (by rfl) mI
      ·intro d5;refine yA I<|yA I<|lY I I I (wF I I)<|yF I<|lM I<|yC I<|lY I I I (SU.notP I)<|yC I<|sP ?_ ?_
       ·intro w;exact yC I<|lY I I I (SU.notP I)<|lY I I I (wT I I)<|yF I<|SL.nil<|zb1 (by (simp_all[aN];done)) mI
       ·intro w;exact yA I<|yA I<|lY I I I (wF I I)<|yF I<|SL.nil<|zb1 (by rfl) mI
    exact za1 I<|kP<|bN<|tN<|rG<|lM I<|yD I<|lA I<|SL.nil<|dR (.cons _<|.cons _<|.cons _<|.cons _<|.refl _)<|ST.again (g9,k+1) sB I I ⟨p7,n6⟩ (by dsimp only;omega)
   ·clear h6;refine xI<|tX<|tX<|bX<|tN<|rZ<|lK (qV 1 aj ag I I I)<|lW (SO.call call17 I<|kH E g5 _ _ S e0 fS) ?_;rintro _ _ _ ⟨rfl,rfl,rfl⟩;rw[z.check];refine lM I<|yX I<|yX I<|lA I<|aT I<|rZ<|lK (qV 4 aj ag I I I)<|lK (qV 1 aj ag I I I)<|lK (qV 3 aj ag I I I)<|lW (SO.call call8 I<|fI E hE g5 _ _ _ _ M S L d9 e0 n4 h7 fS lR.fits ckM ckS ckL (fun x hx=>hx.elim (b6 x) fun hx=>hx.elim (n1 x)<|lI x) oM) ?_;rintro _ g6 _ ⟨rfl,a5,y6,z6,rfl,hA,q1⟩;rw[F.canon,lR.canon,z.canon,q6] at hA q1;obtain ⟨pA,cA,rfl⟩:=hA.form;obtain ⟨s2,t0,rfl⟩:=jJ (n:=0) q1 rfl;have r3:=d9.mono a5;have i0:=n5.mono a5;have e1:=e0.mono a5;refine lM I (yX I<|yX I<|bW (aL zm2) fun t1=>?_);refine oZ (sK 0 ag I I I I I sB)<|aT I<|rZ<|lK (qV 5 aj ag I I I)<|lK (qV 3 aj ag I I I)<|lK (qV 2 aj ag I I I)<|lW (SO.call call8 I<|fI E hE g6 _ _ _ _ M R S r3 i0 e1 h7 rR.fits fS ckM ckR ckS (fun x hx=>hx.elim (b6 x) fun hx=>hx.elim (rI x)<|n1 x) oM) ?_;rintro _ g7 _ ⟨rfl,d7,y7,z7,rfl,hB,q2⟩;rw[F.canon,rR.canon,z.canon,q7] at hB q2;obtain ⟨pB,cB,rfl⟩:=hB.form;obtain ⟨t2,t3,rfl⟩:=jJ (n:=0) q2 rfl;have r4:=hA.mono d7;have h2:=e1.mono d7;refine lM I (yX I<|yX I<|bW (aL zm2) fun t4=>?_);refine oZ (sK 0 ag I I I I I sB)<|aT I<|sW I<|lM I<|yC I<|lY I I I (SU.eq (v':=vb true) (eQ I I)<|ze5 vb<|zg2 I)<|yP I<|lM I<|yC I<|lY I I I (eN az I)<|yC I<|lY I I I (eN az I)<|lY I I I (SU.eq (v':=vi 0) (aD I I ⟨by decide,by decide⟩) I) ?_;refine lY I I I (SU.eq (v':=vb true) (eQ I I)<|ze5 vb<|zg2 I)<|yP I<|lM I<|SL.gq (gT I I I dC) (qV 1 aj ag I I I) dC<|SL.gq (gT I I I dC) (qV 3 aj ag I I I) dC<|ze4 (gT I I I dC) (SO.call call14 I<|rV E g7 _ _ _ S S r4 h2 fS fS) dC ?_;rintro _ _ _ ⟨rfl,rfl,rfl⟩;rw[show decide (aa S=aa S)=true from zg2 rfl];refine yP I<|lM I<|SL.gq (gT I I I dC) (qV 0 aj ag I I I) dC<|SL.gq (gT I I I dC) (qV 3 aj ag I I I) dC<|ze4 (gT I I I dC) (SO.call call14 I<|rV E g7 _ _ _ S S hB h2 fS fS) dC ?_;rintro _ _ _ ⟨rfl,rfl,rfl⟩;rw[show decide (aa S=aa S)=true from zg2 rfl];exact yP I<|aT I<|rE<|dR (s':=s) uR<|za8 (.inl I) results5 I ⟨I,I,d8.trans<|j.trans<|a5.trans d7⟩
end Go.Proofs.YtdepcjnaieflmaaGreatDoor
