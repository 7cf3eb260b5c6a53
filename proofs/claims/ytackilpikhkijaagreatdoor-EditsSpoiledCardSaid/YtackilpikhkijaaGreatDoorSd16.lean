/-
  For complexes with a change, Apply and All return what the reference model returns (EditsSpoiled). No conditions.
-/
import Derived.Test.YtackilpikhkijaaGreatDoorSd15
import Derived.Test.YtackilpikhkijaaGreatDoorTie
import Derived.Test.YtackilpikhkijaaGreatDoorCards
import Derived.LaidMore
import Derived.Lay
import Derived.SevenTiedAt
import Derived.Stop.Joined
set_option linter.unusedSimpArgs false
set_option linter.unusedVariables false
namespace Go.Proofs.YtackilpikhkijaaGreatDoor
open _root_.Go.Proofs.Tryz _root_.Go.Proofs.YtackilpikhkijaaGreatDoor.Tryz
open Go Go.Sy Go.Pl Go.Proofs
set_option maxRecDepth 100000
set_option maxHeartbeats 4000000
theorem rP {es:List Ed}{k:Nat}(h:k<es.length)(A:List Cl)(ss:List Stp):od A ss k (es.drop k)=if (c4 A es[k]).1=0 then od (c4 A es[k]).2 (ss++[imO A es[k]]) (k+1) (es.drop<|k+1) else (((c4 A es[k]).1,(k:Int)),[],[]):=by
 rw[zg9 h];rfl
theorem vr {es:List Ed}{k:Nat}(h:es.length≤k)(A:List Cl)(ss:List Stp):od A ss k (es.drop k)=((0,0),A,ss):=by
 rw[List.drop_of_length_le h];rfl
theorem kU {g:PH}{p:Option Addr}{n c:Nat}{l:List Cl}(h:ao g (.slice p n c) l):n=l.length:=by
 obtain ⟨q,d,e⟩:=h.form;injection e
theorem vB.nil {g:PH}{code i:Int}:vB ((code,i),[],[]) (.tuple #[.agg #[.slice none 0 0],.slice none 0 0,vi i,vi code]) g:=⟨_,none,0,0,rfl,ao.nil g,Sts.nil g⟩
theorem z7 (E:World)(g:PH)(s:Own)(v ev:Value)(l:List Cl)(es:List Ed)(hv:ao g v l)(hf:bo l)(he:Eds g ev es)(hs:∀ e∈es,EdS e)(hel:es.length<1099511627776) :
  Ctr Tryz.prog E 25 #[.agg #[v],ev] g s (fun r g' s'=>s=s'∧Le g g'∧vB (mA l es) r g'):=by
 obtain ⟨p,c,rfl⟩:=hv.form;obtain ⟨rs,hrs,hall⟩:=he;have hrl:=hall.length;obtain ⟨pe,ce,rfl⟩:=za4 hrs;refine zb2 (args:=[.agg #[.slice p l.length c],.slice pe rs.length ce]) func25 I ntmps25 (bE I)<|rZ (bW (bO I) fun b2=>?_);refine bW (aL zl5) fun b4=>lA I<|lA I<|aT I<|sQ<|bK<|sW I<|lU (eN A8 I)<|lU (gR I I)<|aT I<|iP I (fun h0=>?_) (fun h0=>?_)
 ·have hC:mA l es=((2,0),[],[]):=by unfold mA; rw[zg4 oM]
  refine rZ<|lU (za3 I buildE29)<|oZ (sK 0 ah I I I I I sB)<|lA I<|lA I<|aT I<|rE<|bR<|tR ?_;rw[hC];exact ST.retC3 0 s (.inl I) results25 I I I I aw ah I I (.cons _<|.cons _<|.refl _) ⟨I,zb9 _,vB.nil⟩
 ·by_cases hr:(aN l).2=0
  ·have hC:mA l es=od (aa l) [] 0 es:=by unfold mA; rw[zg3 oM,zg3 oM]
   refine rZ<|lK (qV 1 aw ah I I I)<|lW (cL call46 I<|kO E g _ _ l hv hf true<|zg2 hr) ?_;rintro _ _ _ ⟨rfl,rfl,rfl⟩;refine lU (SU.not I)<|aT I<|za1 I<|kP<|bN<|tN<|rZ<|lK (qV 1 aw ah I I I)<|lW (cL call55 I<|jN E g _ _ l hv hf) ?_;rintro _ g1 _ ⟨rfl,hle1,u1,rfl,hA⟩;obtain ⟨p1,c1,rfl⟩:=hA.form;refine oZ (sK 1 ah I I I I I sB)<|tZ<|rZ<|aT I<|sQ<|sW I<|lU (eN A8 I)<|lM I<|tZ<|bK ?_;rw[hC];have hAl:=bJ hf;generalize aa l=A at *;refine zb6 46 2<|oP (ι:=Nat×PH×List Cl×Option Addr×Nat×Value×List Sr×List Stp) (fun i=>[(2,pp b2 0),(4,pp b4 0),(8,i.2.2.2.2.2.1),(26,.slice pe rs.length ce),(27,vi rs.length),(28,vi i.1)]) (fun i=>i.2.1) (fun i=>rowA m8 46 i.2.2.2.2.2.1 i.2.2.2.2.2.2.1::pt b4 (.cells #[.slice none 0 0] 29 (0,0))::pt b2 (.cells #[.slice i.2.2.2.1 i.2.2.1.length i.2.2.2.2.1] 29 (0,0))::s)
    (fun i=>i.1≤es.length∧Le g1 i.2.1∧ao i.2.1 (.slice i.2.2.2.1 i.2.2.1.length i.2.2.2.2.1) i.2.2.1∧bo i.2.2.1∧aA (StK i.2.1) i.2.2.2.2.2.2.2 i.2.2.2.2.2.2.1∧i.2.2.2.2.2.2.1.length=i.1∧od A [] 0 es=od i.2.2.1 i.2.2.2.2.2.2.2 i.1 (es.drop i.1)) (fun i=>es.length - i.1)
    (0,g1,A,p1,c1,.slice none 0 0,[],[]) sB rfl rfl ⟨zf9 _,zb9 _,hA,hAl,trivial,rfl,rfl⟩ ?_
   rintro ⟨k,gk,B,pk,ck,ov,acc,ss⟩ ⟨hk,hlek,hB,hBf,hacc,hal,heq⟩;dsimp only at hk hlek hB hBf hacc hal heq ⊢;refine rZ<|yL I<|tZ<|sQ<|iP I (fun hlt=>?_) (fun hlt=>?_)
   ·have hke:k<es.length:=oM;have hkr:k<rs.length:=oM;have hrk:=za5 hrs<|hle1.trans hlek;have hbk:=za6 hrk oM;have hgx:rs[((k:Nat):Int).toNat]?=some rs[k]:=gE hkr;have hex:=(hall.get (gE hke)<|gE hkr).mono<|hle1.trans hlek;have hsx:=hs _<|gM hke;rw[rP hke] at heq;generalize es[k]=e at *;generalize rs[k]=x at *;obtain ⟨x1,x2,x3,x4,x5,⟨x6,x7,x8⟩,⟨x9,x10,x11⟩⟩:=x;have hDf:=jm B e;refine kP<|tN<|SC.cut (ι:=PH×Option Addr×Nat×Value×Sr) (fun i=>[(2,pp b2 0),(4,pp b4 0),(8,i.2.2.2.1),(26,.slice pe rs.length ce),(27,vi rs.length),(28,vi k)]) (fun i=>i.1) (fun i=>rowA m8 46 i.2.2.2.1 (acc++[i.2.2.2.2])::pt b4 (.cells #[.slice none 0 0] 29 (0,0))::pt b2 (.cells #[.slice i.2.1 (c4 B e).2.length i.2.2.1] 29 (0,0))::s)
     (fun i=>Le gk i.1∧ao i.1 (.slice i.2.1 (c4 B e).2.length i.2.2.1) (c4 B e).2∧StK i.1 (imO B e) i.2.2.2.2∧od A [] 0 es=od (c4 B e).2 (ss++[imO B e]) (k+1) (es.drop<|k+1)) ?_ ?_
    ·refine bK (sW I<|lU (iA A8 eW I I hbk oM sL)<|lK (eA jh eW I (za7 hrk) hgx)<|bW (aL zl9) fun b10=>?_);refine lA I<|oZ (sK 0 eW rfl rfl rfl rfl rfl<|by (repeat' (first | exact trivial | refine⟨by rfl,?_⟩))) ?_;refine tZ<|rZ<|lK (qV 3 aw ah I I I)<|lK (qV 0 jh eW I I I)<|lW (cL call16 I<|lC E gk _ _ _ B e hB hBf hex hsx.1 (by have:=hsx.2; omega)) ?_;rintro _ g2 _ ⟨rfl,hle2,hR⟩;obtain ⟨⟨d1,d2,d3⟩,⟨⟨y1,y2,y3⟩,y4⟩,rfl,hD,hS⟩:=hR.one;have hdn:=kU hD;subst hdn;refine lM I (yX I<|yX I<|yX I<|bW (aL zl5) fun b11=>?_);refine bW (aL zl7) fun b12=>?_;refine oZ (sK 1 ah I I I I I sB) ?_;refine oZ (sK 0 bC I I I I I sB) ?_;refine aT I<|sQ<|sW I<|lU (nQ I I)<|tZ ?_;refine iP I (fun hz=>?_) (fun hz=>?_)
     ·refine rZ<|lU (za3 I buildE29)<|lM I<|lM I<|oZ (sK 4 ah I I I I I sB)<|lA I<|lA I<|aT I<|rE<|tR<|bR<|tR<|tR<|bR<|tR ?_;rw[zg3 hz] at heq;rw[heq];exact ST.retC3 4 s (.inl I) results25 I I I I aw ah I I (.cons _<|.cons _<|.cons _<|.cons _<|.cons _<|.cons _<|.refl _) ⟨I,hle1.trans<|hlek.trans hle2,vB.nil⟩
     ·have hz:=Decidable.not_not.1 hz;rw[zg4 hz] at heq;refine kP<|tN ?_;refine SC.drawX [4,5] ze6 kR ?_;refine SX.u (i:=1) I kR (mV I) dC<|SX.q (i:=2) I kR (qV 0 fm bC I I I) dC ?_;refine zd9 0 3 kR ?_ ?_
      ·refine SB.o (i:=0) I (SQ.sof<|qV 1 aw ah I I I) dC (.inr iR) ?_;rintro _ _ _ ⟨rfl,rfl,rfl⟩;refine zd8 3 kR ?_
       ·refine SB.o (i:=3) I (bS sty67 I I I (ae ⟨I,trivial⟩) dC) dC (.inr iR) ?_;rintro _ _ _ ⟨b48,rfl,rfl,rfl⟩;refine zd8 4 kR ?_
        ·refine SB.o (i:=4) I (aP (e:=m8) (l:=acc) 3 ⟨⟨y1,y2,y3⟩,y4⟩ sty67 I I I I I oM oM) dC (.inl dC) ?_;rintro ov' _ _ ⟨rfl,rfl⟩;refine zd8 5 kR ?_
         ·refine SB.on (i:=5) I (sK 5 ah I I I I I sB) (.inl dC) ?_;rintro _ _ _ ⟨rfl,rfl⟩;refine SX.u (i:=6) I kR (aS I) dC<|SX.nil kR<|bN ?_;refine dR (.cons _<|.cons _<|.cons _<|.refl _) ?_; exact za9 (g2,d1,d3,ov',⟨⟨y1,y2,y3⟩,y4⟩) sB I I ⟨hle2,hD,hS,heq⟩
      ·refine SB.o (i:=3) I (bS sty67 I I I (ae ⟨I,trivial⟩) dC) dC (.inr iR) ?_;rintro _ _ _ ⟨b48,rfl,rfl,rfl⟩;refine zd9 0 4 kR ?_ ?_
       ·refine SB.o (i:=0) I (SQ.sof<|qV 2 aw ah I I I) dC (.inr iR) ?_;rintro _ _ _ ⟨rfl,rfl,rfl⟩;refine zd8 4 kR ?_
        ·refine SB.o (i:=4) I (aP (e:=m8) (l:=acc) 3 ⟨⟨y1,y2,y3⟩,y4⟩ sty67 I I I I I oM oM) dC (.inl dC) ?_;rintro ov' _ _ ⟨rfl,rfl⟩;refine zd8 5 kR ?_
         ·refine SB.on (i:=5) I (sK 5 ah I I I I I sB) (.inl dC) ?_;rintro _ _ _ ⟨rfl,rfl⟩;refine SX.u (i:=6) I kR (aS I) dC<|SX.nil kR<|bN ?_;refine dR (.cons _<|.cons _<|.cons _<|.refl _) ?_; exact za9 (g2,d1,d3,ov',⟨⟨y1,y2,y3⟩,y4⟩) sB I I ⟨hle2,hD,hS,heq⟩
       ·refine SB.o (i:=4) I (aP (e:=m8) (l:=acc) 3 ⟨⟨y1,y2,y3⟩,y4⟩ sty67 I I I I I oM oM) dC (.inl dC) ?_;rintro ov' _ _ ⟨rfl,rfl⟩;refine zd8 0 kR ?_
        ·refine SB.ob (i:=0) I (SQ.sof<|qV 1 aw ah I I I) dC kR ?_;rintro _ _ _ ⟨rfl,rfl,rfl⟩;refine zd8 5 kR ?_
         ·refine SB.on (i:=5) I (sK 5 ah I I I I I sB) (.inl dC) ?_;rintro _ _ _ ⟨rfl,rfl⟩;refine SX.u (i:=6) I kR (aS I) dC<|SX.nil kR<|bN ?_;refine dR (.cons _<|.cons _<|.cons _<|.refl _) ?_; exact za9 (g2,d1,d3,ov',⟨⟨y1,y2,y3⟩,y4⟩) sB I I ⟨hle2,hD,hS,heq⟩
    rintro ⟨g2,d1,d3,ov',⟨⟨y1,y2,y3⟩,y4⟩⟩ ⟨hle2,hD,hS,heq⟩;dsimp only at hle2 hD hS heq ⊢;exact rG<|yD I<|lM I<|nL<|gA (k+1,g2,(c4 B e).2,d1,d3,ov',acc++[⟨⟨y1,y2,y3⟩,y4⟩],ss++[imO B e]) sB I I ⟨by dsimp only; omega,hlek.trans hle2,hD,hDf,(hacc.mono fun _ _=>StK.mono hle2).append ⟨hS,trivial⟩,by dsimp only; rw[ze8,zf1]; omega,heq⟩ (by dsimp only; omega)
   ·rw[vr oM] at heq;refine xI (tX<|tX<|bX<|tN<|sQ<|fS fun g2 hle2 hs2=>?_);obtain ⟨q2,d2,rfl⟩:=zc3 hs2;refine rG<|lK (qV 1 aw ah I I I)<|lM I<|oZ (sK 0 ah I I I I I sB)<|lA I<|lA I<|aT I<|rE ?_;rw[heq];exact ST.retC3 0 s (.inl I) results25 I I I I aw ah I I (.cons _<|.cons _<|.refl _) ⟨I,hle1.trans<|hlek.trans hle2,_,_,_,_,I,hB.mono hle2,acc,hs2,hacc.mono fun _ _=>StK.mono hle2⟩
  ·have hC:mA l es=((1,0),[],[]):=by unfold mA; rw[zg3 oM,zg4 hr]
   refine rZ<|lK (qV 1 aw ah I I I)<|lW (cL call46 I<|kO E g _ _ l hv hf false<|zg1 hr) ?_;rintro _ _ _ ⟨rfl,rfl,rfl⟩;refine lU (SU.not I)<|aT I<|za2 I<|rZ<|lU (za3 I buildE29)<|oZ (sK 0 ah I I I I I sB)<|lA I<|lA I<|aT I<|rE<|bR<|tR ?_;rw[hC];exact ST.retC3 0 s (.inl I) results25 I I I I aw ah I I (.cons _<|.cons _<|.refl _) ⟨I,zb9 _,vB.nil⟩
theorem BG (E:World)(g:PH)(s:Own)(v ev:Value)(l:List Cl)(es:List Ed)(hv:ao g v l)(hf:bo l)(he:Eds g ev es)(hs:∀ e∈es,EdS e)(hel:es.length<1099511627776) :
  Ctr Tryz.prog E 57 #[.agg #[v],ev] g s (fun r g' s'=>s=s'∧Le g g'∧vB (mA l es) r g'):=by
 obtain ⟨p,c,rfl⟩:=hv.form;obtain ⟨rs,hrs,hall⟩:=he;have hrl:=hall.length;obtain ⟨pe,ce,rfl⟩:=za4 hrs;refine zb2 (args:=[.agg #[.slice p l.length c],.slice pe rs.length ce]) func57 I ntmps57 (bE I)<|rZ (bW (bO I) fun b2=>?_);refine bW (aL zl5) fun b4=>lA I<|lA I<|aT I<|sQ<|sW I<|lU (eN A8 I)<|lU (gR I I)<|tZ<|iP I (fun h0=>?_) (fun h0=>?_)
 ·have hC:mA l es=((2,0),[],[]):=by unfold mA; rw[zg4 oM]
  refine rZ<|lU (za3 I buildE29)<|oZ (sK 0 ah I I I I I sB)<|lA I<|lA I<|aT I<|rE<|tR ?_;rw[hC];exact ST.retC3 0 s (.inl I) results57 I I I I aw ah I I (.cons _<|.cons _<|.refl _) ⟨I,zb9 _,vB.nil⟩
 ·refine kP<|tN<|rZ<|lK (qV 1 aw ah I I I)<|lW (cL call65 I<|dF E g _ _ l hv hf) ?_;rintro _ g0 _ ⟨rfl,rfl,hle0⟩;rw[fN];have hv0:=hv.mono hle0;refine aT I<|sQ<|sW I<|lU (SU.notP I)<|tZ<|iP I (fun hr=>?_) (fun hr=>?_)
  ·have hC:mA l es=((1,0),[],[]):=by unfold mA; rw[zg3 oM,zg4 hr]
   refine rZ<|lU (za3 I buildE29)<|oZ (sK 0 ah I I I I I sB)<|lA I<|lA I<|aT I<|rE<|tR ?_;rw[hC];exact ST.retC3 0 s (.inl I) results57 I I I I aw ah I I (.cons _<|.cons _<|.refl _) ⟨I,hle0,vB.nil⟩
  ·have hC:mA l es=od (aa l) [] 0 es:=by unfold mA; rw[zg3 oM,zg3 hr]
   refine kP<|tN<|rZ<|lK (qV 1 aw ah I I I)<|lW (cL call59 I<|cC E g0 _ _ l hv0 hf) ?_;rintro _ g1 _ ⟨rfl,hle1,u1,rfl,hA⟩;obtain ⟨p1,c1,rfl⟩:=hA.form;have hle1:=hle0.trans hle1;refine bW (aL zl5) fun b9=>oZ (sK 0 ah I I I I I sB)<|tZ<|rZ<|aT I<|sQ<|rZ<|aT I<|bK ?_;rw[hC];have hAl:=bJ hf;generalize aa l=A at *;refine zb6 46 2<|oP (ι:=Nat×PH×List Cl×Option Addr×Nat×Value×List Sr×List Stp) (fun i=>[(1,.slice pe rs.length ce),(4,pp b4 0),(9,pp b9 0),(10,i.2.2.2.2.2.1),(11,vi i.1)]) (fun i=>i.2.1) (fun i=>rowA m8 46 i.2.2.2.2.2.1 i.2.2.2.2.2.2.1::pt b9 (.cells #[.slice i.2.2.2.1 i.2.2.1.length i.2.2.2.2.1] 29 (0,0))::pt b4 (.cells #[.slice none 0 0] 29 (0,0))::pt b2 (.cells #[.slice p l.length c] 29 (0,0))::s)
    (fun i=>i.1≤es.length∧Le g1 i.2.1∧ao i.2.1 (.slice i.2.2.2.1 i.2.2.1.length i.2.2.2.2.1) i.2.2.1∧bo i.2.2.1∧aA (StK i.2.1) i.2.2.2.2.2.2.2 i.2.2.2.2.2.2.1∧i.2.2.2.2.2.2.1.length=i.1∧od A [] 0 es=od i.2.2.1 i.2.2.2.2.2.2.2 i.1 (es.drop i.1)) (fun i=>es.length - i.1)
    (0,g1,A,p1,c1,.slice none 0 0,[],[]) sB rfl rfl ⟨zf9 _,zb9 _,hA,hAl,trivial,rfl,rfl⟩ ?_
   rintro ⟨k,gk,B,pk,ck,ov,acc,ss⟩ ⟨hk,hlek,hB,hBf,hacc,hal,heq⟩;dsimp only at hk hlek hB hBf hacc hal heq ⊢;refine sQ<|sW I<|lM I<|lU (eN A8 I)<|yL I<|tZ<|iP I (fun hlt=>?_) (fun hlt=>?_)
   ·have hke:k<es.length:=oM;have hkr:k<rs.length:=oM;have hrk:=za5 hrs<|hle1.trans hlek;have hbk:=za6 hrk oM;have hgx:rs[((k:Nat):Int).toNat]?=some rs[k]:=gE hkr;have hex:=(hall.get (gE hke)<|gE hkr).mono<|hle1.trans hlek;have hsx:=hs _<|gM hke;rw[rP hke] at heq;generalize es[k]=e at *;generalize rs[k]=x at *;obtain ⟨x1,x2,x3,x4,x5,⟨x6,x7,x8⟩,⟨x9,x10,x11⟩⟩:=x;have hDf:=jm B e;refine kP<|tN<|sQ<|bK<|SC.cut (ι:=Nat×Nat×PH×Sv×Sr) (fun i=>[(1,.slice pe rs.length ce),(4,pp b4 0),(9,pp b9 0),(10,ov),(11,vi k),(12,pp i.1 0),(13,pp i.2.1 0),(14,vi (c4 B e).1)]) (fun i=>i.2.2.1) (fun i=>pt i.2.1 (.cells #[.slice i.2.2.2.2.sv.p i.2.2.2.2.sv.n i.2.2.2.2.sv.c,vb i.2.2.2.2.bk] 46 (0,0))::pt i.1 (.cells #[.slice i.2.2.2.1.p (c4 B e).2.length i.2.2.2.1.c] 29 (0,0))::rowA m8 46 ov acc::pt b9 (.cells #[.slice pk B.length ck] 29 (0,0))::pt b4 (.cells #[.slice none 0 0] 29 (0,0))::pt b2 (.cells #[.slice p l.length c] 29 (0,0))::s)
     (fun i=>Le gk i.2.2.1∧ao i.2.2.1 (.slice i.2.2.2.1.p (c4 B e).2.length i.2.2.2.1.c) (c4 B e).2∧StK i.2.2.1 (imO B e) i.2.2.2.2) ?_ ?_
    ·refine SC.drawX [12,13] ze6 kR ?_;refine SX.q (i:=0) I kR (qV (by exact 1) aw ah I I I) dC ?_;refine SX.u (i:=1) I kR (mV I) dC<|SX.u (i:=2) I kR (mV I) dC<|SX.u (i:=3) I kR (iA A8 eW I I hbk oM sL) dC<|SX.q (i:=4) I kR (eA jh eW I (za7 hrk) hgx) dC ?_
     repeat' (first
      | (refine SB.o (i:=5) I (cL call37 I<|kL E gk _ _ _ B e hB hBf hex hsx.1 (by have:=hsx.2; omega)) dC (.inr (by rintro _ g2 _ ⟨rfl,hle2,hR⟩; exact⟨by assumption,(by exact .cons _<|.cons _<|.refl _)⟩)) ?_; rintro _ g2 _ ⟨rfl,hle2,hR⟩; obtain ⟨⟨d1,d2,d3⟩,⟨⟨y1,y2,y3⟩,y4⟩,rfl,hD,hS⟩:=hR.one; have hdn:=kU hD; subst hdn; refine SX.u (i:=6) I kD (mV I) dC ?_; refine SX.u (i:=7) I kD (xT I I) dC ?_; refine SX.u (i:=8) I kD (xT I I) dC ?_; refine SX.u (i:=9) I kD (xT I I) dC ?_)
      | (refine SB.o (i:=5) I (cL call37 I<|kL E gk _ _ _ B e hB hBf hex hsx.1 (by have:=hsx.2; omega)) dC (.inr (by rintro _ g2 _ ⟨rfl,hle2,hR⟩; exact⟨by assumption,(by exact .cons _<|.refl _)⟩)) ?_; rintro _ g2 _ ⟨rfl,hle2,hR⟩; obtain ⟨⟨d1,d2,d3⟩,⟨⟨y1,y2,y3⟩,y4⟩,rfl,hD,hS⟩:=hR.one; have hdn:=kU hD; subst hdn; refine SX.u (i:=6) I kD (mV I) dC ?_; refine SX.u (i:=7) I kD (xT I I) dC ?_; refine SX.u (i:=8) I kD (xT I I) dC ?_; refine SX.u (i:=9) I kD (xT I I) dC ?_)
      | (refine SB.o (i:=5) I (cL call37 I<|kL E gk _ _ _ B e hB hBf hex hsx.1 (by have:=hsx.2; omega)) dC (.inr (by rintro _ g2 _ ⟨rfl,hle2,hR⟩; exact⟨by assumption,(by exact .refl _)⟩)) ?_; rintro _ g2 _ ⟨rfl,hle2,hR⟩; obtain ⟨⟨d1,d2,d3⟩,⟨⟨y1,y2,y3⟩,y4⟩,rfl,hD,hS⟩:=hR.one; have hdn:=kU hD; subst hdn; refine SX.u (i:=6) I kD (mV I) dC ?_; refine SX.u (i:=7) I kD (xT I I) dC ?_; refine SX.u (i:=8) I kD (xT I I) dC ?_; refine SX.u (i:=9) I kD (xT I I) dC ?_)
      | (refine SB.o (i:=10) rfl (aL zl5) dC (.inr (by rintro _ _ _ ⟨b12,rfl,rfl,rfl⟩; exact⟨by exact zb9 _,(by exact .cons _<|.cons _<|.refl _)⟩)) ?_; rintro _ _ _ ⟨b12,rfl,rfl,rfl⟩)
      | (refine SB.o (i:=10) rfl (aL zl5) dC (.inr (by rintro _ _ _ ⟨b12,rfl,rfl,rfl⟩; exact⟨by assumption,(by exact .cons _<|.cons _<|.refl _)⟩)) ?_; rintro _ _ _ ⟨b12,rfl,rfl,rfl⟩)
      | (refine SB.o (i:=10) rfl (aL zl5) dC (.inr (by rintro _ _ _ ⟨b12,rfl,rfl,rfl⟩; exact⟨by exact zb9 _,(by exact .cons _<|.refl _)⟩)) ?_; rintro _ _ _ ⟨b12,rfl,rfl,rfl⟩)
      | (refine SB.o (i:=10) rfl (aL zl5) dC (.inr (by rintro _ _ _ ⟨b12,rfl,rfl,rfl⟩; exact⟨by assumption,(by exact .cons _<|.refl _)⟩)) ?_; rintro _ _ _ ⟨b12,rfl,rfl,rfl⟩)
      | (refine SB.o (i:=11) rfl (aL zl7) dC (.inr (by rintro _ _ _ ⟨b13,rfl,rfl,rfl⟩; exact⟨by exact zb9 _,(by exact .cons _<|.cons _<|.refl _)⟩)) ?_; rintro _ _ _ ⟨b13,rfl,rfl,rfl⟩)
      | (refine SB.o (i:=11) rfl (aL zl7) dC (.inr (by rintro _ _ _ ⟨b13,rfl,rfl,rfl⟩; exact⟨by assumption,(by exact .cons _<|.cons _<|.refl _)⟩)) ?_; rintro _ _ _ ⟨b13,rfl,rfl,rfl⟩)
      | (refine SB.o (i:=11) rfl (aL zl7) dC (.inr (by rintro _ _ _ ⟨b13,rfl,rfl,rfl⟩; exact⟨by exact zb9 _,(by exact .cons _<|.refl _)⟩)) ?_; rintro _ _ _ ⟨b13,rfl,rfl,rfl⟩)
      | (refine SB.o (i:=11) rfl (aL zl7) dC (.inr (by rintro _ _ _ ⟨b13,rfl,rfl,rfl⟩; exact⟨by assumption,(by exact .cons _<|.refl _)⟩)) ?_; rintro _ _ _ ⟨b13,rfl,rfl,rfl⟩)
      | (refine SB.on (i:=12) I (sK 1 ah I I I I I sB) (.inl dC) ?_; rintro _ _ _ ⟨rfl,rfl⟩)
      | (refine SB.on (i:=12) I (sK 0 ah I I I I I sB) (.inl dC) ?_; rintro _ _ _ ⟨rfl,rfl⟩)
      | (refine SB.on (i:=13) I (sK 0 bC I I I I I sB) (.inl dC) ?_; rintro _ _ _ ⟨rfl,rfl⟩; refine SX.u (i:=14) I kD (aS I) dC ?_)
      | (refine SB.on (i:=13) I (sK 1 bC I I I I I sB) (.inl dC) ?_; rintro _ _ _ ⟨rfl,rfl⟩; refine SX.u (i:=14) I kD (aS I) dC ?_)
      | refine SX.br3 5 10 11 kD ?_ ?_ ?_
      | refine zd9 10 11 kD ?_ ?_
      | refine zd8 11 kD ?_
      | refine zd8 12 kD ?_
      | refine zd8 13 kD ?_
      | refine zd8 10 kD ?_
      | refine zd9 5 11 kD ?_ ?_
      | refine zd8 5 kD ?_
      | refine zd9 5 10 kD ?_ ?_
      | (refine SX.nil kD ?_; first | exact za9 (b12,b13,g2,⟨d1,_,d3⟩,⟨⟨y1,y2,y3⟩,y4⟩) sB rfl rfl ⟨hle2,hD,hS⟩ | (refine ST.perm (zk4 _ _ _) ?_; exact za9 (b12,b13,g2,⟨d1,0,d3⟩,⟨⟨y1,y2,y3⟩,y4⟩) sB I I ⟨hle2,hD,hS⟩)))
    rintro ⟨b12,b13,g2,⟨d1,d2,d3⟩,⟨⟨y1,y2,y3⟩,y4⟩⟩ ⟨hle2,hD,hS⟩;dsimp only at hle2 hD hS ⊢;refine sQ<|sW I<|lU (nQ I I)<|tZ<|iP I (fun hz=>?_) (fun hz=>?_)
    ·refine rZ<|lU (za3 I buildE29)<|lM I<|lM I<|oZ (sK 4 ah I I I I I sB)<|lA I<|lA I<|aT I<|rE<|tR<|bR<|tR<|tR<|bR<|tR ?_;rw[zg3 hz] at heq;rw[heq];exact ST.retC3 4 s (.inl I) results57 I I I I aw ah I I (.cons _<|.cons _<|.cons _<|.cons _<|.cons _<|.cons _<|.refl _) ⟨I,hle1.trans<|hlek.trans hle2,vB.nil⟩
    ·have hz:=Decidable.not_not.1 hz;rw[zg4 hz] at heq;refine kP<|tN<|rZ<|lK (qV 1 aw ah I I I)<|oZ (sK 3 ah I I I I I sB)<|tZ<|rG<|lM I<|lK (qV 0 fm bC I I I)<|lW (bS sty67 I I I (ae ⟨I,trivial⟩) dC) ?_;rintro _ _ _ ⟨b50,rfl,rfl,rfl⟩;refine lW (aP (e:=m8) (l:=acc) 2 ⟨⟨y1,y2,y3⟩,y4⟩ sty67 I I I I I oM oM) ?_;rintro ov' _ _ ⟨rfl,rfl⟩;exact lA I<|nL<|bN<|tN<|rG<|lM I<|yD I<|lA I<|nL<|dR (.cons _<|.cons _<|.refl _)<|gA (k+1,g2,(c4 B e).2,d1,d3,ov',acc++[⟨⟨y1,y2,y3⟩,y4⟩],ss++[imO B e]) sB I I ⟨by dsimp only; omega,hlek.trans hle2,hD,hDf,(hacc.mono fun _ _=>StK.mono hle2).append ⟨hS,trivial⟩,by dsimp only; rw[ze8,zf1]; omega,heq⟩ (by dsimp only; omega)
   ·rw[vr oM] at heq;refine xI (tX<|tX<|bX<|tN<|sQ<|fS fun g2 hle2 hs2=>?_);obtain ⟨q2,d2,rfl⟩:=zc3 hs2;refine rG<|lK (qV 0 aw ah I I I)<|lM I<|oZ (sK 1 ah I I I I I sB)<|lA I<|lA I<|aT I<|rE ?_;rw[heq];exact ST.retC3 1 s (.inl I) results57 I I I I aw ah I I (.cons _<|.cons _<|.cons _<|.refl _) ⟨I,hle1.trans<|hlek.trans hle2,_,_,_,_,I,hB.mono hle2,acc,hs2,hacc.mono fun _ _=>StK.mono hle2⟩
theorem oA (E:World)(g:PH)(s:Own)(v u:Value)(L:List Stp)(hv:Sts g v L)(hu:Sts g u L)(hs:L.length≤1000∧∀ x∈L,StS x) :
  Ctr Tryz.prog E 58 #[v,u] g s (fun r g' s'=>r=vb true∧g=g'∧s=s'):=by
 obtain ⟨ra,hra,halla⟩:=hv;obtain ⟨rb,hrb,hallb⟩:=hu;have eal:=halla.length;have ebl:=hallb.length;have hll:=hs.1;obtain ⟨pa,ca,rfl⟩:=za4 hra;obtain ⟨pb,cb,rfl⟩:=za4 hrb;refine zb2 (args:=[.slice pa ra.length ca,.slice pb rb.length cb]) func58 I ntmps58 (bE I)<|rZ<|aT I<|sQ<|sW I<|lU (eN underlying67 I)<|lM I<|lU (eN underlying67 I)<|lU (SU.eq (v':=vb false) (nQ I I)<|ze5 vb<|zg1 (by (try simp only[slen]); omega)) ?_;refine tZ<|za1 I<|kP<|tN<|sQ<|rZ<|aT I<|bK ?_;refine oP (ι:=Nat) (fun k=>[(0,.slice pa ra.length ca),(1,.slice pb rb.length cb),(5,vi k)]) (fun _=>g) (fun _=>s) (fun k=>k≤L.length) (fun k=>L.length - k) 0 sB I I (zf9 _) ?_;rintro k hk;try dsimp only at hk ⊢
 refine sQ<|sW I<|lM I<|lU (eN underlying67 I)<|yL I<|tZ<|iP I (fun hlt=>?_) (fun hlt=>?_)
 ·have hkl:k<L.length:=oM;have hb1:=za6 hra oM;have hb2:=za6 hrb oM;have h1:=halla.get (gE hkl)<|gE (show k<ra.length by omega);have h2:=hallb.get (gE hkl)<|gE (show k<rb.length by omega);have g1:ra[((k:Nat):Int).toNat]?=some ra[k]:=gE (show k<ra.length by omega);have g2:rb[((k:Nat):Int).toNat]?=some rb[k]:=gE (show k<rb.length by omega);have hxl:=hs.2 _<|gM hkl;generalize L[k]=X at *;generalize ra[k]=xa at *;generalize rb[k]=xb at *;refine kP<|tN<|sQ<|bK<|sQ<|dW [9] [(0,2),(1,2),(2,2),(3,1),(4,2),(5,2),(6,2),(7,1),(8,0),(9,0)] ze6 kR<|yM I<|yM I<|pU I (iA underlying67 bC I I hb1 oM sL)<|pK I (eA fm bC I (za7 hra) g1)<|yM I<|yM I<|pU I (iA underlying67 bC I I hb2 oM sL)<|pK I (eA fm bC I (za7 hrb) g2)<|SP.o I (cL call18 I<|kZ E g _ xa xb X h1 h2 hxl) dC (.inr iR) ?_;rintro _ _ _ ⟨rfl,rfl,rfl⟩;exact oU I (aS I) dC (.inl dC)<|pN<|tN<|sW I<|lU (SU.not I)<|tZ<|za1 I<|kP<|bN<|tN<|rG<|lM I<|yD I<|lA I<|nL<|gA (k+1) sB I I oM oM
 ·exact xI<|tX<|tX<|bX<|tN<|rZ<|aT I<|rE<|za8 (.inl I) results58 I ⟨I,I,I⟩
theorem rO (E:World)(g:PH)(s:Own)(v ev:Value)(l:List Cl)(es:List Ed)(hv:ao g v l)(hf:bo l)(he:Eds g ev es)(hs:∀ e∈es,EdS e)(hel:es.length<1099511627776) :
  Ctr Tryz.prog E 23 #[.agg #[v],ev] g s (fun r g' s'=>r=vb true∧s=s'∧Le g g'):=by
 obtain ⟨p,c,rfl⟩:=hv.form;obtain ⟨pe,ce,rfl⟩:=he.form;have hsm:=wJ (es:=es) hf;refine zb2 (args:=[.agg #[.slice p l.length c],.slice pe es.length ce]) func23 I ntmps23 (bE I)<|rZ (bW (bO I) fun b2=>?_);refine aT I<|rZ<|lK (qV 0 aw ah I I I)<|lM I<|lW (cL call25 I<|z7 E g _ _ _ l es hv hf he hs hel) ?_;rintro _ g1 _ ⟨rfl,hle1,u1,q1,n1,c1,rfl,hA1,hS1⟩;obtain ⟨pA,cA,rfl⟩:=hA1.form;refine lM I (yX I<|yX I<|yX I<|yX I<|bW (aL zl5) fun b5=>?_);refine oZ (sK 0 ah I I I I I sB)<|lA I<|lA I<|aT I<|rZ<|lK (qV 1 aw ah I I I)<|lM I<|lW (cL call57 I<|BG E g1 _ _ _ l es (hv.mono hle1) hf (he.mono hle1) hs hel) ?_;rintro _ g2 _ ⟨rfl,hle2,u2,q2,n2,c2,rfl,hA2,hS2⟩;obtain ⟨pB,cB,rfl⟩:=hA2.form;have hA3:=hA1.mono hle2;have hS3:=hS1.mono hle2;have hle12:=hle1.trans hle2;generalize mA l es=R at *;obtain ⟨⟨code,ix⟩,D,SS⟩:=R;dsimp only at hsm hA2 hA3 hS2 hS3;refine lM I (yX I<|yX I<|yX I<|yX I<|bW (aL zl5) fun b9=>?_);refine oZ (sK 0 ah I I I I I sB)<|lA I<|lA I<|aT I<|sW I<|lM I<|lU (SU.eq (v':=vb true) (eQ I I)<|ze5 vb<|zg2 I)<|lM I<|yC I<|yC I<|lY I I I (SU.eq (v':=vb true) (eQ I I)<|ze5 vb<|zg2 I)<|yP I<|lM I<|SL.gq (gT I I I dC) (qV 1 aw ah I I I) dC<|SL.gq (gT I I I dC) (qV 0 aw ah I I I) dC<|ze4 (gT I I I dC) (cL call17 I<|nJ E g2 _ _ _ D D hA3 hA2 hsm.1) dC ?_;rintro _ _ _ ⟨rfl,rfl,rfl⟩;rw[show decide (D=D)=true from zg2 rfl];refine yP I<|lM I<|yC I<|yC I<|ze4 (gT I I I dC) (cL call58 I<|oA E g2 _ _ _ SS hS3 hS2 hsm.2) dC ?_;rintro _ _ _ ⟨rfl,rfl,rfl⟩;exact yP I<|aT I<|rE<|dR (s':=s) uR<|za8 (.inl I) results23 I ⟨I,I,hle12⟩
set_option maxHeartbeats 8000000
theorem lQ (E:World)(g:PH)(s:Own)(v:Value)(kd y:Int)(ls:List (List Int))(q0 q1 q2:Int)(av:Value)(acts:List Ac)(hv:cZ g v ls)(ha:SlA om g av acts) :
  Ctr Tryz.prog E 7 #[.agg #[vi kd,v,vi y],.agg #[vi q0,vi q1,vi q2],av] g s (fun r g' s'=>r=vb true∧s=s'∧Le g g'):=by
 obtain ⟨p,n,c,rfl⟩:∃ p n c,v = .slice p n c:=by
  obtain ⟨rs0,hrs0,_⟩:=hv;obtain ⟨p,c,rfl⟩:=za4 hrs0;exact⟨_,_,_,I⟩
 obtain ⟨pa,ca,rfl⟩:=za4 ha;have hmade:=fun g s v hv=>yu E g s v kd y ls hv;have hsm:=(ud kd ls y).room;generalize zv kd ls y=M at *;have hmf:bo M:=(hsm.mono dC dC:lm 5002 4000003 M).fits dC dC;have hcf:bo (mC M q0 q1 q2):=((tA hsm q0 q1 q2).mono dC dC:lm 5002 4000003 _).fits dC dC;have hspa:=fun g s v hv=>sj E g s v M q0 q1 q2 hv hmf;generalize mC M q0 q1 q2=C at *;refine zb2 (args:=[.agg #[vi kd,.slice p n c,vi y],.agg #[vi q0,vi q1,vi q2],.slice pa acts.length ca]) func7 I ntmps7 (bE I)<|rZ (bW (bO I) fun b3=>?_);refine bW (bO I) fun b4=>aT I<|rZ<|lW (cL call10 I<|qx E g _) ?_;rintro _ g1 _ ⟨rfl,rfl,hle1⟩;have hv1:=hv.mono hle1;refine aT I<|rZ<|lK (qV 1 isAgg24 sizeOf24 I I I)<|lW (cL call11 I<|hmade g1 _ _ hv1) ?_;rintro _ g2 _ ⟨rfl,hle2,xm,rfl,hxm⟩;obtain ⟨qm,dm,rfl⟩:=hxm.form;have hle12:=hle1.trans hle2;have ha2:=za5 ha hle12;refine bW (aL zl5) fun b8=>oZ (sK 0 ah I I I I I sB)<|tZ<|rZ<|lK (qV 0 aw ah I I I)<|lK (qV 1 isAgg61 sizeOf61 I I I)<|lW (cL call22 I<|hspa g2 _ _ hxm) ?_;rintro _ g3 _ ⟨rfl,hle3,xc,rfl,hxc⟩;obtain ⟨qc,dc,rfl⟩:=hxc.form;have hle13:=hle12.trans hle3;have ha3:=za5 ha2 hle3;have hxm3:=hxm.mono hle3;refine bW (aL zl5) fun b9=>oZ (sK 0 ah I I I I I sB)<|tZ<|rZ<|aT I<|sQ<|rZ<|aT I<|bK<|zb6 35 7<|oP (ι:=Nat×PH×Value×List Er×List Ed) (fun i=>[(2,.slice pa acts.length ca),(7,vb true),(8,pp b8 0),(9,pp b9 0),(10,i.2.2.1),(11,vi i.1)]) (fun i=>i.2.1) (fun i=>rowA sa 35 i.2.2.1 i.2.2.2.1::pt b9 (.cells #[.slice qc C.length dc] 29 (0,0))::pt b8 (.cells #[.slice qm M.length dm] 29 (0,0))::pt b4 (.cells #[vi q0,vi q1,vi q2] 61 (0,0))::pt b3 (.cells #[vi kd,.slice p n c,vi y] 24 (0,0))::s)
  (fun i=>i.1≤acts.length∧i.1≤6∧Le g3 i.2.1∧aA (EdK i.2.1) i.2.2.2.2 i.2.2.2.1∧(∀ e∈i.2.2.2.2,EdS e)∧i.2.2.2.1.length≤i.1) (fun i=>acts.length - i.1) (0,g3,.slice none 0 0,[],[]) sB rfl rfl ⟨zf9 _,zf9 _,zb9 _,trivial,by simp,lR _⟩ ?_
 rintro ⟨k,gk,ov,acc,es⟩ ⟨hk,hk6,hlek,hacc,hes,hal⟩;dsimp only at hk hk6 hlek hacc hes hal ⊢;refine sQ<|SC.cutB 27 (decide (k<acts.length)&&decide (k<6)) ?_ ?_
 ·refine rG<|lM I<|lM I<|lU (eN underlying25 I)<|yL I<|lM I<|sP ?_ ?_
  ·intro h24;exact yC I<|lY I I I (lS I I)<|yP I<|nL<|zb1 (by (simp_all[bg]; omega)) mI
  ·intro h24;exact yA I<|yA I<|yF I<|nL<|zb1 (by (simp_all[bg]; omega)) mI
 refine iQ I (fun hlt=>?_) (fun hlt=>?_)
 ·simp only[zj6,zj9] at hlt;obtain ⟨hka,hk9⟩:=hlt;have hak:=za5 ha3 hlek;have hba:=za6 hak oM;have hgx:acts[((k:Nat):Int).toNat]?=some acts[k]:=gE hka;generalize acts[k]=x at *;obtain ⟨k0,k1,k2,k3⟩:=x;have hmk:=hxm3.mono hlek;refine kP<|tN<|sQ<|bK<|SC.cut (ι:=Nat×PH×Ed×Er) (fun i=>[(2,.slice pa acts.length ca),(7,vb true),(8,pp b8 0),(9,pp b9 0),(10,ov),(11,vi k),(12,pp i.1 0)]) (fun i=>i.2.1) (fun i=>pt i.1 (.cells (sa.enc i.2.2.2).toArray 35 (0,0))::rowA sa 35 ov acc::pt b9 (.cells #[.slice qc C.length dc] 29 (0,0))::pt b8 (.cells #[.slice qm M.length dm] 29 (0,0))::pt b4 (.cells #[vi q0,vi q1,vi q2] 61 (0,0))::pt b3 (.cells #[vi kd,.slice p n c,vi y] 24 (0,0))::s)
   (fun i=>Le gk i.2.1∧EdK i.2.1 i.2.2.1 i.2.2.2∧EdS i.2.2.1) ?_ ?_
  ·refine SC.drawX [7] ze6 kR ?_;refine SX.u (i:=0) I kR (mV I) dC<|SX.u (i:=1) I kR (mV I) dC<|SX.u (i:=2) I kR (iA underlying25 sizeOf37 I I hba oM sL) dC<|SX.q (i:=3) I kR (eA isAgg37 sizeOf37 I (za7 hak) hgx) dC<|SX.q (i:=4) I kR (qV (by exact 2) aw ah I I I) dC ?_
   repeat' (first
    | (refine SB.o (i:=5) I (cL call13 I<|mu E gk _ _ M k0 k1 k2 k3 hmk hmf) dC (.inr iR) ?_; rintro ev g4 _ ⟨rfl,hle4,e,he,hse⟩; obtain ⟨⟨r1,r2,r3,r4,r5,⟨r6,r7,r8⟩,⟨r9,r10,r11⟩⟩,rfl,hr⟩:=he.rc)
    | (refine SB.o (i:=5) I (cL call13 I<|mu E gk _ _ M k0 k1 k2 k3 hmk hmf) dC (.inr iR) ?_; rintro ev g4 _ ⟨rfl,hle4,e,he,hse⟩; obtain ⟨⟨r1,r2,r3,r4,r5,⟨r6,r7,r8⟩,⟨r9,r10,r11⟩⟩,rfl,hr⟩:=he.rc)
    | (refine SB.o (i:=6) I (aL zl9) dC (.inr iR) ?_; rintro _ _ _ ⟨b12,rfl,rfl,rfl⟩)
    | (refine SB.o (i:=6) I (aL zl9) dC (.inr iR) ?_; rintro _ _ _ ⟨b12,rfl,rfl,rfl⟩)
    | (refine SB.on (i:=7) rfl (sK 0 eW rfl rfl rfl rfl rfl<|by (repeat' (first | exact trivial | refine⟨by rfl,?_⟩))) (.inl dC) ?_; rintro _ _ _ ⟨rfl,rfl⟩)
    | refine zd9 5 6 kD ?_ ?_
    | refine zd8 6 kD ?_
    | refine zd8 7 kD ?_
    | refine zd8 5 kD ?_
    | (refine SX.nil kD ?_; exact za9 (b12,g4,e,⟨r1,r2,r3,r4,r5,⟨r6,r7,r8⟩,⟨r9,r10,r11⟩⟩) sB I I ⟨hle4,hr,hse⟩))
  rintro ⟨b12,g4,e,⟨r1,r2,r3,r4,r5,⟨r6,r7,r8⟩,⟨r9,r10,r11⟩⟩⟩ ⟨hle4,hr,hse⟩;dsimp only at hle4 hr hse ⊢;refine SC.to (g':=g4) (s':=pt b12 (.cells #[vi r1,vi r2,vi r3,vi r4,vi r5,.slice r6 r7 r8,.slice r9 r10 r11] 35 (0,0))::rowA sa 35 ov acc::pt b9 (.cells #[.slice qc C.length dc] 29 (0,0))::pt b8 (.cells #[.slice qm M.length dm] 29 (0,0))::pt b4 (.cells #[vi q0,vi q1,vi q2] 61 (0,0))::pt b3 (.cells #[vi kd,.slice p n c,vi y] 24 (0,0))::s) (fun w hw=>hw) ?_;refine rZ (lK (qV 2 aw ah I I I) (lK (qV 0 jh eW I I I) (lW (cL call12 I (oH E g4 _ _ _ C e (hxc.mono (hlek.trans hle4)) hcf hr hse)) ?_)));rintro _ g5 _ ⟨rfl,rfl,hle5⟩;have hr5:=hr.mono hle5;have hle45:=hle4.trans hle5;refine aT I (sQ (sW I (lU (SU.not I) (tZ (za1 I (kP (tN (rG (lM I (lK (qV 0 jh eW I I I) (lW (bS sty63 I I I (ae ⟨I,trivial⟩) dC) ?_)))))))))));rintro _ _ _ ⟨b43,rfl,rfl,rfl⟩;refine lW (aP (e:=sa) (l:=acc) 1 ⟨r1,r2,r3,r4,r5,⟨r6,r7,r8⟩,⟨r9,r10,r11⟩⟩ sty63 I I I I I oM oM) ?_;rintro ov' _ _ ⟨rfl,rfl⟩;refine lA I (nL (bN (tN (rG (lM I (yD I (lA I (nL (dR (.cons _ (.refl _)) ?_)))))))));exact gA (k+1,g5,ov',acc++[⟨r1,r2,r3,r4,r5,⟨r6,r7,r8⟩,⟨r9,r10,r11⟩⟩],es++[e]) sB I I ⟨by dsimp only; omega,by dsimp only; omega,hlek.trans hle45,(hacc.mono fun _ _=>EdK.mono hle45).append ⟨hr5,trivial⟩,fun q hq=>by
   rcases zf6.1 hq with h | h
   ·exact hes q h
   ·simp at h; subst h; exact hse,by dsimp only; rw[ze8,zf1]; omega⟩ (by dsimp only; omega)
 ·have hel:=hacc.length;refine xI (tX<|tX<|bX<|tN<|sQ<|fS fun g5 hle5 hs5=>?_);obtain ⟨q5,d5,rfl⟩:=zc3 hs5;have hE5:Eds g5 (.slice q5 acc.length d5) es:=⟨acc,hs5,hacc.mono fun _ _=>EdK.mono hle5⟩;have hx5:=hxc.mono<|hlek.trans hle5;refine rG<|lM I<|lM I<|SL.gq (gT I I I dC) (qV 0 aw ah I I I) dC<|yC I<|ze4 (gT I I I dC) (cL call23 I<|rO E g5 _ _ _ C es hx5 hcf hE5 hes oM) dC ?_;rintro _ g6 _ ⟨rfl,rfl,hle6⟩;refine yP I<|lM I<|SL.gq (gT I I I dC) (qV 0 aw ah I I I) dC<|ze4 (gT I I I dC) (cL call23 I<|rO E g6 _ _ _ C [] (hx5.mono hle6) hcf (Eds.nil _) (by simp) dC) dC ?_;rintro _ g7 _ ⟨rfl,rfl,hle7⟩;exact yP I<|aT I<|rE<|dR (s':=s) uR<|za8 (.inl I) results7 I ⟨I,I,hle13.trans<|hlek.trans<|hle5.trans<|hle6.trans hle7⟩
end Go.Proofs.YtackilpikhkijaaGreatDoor
namespace Go.Proofs.YtackilpikhkijaaGreatDoor.editsSpoiledDone
open _root_.Go.Proofs.Tryz _root_.Go.Proofs.YtackilpikhkijaaGreatDoor.Tryz
open Go Go.Sy Go.Pl Go.Proofs Go.Proofs.YtackilpikhkijaaGreatDoor
open Go.ChangeShapes Go.WideShapes Go.ChangeAt Go.RowKit
set_option linter.unusedVariables false
theorem own:ownKnob Tryz.prog.godebug=none:=by kernel_rfl
theorem laidOut:laidOutB Tryz.prog=true:=by kernel_rfl
set_option maxRecDepth 100000 in
theorem lifted (os:Os)(started:os.Started)(H:Type)(enc:TypeId×Value→H) :
  ReturnsInHanded {} Tryz.checked os 7 .any (fun w args=>(Rows.editsSpoiledSpec.pre enc Tryz.prog f7 Rows.editsSpoiledRow.domain false w args∧laidMetH Tryz.prog Rows.editsSpoiledRow.laid w)∧sizedMet enc Tryz.prog f7 (OpenSpec.ofChange Rows.editsSpoiledSpec) false w args)
   (Rows.editsSpoiledSpec.post enc Tryz.prog f7 false true false false):=by
 refine returnsInHanded_of_change_and (C:=Tryz.checked) (X:=fun w _=>laidMetH Tryz.prog Rows.editsSpoiledRow.laid w) (fun _ _ _ hh h=>h.of_heap hh) own started kR func7
  (ChangeSpec.witness_shaped (enc:=enc) (C:=Tryz.checked) (os:=os) (X:=fun w _=>laidMetH Tryz.prog Rows.editsSpoiledRow.laid w) false (World.laidAll Tryz.prog os Rows.editsSpoiledRow.laid) #[.agg #[.int .i64 0,.slice none 0 0,.int .i64 0],.agg #[.int .i64 0,.int .i64 0,.int .i64 0],.slice none 0 0] 8 (World.laidAll_os _ _ _)
   (World.shaped_of_ZipB kR kR) kR kR kR
   (by rw[MakeChecks.laidMetH_plain _ _ _ kR]; exact laidMet_laidAll _ kR kR)) ?_
 intro W base args ds gs before hval0 hW hcnd hsz0 hL _;have hval:∀ (j:Nat) t v,f7.params[j]?=some t→args[j]?=some v→Value.okWide Tryz.prog W .any base t v:=hval0;have hW':=hW;obtain ⟨p,q,hA0,hV,rfl,hfz,hnd⟩:=hW;have hA:DataW.TrodAll enc Tryz.prog W 0 (fun _=>true) true f7.params.toList args.toList ds p:=hA0;rw[params7] at hA hval;obtain ⟨v0,vs0,d0,ds0,p0,q0,hargs,rfl,rfl,h0,r0⟩:=trodAll_cons hA;obtain ⟨v1,vs1,d1,ds1,p1,q1,rfl,rfl,rfl,h1,r1⟩:=trodAll_cons r0;obtain ⟨v2,vs2,d2,ds2,p2,q2,rfl,rfl,rfl,h2,r2⟩:=trodAll_cons r1;obtain ⟨rfl,rfl,rfl⟩:=trodAll_nil r2;obtain rfl:args = #[v0,v1,v2]:=by cases args; simp_all
 obtain ⟨rfl,rfl⟩:=trodVars_none hV;have lt0:∀ x∈p0,x.block<W.heap.size:=by obtain ⟨m,hm⟩:=h0; exact DataW.trod_lt m _ _ _ hm
 have lt1:∀ x∈p1,x.block<W.heap.size:=by obtain ⟨m,hm⟩:=h1; exact DataW.trod_lt m _ _ _ hm
 have lt2:∀ x∈p2,x.block<W.heap.size:=by obtain ⟨m,hm⟩:=h2; exact DataW.trod_lt m _ _ _ hm
 obtain ⟨kd,y,u,ls,e0,hls⟩:=zR (hval 0 24 v0 rfl rfl) h0;obtain ⟨x1_0,x1_1,x1_2,e1⟩:=zK (hval 1 61 v1 rfl rfl) h1;obtain ⟨a2,n2,c2,s2⟩:=okWide_slice underlying25<|hval 2 25 v2 rfl rfl;obtain ⟨as2,ha2⟩:=AM h2 (by rw[s2]; rfl);clear hA0 hval0;have walk:Calls Tryz.prog 7 #[v0,v1,v2] W fun e w'=>e = .returned (.bool true)∧Below W.heap.size W w':=by
  rw[e0,e1];refine (lQ (E0 W) (qj W) [] u kd y ls x1_0 x1_1 x1_2 _ as2 hls ha2 W (AH W)).mono ?_;rintro e w' ⟨v,g',s',rfl,hat,rfl,rfl,hle⟩;exact⟨I,AI hat hle⟩
 refine walk.mono fun e W' ⟨he,bel⟩=>?_;subst he;exact⟨_,I,_,_,_,[],_,[],hW',trodAll_mk1<|shut_bool uT4 _,(trodAll_cons_mk (Below.trod laidOut kR (zg6 kR) h0 bel lt0)<|trodAll_cons_mk (Below.trod laidOut kR (zg6 kR) h1 bel lt1)<|trodAll_cons_mk (Below.trod laidOut kR (zg6 kR) h2 bel lt2) trodAll_mk0),I,bel.frame _,fun h=>by cases h⟩
theorem over:Rows.editsSpoiledRow.holds Tryz.pinned (OpenSpec.ofChange Rows.editsSpoiledSpec) :=
 OpenClaim.holds_of_wide 7 f7 rfl rfl rfl rfl rfl rfl rfl ⟨rfl,rfl,rfl,rfl,rfl⟩ rfl rfl rfl rfl rfl kR func7 kR
  (zg6 kR) (by unfold Func.isWrapper; first | (rw[zg4 (by decide +kernel)]; kernel_rfl) | (rw[zg3 (by decide +kernel)]; exact⟨I,I⟩))
  (fun os started H enc _=>lifted os started H enc)
theorem proved:Rows.EditsSpoiledCardSaid :=
 Claim7.holds_tied_plain_at .later [] [.data,.pinned] true (true, "85c63643d982c1dc8445885ae8d9f831c52b04b8be462a812c531b9780928fe8") false
  over (fun _ h=>by cases h) kR (fun _ h=>by cases h) editsSpoiled_row_tie rfl ⟨rfl,rfl⟩ kR rfl
  (fun f fn hf hfn=>by
   obtain rfl : f = 7:=Option.some.inj ((show Tryz.prog.funcNamed "cocycle/cocyclelaw12.EditsSpoiled" = some 7 by kernel_rfl).symm.trans hf) |>.symm
   obtain rfl:fn=f7:=(Option.some.inj (func7.symm.trans hfn)).symm;exact⟨by kernel_rfl,fun j t ht=>by
    rw[params7] at ht;have hm:t∈[24,61,25]:=by simpa using Array.mem_of_getElem? ht
    have hall:([24,61,25].all fun u=>!Tryz.prog.wantsStandIn u)=true:=by kernel_rfl
    exact (show Tryz.prog.wantsStandIn t=false by simpa using zk3.1 hall t hm)⟩)
  kR
#print axioms proved
end Go.Proofs.YtackilpikhkijaaGreatDoor.editsSpoiledDone
