/- 12 -/
import Derived.Test.YtbbppeihhkhkcaaGreatDoorMt11
import Derived.Test.YtbbppeihhkhkcaaGreatDoorMt07
import Derived.Test.YtbbppeihhkhkcaaGreatDoorMt10
import Derived.Test.YtbbppeihhkhkcaaGreatDoorMt08
import Derived.Test.YtbbppeihhkhkcaaGreatDoorMt09
import Derived.Test.YtbbppeihhkhkcaaGreatDoorMt06
set_option linter.unusedSimpArgs false
set_option linter.unusedVariables false
namespace Go.Proofs.YtbbppeihhkhkcaaGreatDoor
open _root_.Go.Proofs.Tryz _root_.Go.Proofs.YtbbppeihhkhkcaaGreatDoor.Tryz
open Go Go.Sy Go.Pl Go.Proofs
set_option maxRecDepth 100000
set_option maxHeartbeats 4000000
theorem re (E:World)(g:PH)(s:Own)(v:Value)(l:List Cl)(k0 ka kb kc:Int)(hv:aj g v l)(hf:bd l)(hkd:bA k0 10=0∨bA k0 10=1∨bA k0 10=2) :
  Ctr Tryz.prog E 13 #[.agg #[vi k0,vi ka,vi kb,vi kc],.agg #[v]] g s (fun r g' s'=>s=s'∧Le g g'∧∃ e,EdR g' r e∧e.sides.length<1099511627776∧e.pairs.length≤3∧((bA k0 10=0∨bA k0 10=1∨bA k0 10=2)→e.kind=1)∧((∀ c∈l,bI c.id)→bI ka→bI kb→bI kc→(e.kind=1→bI e.cell)∧(e.kind=3→bI e.new∧bI e.other))):=by
 have hv0:=hv;obtain ⟨rs,hrs,hall⟩:=hv;have hlen:=hall.length;have hfl:=hf.1;obtain ⟨p,c,rfl⟩:=za3 hrs;have hid:∀ d,(AZ l d).length<1099511627776:=fun d=>by
  have h1:(AZ l d).length≤(ai l).length:=by unfold AZ; rw[ze3]; exact zc4 _ _
  have h2:=(ep hf).1;omega
 have htl:(CS l).length<1099511627776:=by
  have h1:(CS l).length≤(ai l).length:=by unfold CS; rw[ze3]; exact zc4 _ _
  have h2:=(ep hf).1;omega
 have hl0:=hid 0;have hl1:=hid 1;rw[← hlen] at hrs ⊢;have hv1:aj g (.slice p l.length c) l:=⟨rs,hrs,hall⟩;refine zb1 (args:=[.agg #[vi k0,vi ka,vi kb,vi kc],.agg #[.slice p l.length c]]) func13 I ntmps13 (bE I) ?_;refine rZ (bW (bO I) fun b2=>?_);refine bW (bO I) fun b3=>?_;refine bW (aL zl7) fun b4=>?_;refine tZ (rZ (aT I (sQ (rZ (aT I (bK (zb5 3 1 ?_)))))));refine oP (ι:=Nat×Value×List Int) (fun i=>[(2,pp b2 0),(3,pp b3 0),(4,pp b4 0),(5,i.2.1),(6,vi i.1)]) (fun _=>g) (fun i=>rowA encInt 3 i.2.1 i.2.2::pt b4 (.cells #[vi 0,vi 0,vi 0,vi 0,vi 0,.slice none 0 0,.slice none 0 0] 42 (0,0))::pt b3 (.cells #[.slice p l.length c] 29 (0,0))::pt b2 (.cells #[vi k0,vi ka,vi kb,vi kc] 44 (0,0))::s)
  (fun i=>i.1≤l.length∧i.2.2.length=i.1∧∀ z∈i.2.2,∃ c∈l,c.id=z) (fun i=>l.length - i.1) (0,.slice none 0 0,[]) sB rfl rfl ⟨zf3 _,rfl,by simp⟩ ?_
 rintro ⟨k,ov,acc⟩ ⟨hk,hal,hacc⟩;dsimp only at hk hal hacc ⊢;refine sQ (sW I (lU (fA ec I dF I) (lK (qL (v:=.slice p l.length c) fw I (cO 2 I I)) (lU (eN aB I) (yL I (tZ ?_))))));refine iP I (fun hlt=>?_) (fun hlt=>?_)
 ·have hkr:k<rs.length:=oM;have hb1:=za5 hrs oM;have hgx:rs[((k:Nat):Int).toNat]?=some rs[k]:=List.getElem?_eq_getElem hkr;have hcr:∃ c∈l,c.id=rs[k].id:=⟨l[k]'oM,gM _,((hall.get (List.getElem?_eq_getElem oM) (List.getElem?_eq_getElem hkr)).1).symm⟩;generalize rs[k]=x at *;refine kP (tN (sQ (bK (rG (lM I (lU (fA ec I dF I) (lK (qL (v:=.slice p l.length c) fw I (cO 2 I I)) (lM I (lU (iA aB ao I I hb1 oM sL) (lU (fC ay I zT3 I hb1) (lK (aZ (e:=encCell) (o:=0) (u:=vi x.id) iT3 I (za6 hrs) hgx I) (lW (bS sty52 I I I (ag ⟨I,trivial⟩) dC) ?_))))))))))));rintro _ _ _ ⟨b33,rfl,rfl,rfl⟩;refine lW (aP (e:=encInt) (l:=acc) 0 x.id sty52 I I I I I oM oM) ?_;rintro ov' _ _ ⟨rfl,rfl⟩;refine lA I (nL (bN (tN (rG (lM I (yD I (lA I (nL ?_))))))));exact ST.again (k+1,ov',acc++[x.id]) sB I I ⟨by dsimp only; omega,by dsimp only; rw[ze2,ze4]; omega,fun z hz=>by
   dsimp only at hz
   rcases ze9.1 hz with h | h
   ·exact hacc z h
   ·simp at h; rw[h]; exact hcr⟩ (by dsimp only; omega)
 clear hlt;have hIl:acc.length<1099511627776:=oM;clear hk hal;refine xI (tX (tX (bX (tN (sQ (fS fun g1 hle1 hI=>?_))))));obtain ⟨qI,dI,rfl⟩:=Sl.form hI;have hI:de g1 (.slice qI acc.length dI) acc:=hI;have hv2:=hv1.mono hle1;refine rG (lK (qV 1 aA ak I I I) (lW (SO.call call45 I (nG E g1 _ _ l 0 hv2 hf)) ?_));rintro _ g2 _ ⟨rfl,hle2,hV⟩;obtain ⟨pV,cV,rfl⟩:=za3 hV;have hv3:=hv2.mono hle2;have hI:=za4 hI hle2;refine aT I (rZ (lK (qV 1 aA ak I I I) (lW (SO.call call45 I (nG E g2 _ _ l 1 hv3 hf)) ?_)));rintro _ g3 _ ⟨rfl,hle3,hW⟩;obtain ⟨pW,cW,rfl⟩:=za3 hW;have hv4:=hv3.mono hle3;have hI:=za4 hI hle3;have hV:=za4 hV hle3;generalize AZ l 0=V at *;generalize AZ l 1=W at *;refine aT I (rZ (lK (qV 1 aA ak I I I) (lW (SO.call call46 I (s3 E g3 _ _ l hv4 hf)) ?_)));rintro _ _ _ ⟨rfl,rfl,n0,rfl,hn0⟩;have hle13:=hle1.trans (hle2.trans hle3);refine aT I ?_;refine SC.cut (ι:=Int) (fun n=>[(2,pp b2 0),(3,pp b3 0),(4,pp b4 0),(5,.slice qI acc.length dI),(7,.slice pV V.length cV),(8,.slice pW W.length cW),(9,vi n)]) (fun _=>g3) (fun _=>pt b4 (.cells #[vi 0,vi 0,vi 0,vi 0,vi 0,.slice none 0 0,.slice none 0 0] 42 (0,0))::pt b3 (.cells #[.slice p l.length c] 29 (0,0))::pt b2 (.cells #[vi k0,vi ka,vi kb,vi kc] 44 (0,0))::s) (fun n=>(∀ c∈l,bI c.id)→bI n) ?_ ?_
 ·refine rZ (lU (fA td I zT3 I) (lK (qL (v:=vi kc) iT3 I (cO 2 I I)) (lU (zd6 I I dC) (yE I (tZ ?_)))));refine iP I (fun hz=>?_) (fun hz=>?_)
  ·refine rG (lM I (lU (fA td I zT3 I) (lK (qL (v:=vi kc) iT3 I (cO 2 I I)) (lU (SU.quo I I dC) (lW (SO.call call47 I (nJ E g3 _ _ acc _ hI hIl)) ?_)))));rintro _ _ _ ⟨rfl,rfl,n1,rfl,hn1⟩;refine lA I (nL ?_);exact za8 n1 sB I I fun h=>by
    rcases hn1 with e | e
    ·try dsimp only
     rw[e]; unfold bI; omega
    ·obtain ⟨c,hc,e2⟩:=hacc _ e;try dsimp only
     rw[← e2]; exact h c hc
  ·refine kP ?_;exact za8 n0 sB I I fun _=>hn0
 rintro n hn64;try dsimp only
 refine SC.cut (ι:=Nat×PH×Cl×Rc) (fun i=>[(2,pp b2 0),(3,pp b3 0),(4,pp b4 0),(5,.slice qI acc.length dI),(7,.slice pV V.length cV),(8,.slice pW W.length cW),(9,vi n),(10,pp i.1 0)]) (fun i=>i.2.1) (fun i=>pt i.1 (.cells #[vi i.2.2.2.id,vi i.2.2.2.dim,.slice i.2.2.2.sv.p i.2.2.2.sv.n i.2.2.2.sv.c] 56 (0,0))::pt b4 (.cells #[vi 0,vi 0,vi 0,vi 0,vi 0,.slice none 0 0,.slice none 0 0] 42 (0,0))::pt b3 (.cells #[.slice p l.length c] 29 (0,0))::pt b2 (.cells #[vi k0,vi ka,vi kb,vi kc] 44 (0,0))::s) (fun i=>Le g3 i.2.1∧am i.2.1 i.2.2.1 i.2.2.2∧i.2.2.1.sides.length<1099511627776) ?_ ?_
 ·refine SC.drawX [10] zd9 kR ?_;refine SX.q (i:=0) I kR (qV 1 aA ak I I I) dC (SX.u (i:=1) I kR (mV I) dC (SX.u (i:=2) I kR (fA td I zT3 I) dC (SX.q (i:=3) I kR (qL (v:=vi ka) iT3 I (cO 2 I I)) dC ?_)))
  repeat' (first
   | (refine SB.o (i:=4) I (SO.call call47 I (gr E g3 _ _ acc ka hI hIl)) dC (.inr iR) ?_; rintro _ _ _ ⟨rfl,rfl,m1,rfl⟩)
   | (refine SB.o (i:=4) I (SO.call call47 I (gr E g3 _ _ acc ka hI hIl)) dC (.inr iR) ?_; rintro _ _ _ ⟨rfl,rfl,m1,rfl⟩)
   | (refine SB.o (i:=5) I (SO.call call48 I (f9 E g3 _ _ l m1 hv4 hf)) dC (.inr iR) ?_; rintro _ gF _ ⟨rfl,hleF,rF,rfl,hcF⟩; refine SX.u (i:=6) I kD (mV I) dC ?_; refine SX.u (i:=7) I kD (xT I I) dC ?_; refine SX.u (i:=8) I kD (xT I I) dC ?_)
   | (refine SB.o (i:=5) I (SO.call call48 I (f9 E g3 _ _ l m1 hv4 hf)) dC (.inr iR) ?_; rintro _ gF _ ⟨rfl,hleF,rF,rfl,hcF⟩; refine SX.u (i:=6) I kD (mV I) dC ?_; refine SX.u (i:=7) I kD (xT I I) dC ?_; refine SX.u (i:=8) I kD (xT I I) dC ?_)
   | (refine SB.o (i:=9) I (aL zk8) dC (.inr iR) ?_; rintro _ _ _ ⟨bF,rfl,rfl,rfl⟩)
   | (refine SB.o (i:=9) I (aL zk8) dC (.inr iR) ?_; rintro _ _ _ ⟨bF,rfl,rfl,rfl⟩)
   | (refine SB.on (i:=10) I (sK 0 ao I I I I I sB) (.inl dC) ?_; rintro _ _ _ ⟨rfl,rfl⟩; refine SX.u (i:=11) I kD (aS I) dC ?_)
   | refine zd5 4 9 kD ?_ ?_
   | refine zd5 5 9 kD ?_ ?_
   | refine zd4 9 kD ?_
   | refine zd4 10 kD ?_
   | refine zd4 5 kD ?_
   | refine zd4 4 kD ?_
   | (refine SX.nil kD ?_; exact za8 (bF,gF,(findC l m1).getD bi,rF) sB I I ⟨hleF,hcF,sb hf m1⟩))
 rintro ⟨b10,g4,X,⟨xi,xd,xp,xn,xc⟩⟩ ⟨hle4,⟨-,-,hxs⟩,hxl⟩;dsimp only at hle4 hxs hxl ⊢;have hxn:xn=X.sides.length:=zc1 hxs;subst hxn;have hv4:=hv4.mono hle4;have hI:=za4 hI hle4;refine SC.cut (ι:=Nat×PH×Cl×Rc) (fun i=>[(2,pp b2 0),(3,pp b3 0),(4,pp b4 0),(5,.slice qI acc.length dI),(7,.slice pV V.length cV),(8,.slice pW W.length cW),(9,vi n),(10,pp b10 0),(12,pp i.1 0)]) (fun i=>i.2.1) (fun i=>pt i.1 (.cells #[vi i.2.2.2.id,vi i.2.2.2.dim,.slice i.2.2.2.sv.p i.2.2.2.sv.n i.2.2.2.sv.c] 56 (0,0))::pt b10 (.cells #[vi xi,vi xd,.slice xp X.sides.length xc] 56 (0,0))::pt b4 (.cells #[vi 0,vi 0,vi 0,vi 0,vi 0,.slice none 0 0,.slice none 0 0] 42 (0,0))::pt b3 (.cells #[.slice p l.length c] 29 (0,0))::pt b2 (.cells #[vi k0,vi ka,vi kb,vi kc] 44 (0,0))::s) (fun i=>Le g4 i.2.1∧am i.2.1 i.2.2.1 i.2.2.2∧i.2.2.1.sides.length<1099511627776) ?_ ?_
 ·refine SC.drawX [10] zd9 kR ?_;refine SX.q (i:=0) I kR (qV 2 aA ak I I I) dC (SX.u (i:=1) I kR (mV I) dC (SX.u (i:=2) I kR (fA td I zT3 I) dC (SX.q (i:=3) I kR (qL (v:=vi kb) iT3 I (cO 3 I I)) dC ?_)))
  repeat' (first
   | (refine SB.o (i:=4) I (SO.call call47 I (gr E g4 _ _ acc kb hI hIl)) dC (.inr iR) ?_; rintro _ _ _ ⟨rfl,rfl,m1,rfl⟩)
   | (refine SB.o (i:=4) I (SO.call call47 I (gr E g4 _ _ acc kb hI hIl)) dC (.inr iR) ?_; rintro _ _ _ ⟨rfl,rfl,m1,rfl⟩)
   | (refine SB.o (i:=5) I (SO.call call48 I (f9 E g4 _ _ l m1 hv4 hf)) dC (.inr iR) ?_; rintro _ gF _ ⟨rfl,hleF,rF,rfl,hcF⟩; refine SX.u (i:=6) I kD (mV I) dC ?_; refine SX.u (i:=7) I kD (xT I I) dC ?_; refine SX.u (i:=8) I kD (xT I I) dC ?_)
   | (refine SB.o (i:=5) I (SO.call call48 I (f9 E g4 _ _ l m1 hv4 hf)) dC (.inr iR) ?_; rintro _ gF _ ⟨rfl,hleF,rF,rfl,hcF⟩; refine SX.u (i:=6) I kD (mV I) dC ?_; refine SX.u (i:=7) I kD (xT I I) dC ?_; refine SX.u (i:=8) I kD (xT I I) dC ?_)
   | (refine SB.o (i:=9) I (aL zk8) dC (.inr iR) ?_; rintro _ _ _ ⟨bF,rfl,rfl,rfl⟩)
   | (refine SB.o (i:=9) I (aL zk8) dC (.inr iR) ?_; rintro _ _ _ ⟨bF,rfl,rfl,rfl⟩)
   | (refine SB.on (i:=10) I (sK 0 ao I I I I I sB) (.inl dC) ?_; rintro _ _ _ ⟨rfl,rfl⟩; refine SX.u (i:=11) I kD (aS I) dC ?_)
   | refine zd5 4 9 kD ?_ ?_
   | refine zd5 5 9 kD ?_ ?_
   | refine zd4 9 kD ?_
   | refine zd4 10 kD ?_
   | refine zd4 5 kD ?_
   | refine zd4 4 kD ?_
   | (refine SX.nil kD ?_; exact za8 (bF,gF,(findC l m1).getD bi,rF) sB I I ⟨hleF,hcF,sb hf m1⟩))
 rintro ⟨b12,g5,Y,⟨yi,yd,yp,yn,yc⟩⟩ ⟨hle5,⟨-,-,hys⟩,hyl⟩;dsimp only at hle5 hys hyl ⊢;have hyn:yn=Y.sides.length:=zc1 hys;subst hyn;have hv5:=hv4.mono hle5;have hI5:=za4 hI hle5;have hle45:=hle4.trans hle5;have hV5:=za4 hV hle45;have hW5:=za4 hW hle45;have hxs5:=za4 hxs hle5;have hle15:=hle13.trans hle45;refine sQ (rZ (lU (fA td I zT3 I) (lK (qL (v:=vi k0) iT3 I (cO 4 I I)) (lW (SO.call call32 I (bH E g5 _ k0 10 dC)) ?_))));rintro _ _ _ ⟨rfl,rfl,rfl⟩;generalize bA k0 10=kd at *;refine tZ (bK (rZ (yE I (aT I ?_))));refine iP I (fun h0=>?_) (fun h0=>?_)
 ·refine sW I (lU (za2 I (bA42 _ _)) ?_);refine oZ (sK 2 jC rfl rfl rfl rfl rfl (by (repeat' (first | exact trivial | refine⟨by rfl,?_⟩)))) ?_;refine tZ (rE (bR (tR ?_)));exact ST.retCD 2 s (.inl I) results13 I isAgg42 jC I I uR ⟨I,hle15,⟨1,n,0,0,0,[],[]⟩,⟨_,_,I,zb9 _ _,zb9 _ _⟩,by simp,by simp,fun _=>I,fun h _ _ _=>⟨fun _=>hn64 h,fun h1=>absurd (show (1:Int)=3 from h1) dC⟩⟩
 ·refine rZ (yE I (aT I ?_));refine iP I (fun h1=>?_) (fun h1=>?_)
  ·refine sQ ?_;refine dW [13] [(0,2),(1,2),(2,2),(3,1),(6,2),(7,2),(8,1),(4,0),(5,2),(9,0),(10,2),(11,0),(12,2),(13,0)] zd9 kR ?_;refine yM I (yM I (pU I (fA td I zT3 I) (pK I (qL (v:=vi ka) iT3 I (cO 4 I I)) (yM I (pU I (fA td I zT3 I) (pK I (qL (v:=vi kb) iT3 I (cO 4 I I)) (SP.o I (SO.call call47 I (gr E g5 _ _ V ka hV5 hl0)) dC (.inr iR) ?_)))))));rintro _ _ _ ⟨rfl,rfl,a1,rfl⟩;refine pU I (za2 I (buildS75 _ _)) (SP.o I (SO.call call47 I (gr E g5 _ _ V kb hV5 hl0)) dC (.inr iR) ?_);rintro _ _ _ ⟨rfl,rfl,a2,rfl⟩;refine pU I (za2 I (buildS75 _ _)) (SP.o I (bS sty39 I I I (ag sB) dC) dC (.inr iR) ?_);rintro _ _ _ ⟨b88,rfl,rfl,rfl⟩;refine SP.freeze fun g6 hle6 hb6=>?_;have hs6:SlA encSide g6 (.slice (some ⟨b88,0,none⟩) 2 2) [⟨a1,1⟩,⟨a2,-1⟩]:=SlA.lit hb6 rfl rfl;refine pU I (za2 I (bB42 _ _ _ _ _ _)) ?_;refine SP.on rfl (sK 2 jC rfl rfl rfl rfl rfl (by (repeat' (first | exact trivial | refine⟨by rfl,?_⟩)))) (.inl dC) ?_;rintro _ _ _ ⟨rfl,rfl⟩;refine pN (tN (rE (bR (tR ?_))));exact ST.retCD 2 s (.inl I) results13 I isAgg42 jC I I uR ⟨I,hle15.trans hle6,⟨1,n,1,0,0,[⟨a1,1⟩,⟨a2,-1⟩],[]⟩,⟨_,_,I,hs6,zb9 _ _⟩,by simp,by simp,fun _=>I,fun h _ _ _=>⟨fun _=>hn64 h,fun h1=>absurd (show (1:Int)=3 from h1) dC⟩⟩
  ·refine rZ (yE I (aT I ?_));refine iP I (fun h2=>?_) (fun h2=>?_)
   ·refine SC.cut (ι:=Nat×Option Addr×Nat) (fun i=>[(2,pp b2 0),(4,pp b4 0),(14,pp i.1 0)]) (fun _=>g5) (fun i=>pt i.1 (.cells #[vi 1,vi n,vi xd,vi 0,vi 0,.slice i.2.1 X.sides.length i.2.2,.slice none 0 0] 42 (0,0))::rowA encSide 75 (.slice i.2.1 X.sides.length i.2.2) X.sides::pt b12 (.cells #[vi yi,vi yd,.slice yp Y.sides.length yc] 56 (0,0))::pt b10 (.cells #[vi xi,vi xd,.slice xp X.sides.length xc] 56 (0,0))::pt b4 (.cells #[vi 0,vi 0,vi 0,vi 0,vi 0,.slice none 0 0,.slice none 0 0] 42 (0,0))::pt b3 (.cells #[.slice p l.length c] 29 (0,0))::pt b2 (.cells #[vi k0,vi ka,vi kb,vi kc] 44 (0,0))::s) (fun _=>True) ?_ ?_
    ·refine SC.drawX [9] zd9 kR ?_;refine SX.u (i:=0) I kR (mV I) dC (SX.u (i:=1) I kR (fA ay I zT3 I) dC (SX.q (i:=2) I kR (qL (v:=vi xd) iT3 I (cO (by exact 1) I I)) dC ?_));refine SX.u (i:=4) I kR (fA ay I bJ I) dC (SX.q (i:=5) I kR (qL (v:=.slice xp X.sides.length xc) cI I (cO (by exact 1) I I)) dC ?_);refine zd5 3 8 kR ?_ ?_
     ·refine SB.o (i:=3) I (bS sty39 I I I (ag trivial) dC) dC (.inr iR) ?_;rintro _ _ _ ⟨b95,rfl,rfl,rfl⟩;refine SX.drop (zi7 _ _) ?_;refine zd5 6 8 kR ?_ ?_
      ·refine SB.o (i:=6) I (SO.appNewA (e:=encSide) sty39 I I hxs5 oM oM) dC (.inr iR) ?_;rintro v98 _ _ ⟨rfl,rfl⟩;refine SX.facts fun ⟨w0,hw0⟩=>?_;obtain ⟨q8,d8,rfl⟩:=ah (e:=encSide) (l:=X.sides) (i:=0) hw0 rfl;clear hw0 w0
       first | refine SX.to (fun w hw=>At.perm hw (zj7 (pt b14 _) _ _)) ?_ | skip
       refine SX.u (i:=7) I kR (za2 I (bB42 _ _ _ _ _ _)) dC ?_;refine zd4 8 kR ?_
       ·refine SB.o (i:=8) I (aL zl7) dC (.inr iR) ?_;rintro _ _ _ ⟨b14,rfl,rfl,rfl⟩;refine zd4 9 kR ?_
        ·refine SB.on (i:=9) rfl (sK 0 jC rfl rfl rfl rfl rfl (by (repeat' (first | exact trivial | refine⟨by rfl,?_⟩)))) (.inl dC) ?_;rintro _ _ _ ⟨rfl,rfl⟩;refine SX.nil kR ?_;exact za8 (b14,q8,d8) sB I I trivial
      ·refine SB.o (i:=8) I (aL zl7) dC (.inr iR) ?_;rintro _ _ _ ⟨b14,rfl,rfl,rfl⟩;refine zd4 6 kR ?_
       ·refine SB.o (i:=6) I (SO.appNewA (e:=encSide) sty39 I I hxs5 oM oM) dC (.inr iR) ?_;rintro v98 _ _ ⟨rfl,rfl⟩;refine SX.facts fun ⟨w0,hw0⟩=>?_;obtain ⟨q8,d8,rfl⟩:=ah (e:=encSide) (l:=X.sides) (i:=0) hw0 rfl;clear hw0 w0
        first | refine SX.to (fun w hw=>At.perm hw (zj7 (pt b14 _) _ _)) ?_ | skip
        refine SX.u (i:=7) I kR (za2 I (bB42 _ _ _ _ _ _)) dC ?_;refine zd4 9 kR ?_
        ·refine SB.on (i:=9) rfl (sK 0 jC rfl rfl rfl rfl rfl (by (repeat' (first | exact trivial | refine⟨by rfl,?_⟩)))) (.inl dC) ?_;rintro _ _ _ ⟨rfl,rfl⟩;refine SX.nil kR ?_;exact za8 (b14,q8,d8) sB I I trivial
     ·refine SB.o (i:=8) I (aL zl7) dC (.inr iR) ?_;rintro _ _ _ ⟨b14,rfl,rfl,rfl⟩;refine zd4 3 kR ?_
      ·refine SB.o (i:=3) I (bS sty39 I I I (ag trivial) dC) dC (.inr iR) ?_;rintro _ _ _ ⟨b95,rfl,rfl,rfl⟩;refine SX.drop (zi7 _ _) ?_;refine zd4 6 kR ?_
       ·refine SB.o (i:=6) I (SO.appNewA (e:=encSide) sty39 I I hxs5 oM oM) dC (.inr iR) ?_;rintro v98 _ _ ⟨rfl,rfl⟩;refine SX.facts fun ⟨w0,hw0⟩=>?_;obtain ⟨q8,d8,rfl⟩:=ah (e:=encSide) (l:=X.sides) (i:=0) hw0 rfl;clear hw0 w0
        first | refine SX.to (fun w hw=>At.perm hw (zj7 (pt b14 _) _ _)) ?_ | skip
        refine SX.u (i:=7) I kR (za2 I (bB42 _ _ _ _ _ _)) dC ?_;refine zd4 9 kR ?_
        ·refine SB.on (i:=9) rfl (sK 0 jC rfl rfl rfl rfl rfl (by (repeat' (first | exact trivial | refine⟨by rfl,?_⟩)))) (.inl dC) ?_;rintro _ _ _ ⟨rfl,rfl⟩;refine SX.nil kR ?_;exact za8 (b14,q8,d8) sB I I trivial
    rintro ⟨b14,q8,d8⟩ -;try dsimp only
    refine SC.cut (ι:=Int) (fun _=>[(2,pp b2 0),(4,pp b4 0),(14,pp b14 0)]) (fun _=>g5) (fun d=>pt b14 (.cells #[vi 1,vi n,vi d,vi 0,vi 0,.slice q8 X.sides.length d8,.slice none 0 0] 42 (0,0))::rowA encSide 75 (.slice q8 X.sides.length d8) X.sides::pt b12 (.cells #[vi yi,vi yd,.slice yp Y.sides.length yc] 56 (0,0))::pt b10 (.cells #[vi xi,vi xd,.slice xp X.sides.length xc] 56 (0,0))::pt b4 (.cells #[vi 0,vi 0,vi 0,vi 0,vi 0,.slice none 0 0,.slice none 0 0] 42 (0,0))::pt b3 (.cells #[.slice p l.length c] 29 (0,0))::pt b2 (.cells #[vi k0,vi ka,vi kb,vi kc] 44 (0,0))::s) (fun _=>True) ?_ ?_
    ·refine rZ (lU (fA td I zT3 I) (lK (qL (v:=vi kb) iT3 I (cO 6 I I)) (lU (zd6 I I dC) (yE I (tZ ?_)))));refine iP I (fun hz=>?_) (fun hz=>?_)
     ·refine rG (lU (fA kA rfl zT3 rfl) (lK (qL (v:=vi xd) iT3 rfl (cO 0 rfl rfl)) (lU (SU.addW rfl rfl) (lU (fA kA rfl zT3 rfl) (oZ (SO.store1 0 zT3 rfl rfl rfl rfl (bE rfl) (by rfl)) ?_)))));refine nL ?_;exact za8 (IntKind.i64.wrap (xd+1)) sB I I trivial
     ·refine kP ?_;exact za8 xd sB I I trivial
    rintro ed -;try dsimp only
    refine SC.cut (ι:=List ae) (fun _=>[(4,pp b4 0),(14,pp b14 0)]) (fun _=>g5) (fun S=>pt b14 (.cells #[vi 1,vi n,vi ed,vi 0,vi 0,.slice q8 X.sides.length d8,.slice none 0 0] 42 (0,0))::rowA encSide 75 (.slice q8 X.sides.length d8) S::pt b12 (.cells #[vi yi,vi yd,.slice yp Y.sides.length yc] 56 (0,0))::pt b10 (.cells #[vi xi,vi xd,.slice xp X.sides.length xc] 56 (0,0))::pt b4 (.cells #[vi 0,vi 0,vi 0,vi 0,vi 0,.slice none 0 0,.slice none 0 0] 42 (0,0))::pt b3 (.cells #[.slice p l.length c] 29 (0,0))::pt b2 (.cells #[vi k0,vi ka,vi kb,vi kc] 44 (0,0))::s) (fun S=>S.length=X.sides.length) ?_ ?_
    ·refine SC.cutB 117 (decide (kb.tmod 9=4)&&decide (0<X.sides.length)) ?_ ?_
     ·refine rG (lU (fA td I zT3 I) (lK (qL (v:=vi kb) iT3 I (cO 6 I I)) (lU (zd6 I I dC) (yE I (lM I ?_)))));refine sP ?_ ?_
      ·intro h112;refine lY I I I (fA kA I bJ I) (SL.gq (gT I I I dC) (qL (v:=.slice q8 X.sides.length d8) cI I (cO 0 I I)) dC (lY I I I (eN bh I) (lY I I I (SU.gtr I I) (yP I (nL ?_)))));exact za9 (by (simp_all[aN]; done)) mI
      ·intro h112;refine yA I (yA I (yA I (yA I (yF I (nL ?_)))));exact za9 (by (simp_all[aN]; done)) mI
     refine iQ I (fun hq=>?_) (fun hq=>?_)
     ·simp only[zi9,zj3] at hq;have hg0:X.sides[0]?=some (X.sides[0]'hq.2):=List.getElem?_eq_getElem hq.2;generalize X.sides[0]'hq.2=x0 at *;refine SC.facts fun ⟨w0,hw0⟩=>?_;obtain ⟨bu,cap,hbu⟩:=aW (e:=encSide) (l:=X.sides) (i:=1) hw0 rfl oM;obtain ⟨rfl,rfl⟩:q8=some ⟨bu,0,none⟩∧d8=cap:=by injection hbu with h1 _ h2; exact⟨h1,h2⟩
      clear hw0 w0 hbu;refine dW [10] [(0,2),(1,1),(2,2),(3,1),(4,2),(5,2),(6,1),(7,2),(8,2),(9,2),(10,0)] zd9 kR ?_;refine pU I (fA kA I bJ I) (pK I (qL (v:=.slice (some ⟨bu,0,none⟩) X.sides.length d8) cI I (cO 0 I I)) (pU I (fA kA I bJ I) (pK I (qL (v:=.slice (some ⟨bu,0,none⟩) X.sides.length d8) cI I (cO 0 I I)) (pU I (iA bh aH I I I oM sL) (pU I (fA dp I zT3 I) (pK I (aZ (e:=encSide) (a:=x0) (j:=0) (o:=1) (u:=vi x0.sign) iT3 I (zb6 1 I) hg0 I) (pU I (SU.neg I) (pU I (iA bh aH I I I oM sL) (pU I (fA dp I zT3 I) (SP.on I (SO.partA (e:=encSide) (a:=x0) (j:=0) (o:=1) 1 ⟨x0.cell,IntKind.i64.wrap (0 - x0.sign)⟩ zT3 I I I hg0 I I dC I) (.inl dC) ?_))))))))));rintro _ _ _ ⟨rfl,rfl⟩;refine pN ?_;exact za8 (X.sides.set 0 ⟨x0.cell,IntKind.i64.wrap (0 - x0.sign)⟩) sB I I (by simp)
     ·refine kP ?_;exact za8 X.sides sB I I I
    rintro S hS;try dsimp only at hS ⊢
    refine rZ (lK (qV 0 isAgg42 jC I I I) ?_);refine oZ (sK 4 jC rfl rfl rfl rfl rfl (by (repeat' (first | exact trivial | refine⟨by rfl,?_⟩)))) ?_;refine tZ (rE (bR (tR ?_)));rw[← hS];refine ST.perm (zj7 _ _ _) (fT fun g6 hle6 hs6=>?_);exact ST.retCD 3 s (.inl I) results13 I isAgg42 jC I I uR ⟨I,hle15.trans hle6,⟨1,n,ed,0,0,S,[]⟩,⟨_,_,I,hs6,zb9 _ _⟩,by dsimp only; omega,by simp,fun _=>I,fun h _ _ _=>⟨fun _=>hn64 h,fun h1=>absurd (show (1:Int)=3 from h1) dC⟩⟩
   ·exfalso;omega
set_option maxHeartbeats 1000000
theorem DK {D B A:List Cl}{e:Ed}(hD:Rt D)(hk:i5 D e=0)(hB:lk D e=B)(hc:aa B=A)(hA:Rt A):eo D e=(0,A):=by
 unfold eo;rw[hD.check,hD.canon,zf7 rfl,hk,hB];unfold cj;rw[hc,hA.check];rfl
theorem Dy {A:List Cl}(h:Rt A){c:Cl}(hc:c∈A):bo c=c:=by
 unfold bo;rw[(a6 (key:=ae.cell) ((h.form c hc).asc.imp fun h=>by omega) (aw.refl c.sides)).symm]
theorem BF {A:List Cl}(h:Rt A):A.map bo=A:=by
 rw[zc7 fun c hc=>Dy h hc];simp
def incS (S:List ae)(r:Int):Int:=(S.map fun y=>if y.cell=r then y.sign else 0).sum
def inc (A:List Cl)(id r:Int):Int:=incS ((ab A id).getD bi).sides r
def cf (ts:List Tm)(r:Int):Int:=(ts.map fun t=>if t.1=r then t.2 else 0).sum
def chL (D:List Cl)(ts:List Tm)(r:Int):Int:=(ts.map fun t=>t.2 * inc D t.1 r).sum
def chR (img:Int→List Tm)(S:List ae)(r:Int):Int:=(S.map fun y=>y.sign * cf (img y.cell) r).sum
def DL (A D:List Cl)(img:Int→List Tm):Prop:=∀ x∈A,∀ r,chL D (img x.id) r=chR img x.sides r
theorem Ej (e:Ed)(a:Int)(y:Cl):(fZ e a y).id=y.id:=by unfold fZ; split <;> rfl
theorem tW {A:List Cl}{e:Ed}(h:Rt A)(hc:m5 A e=0):∃ c,c∈A∧c.id=e.cell∧ab A e.cell=some c∧c.dim=1 ∧
  jX A e=[⟨e.new,0,[]⟩,⟨e.other,1,[⟨e.new,-1⟩,⟨(Eb c.sides true).cell,1⟩]⟩]++A.map (fZ e (Eb c.sides false).cell):=by
 unfold m5 at hc;cases hf:ab A e.cell with
 | none=>rw[hf] at hc; cases hc
 | some c =>
  rw[hf] at hc;dsimp only at hc;obtain ⟨hcA,hci⟩:=au hf;have hd:c.dim=1:=by
   by_cases hd:c.dim=1
   ·exact hd
   ·rw[zf7 hd] at hc; cases hc
  exact⟨c,hcA,hci,I,hd,by unfold jX; rw[h.findC,hf]; rfl⟩
theorem qm {A:List Cl}{ks:List Int}{c:Cl}:c∈n8 A ks↔c∈A∧c.id ∉ ks:=by
 unfold n8;rw[zh1];simp
theorem xE {A:List Cl}{e:Ed}(h:i5 A e=0):e.kind=1∨e.kind=2∨e.kind=3∨e.kind=4∨e.kind=5:=by
 unfold i5 at h;split at h
 ·omega
 split at h
 ·omega
 split at h
 ·omega
 split at h
 ·omega
 split at h
 ·omega
 cases h
def EG (D:List Cl)(d:Int)(ts:List Tm):Prop:=(ts.Pairwise fun a b=>a.1<b.1)∧(∀ t∈ts,t.2=1∨t.2 = -1)∧(∀ t∈ts,∃ c,ab D t.1=some c∧c.dim=d)∧ts.length≤64
structure E5 (l m:List Cl)(img:Int→List Tm):Prop where
 cl:(ar l).2=0
 cm:(ar m).2=0
 fit:∀ x∈aa l,EG (aa m) x.dim (img x.id)
 chain:DL (aa l) (aa m) img
section
variable {l m:List Cl}{img:Int→List Tm}(h:E5 l m img)
include h
end
theorem Cm (acc:List Cl)(c:Cl):∃ d∈ff acc c,d.id=c.id:=by
 unfold ff;split
 ·rename_i h;obtain ⟨x,hx,he⟩:=zj5.1 h;exact⟨x,hx,by simpa using he⟩
 ·exact⟨c,by simp,I⟩
theorem AM {acc:List Cl}{x:Cl}(h:x∈acc)(c:Cl):x∈ff acc c:=by
 unfold ff;split
 ·exact h
 ·simp[h]
theorem pg:∀ (l:List Cl) {acc:List Cl} {x:Cl},x∈acc→x∈l.foldl ff acc
 | [],_,_,h=>h
 | c::l,_,_,h=>pg l (AM h c)
theorem sa:∀ (l acc:List Cl) {x:Cl},x∈l→∃ d∈l.foldl ff acc,d.id=x.id
 | c::l,acc,x,h=>by
  rcases ze7.1 h with rfl | h
  ·obtain ⟨d,h1,h2⟩:=Cm acc x;exact⟨d,pg l h1,h2⟩
  ·exact sa l _ h
theorem Bh {l:List Cl}{c:Cl}(h:c∈l):∃ d∈ai l,d.id=c.id:=by
 have h1:bo c∈aa l:=by
  unfold aa;exact ze8.2 ⟨c,(dS (key:=Cl.id) l).mem_iff.2 h,I⟩
 have h2:=sa _ [] h1;exact h2
def fx (Ls:List (List Cl)):List Int:=(ai Ls.flatten).map Cl.id
theorem ky (Ls:List (List Cl)):(fx Ls).Pairwise (· < ·):=by
 have h1:=fF Ls.flatten;have h2:=jr Ls.flatten;exact (h1.and h2).imp fun h=>by have:=h.1; have:=h.2; omega
theorem qB {Ls:List (List Cl)}{id:Int}:id∈fx Ls↔∃ A∈Ls,∃ c∈A,c.id=id:=by
 unfold fx;constructor
 ·intro h;obtain ⟨c,hc,rfl⟩:=ze8.1 h;obtain ⟨d,hd,he⟩:=C0 hc;obtain ⟨A,hA,hdA⟩:=List.mem_flatten.1 hd;exact⟨A,hA,d,hdA,he⟩
 ·rintro ⟨A,hA,c,hc,rfl⟩;obtain ⟨d,hd,he⟩:=Bh (List.mem_flatten.2 ⟨A,hA,hc⟩);exact ze8.2 ⟨d,hd,he⟩
def dz (A B:List Cl)(id:Int):Bool:=decide (ab A id=ab B id)
def pickT (B L R:List Cl)(id:Int):Option (Option Cl) :=
 if dz L R id||dz R B id then some (ab L id) else if dz L B id then some (ab R id) else none
def eS (B L R:List Cl):List Int:=(fx [B,L,R]).filter fun id=>(pickT B L R id).isNone
def fM (B L R:List Cl):List Cl:=(fx [B,L,R]).filterMap fun id=>(pickT B L R id).join
def iD (S:List Cl)(x:Cl):Bool:=x.sides.any fun s=>match ab S s.cell with
 | none=>true
 | some y=>decide (y.dim≠x.dim - 1)
def iY (S:List Cl)(x:Cl):Bool:=decide (x.dim>1)&&decide (aX S x≠0)
def bC (w:Cl→Bool)(S:List Cl):List Int:=(S.filter w).map Cl.id
def eF (B L R:List Cl):List Cl×List Int :=
 if eS B L R≠[] then ([],eS B L R)
 else if bC (iD (fM B L R)) (fM B L R)≠[] then ([],bC (iD (fM B L R)) (fM B L R))
 else if bC (iY (fM B L R)) (fM B L R)≠[] then ([],bC (iY (fM B L R)) (fM B L R))
 else if 4000<(fM B L R).length then ([],bC (fun x=>(ab B x.id).isNone) (fM B L R))
 else (fM B L R,[])
theorem jH {A:List Cl}{k:Int}:ab A k=none↔∀ c∈A,c.id≠k:=by
 unfold ab;rw[List.find?_eq_none];simp
theorem oC {A:List Cl}(h:Rt A):∀ {I0:List Int},I0.Pairwise (· < ·)→(∀ c∈A,c.id∈I0)→I0.filterMap (ab A)=A:=fun {I0} hI hA=>by
 have h1:(I0.filterMap (ab A)).Pairwise fun a b=>a.id<b.id:=by
  rw[List.pairwise_filterMap];exact hI.imp fun {a b} hab c hc d hd=>by
   rw[(au hc).2,(au hd).2];exact hab
 have hnd:∀ {l:List Cl},(l.Pairwise fun a b=>a.id<b.id)→l.Nodup:=fun h=>h.imp fun hab e=>by rw[e] at hab; omega
 have hp:(I0.filterMap (ab A)).Perm A:=(List.perm_ext_iff_of_nodup (hnd h1) (hnd h.asc)).2 fun c=>by
  rw[List.mem_filterMap];constructor
  ·rintro ⟨id,_,hc⟩;exact (au hc).1
  ·exact fun hc=>⟨c.id,hA c hc,h.find hc⟩
 exact hp.eq_of_pairwise (fun a b _ _ h1 h2=>by omega) h1 h.asc
theorem Bt {A:List Cl}(h:Rt A):bC (iD A) A=[]:=by
 unfold bC;rw[List.filter_eq_nil_iff.2,List.map_nil];intro x hx hl;obtain ⟨s,hs,hb⟩:=zj5.1 hl;obtain ⟨d,h1,h2⟩:=(h.form x hx).found s hs;rw[h1] at hb;simp[h2] at hb
theorem Dm {A:List Cl}(h:Rt A):bC (iY A) A=[]:=by
 unfold bC;rw[List.filter_eq_nil_iff.2,List.map_nil];intro x hx hl;unfold iY at hl;rw[zi9,zj3,zj3] at hl;exact hl.2 (h.around x hx hl.1)
theorem zC {B L R A:List Cl}(hA:Rt A)(h:∀ id,pickT B L R id=some (ab A id))(hs:∀ c∈A,c.id∈fx [B,L,R]):eF B L R=(A,[]):=by
 have h1:eS B L R=[]:=by
  unfold eS;rw[List.filter_eq_nil_iff];intro id _;rw[h id];simp
 have h2:fM B L R=A:=by
  unfold fM;have:(fun id=>(pickT B L R id).join)=ab A:=funext fun id=>by rw[h id]; rfl
  rw[this];exact oC hA (ky _) hs
 unfold eF;rw[h1,h2,Bt hA,Dm hA,zf6 (by simp),zf6 (by simp),zf6 (by simp),zf6 (by have:=hA.few; omega)]
theorem Bk {B L R:List Cl}{x:Cl}(h:x∈fM B L R):(ab L x.id=some x∧(dz L R x.id||dz R B x.id)=true)∨(ab R x.id=some x∧dz L B x.id=true):=by
 unfold fM at h;obtain ⟨id,_,hj⟩:=List.mem_filterMap.1 h;unfold pickT at hj;split at hj
 ·rename_i h1;have hj:ab L id=some x:=hj;have he:=(au hj).2;rw[← he] at hj h1;exact .inl ⟨hj,h1⟩
 ·split at hj
  ·rename_i h1;have hj:ab R id=some x:=hj;have he:=(au hj).2;rw[← he] at hj h1;exact .inr ⟨hj,h1⟩
  ·cases hj
theorem vv (B L R:List Cl):(fM B L R).Pairwise fun a b=>a.id<b.id:=by
 unfold fM;rw[List.pairwise_filterMap];refine (ky [B,L,R]).imp fun {a b} hab c hc d hd=>?_;have key:∀ {id:Int} {y:Cl},y∈(pickT B L R id).join→y.id=id:=fun {id y} hy=>by
  have hy:(pickT B L R id).join=some y:=hy;unfold pickT at hy;split at hy
  ·exact (au (show ab L id=some y from hy)).2
  ·split at hy
   ·exact (au (show ab R id=some y from hy)).2
   ·cases hy
 rw[key hc,key hd];exact hab
theorem pm {A B:List Cl}{id:Int}{d:Cl}(h:ab A id=some d):ab (A++B) id=some d:=by
 unfold ab at h ⊢;rw[List.find?_append,h];rfl
theorem uX {A B:List Cl}{c:Cl}(hf:∀ x∈c.sides,∃ d,ab A x.cell=some d):aX (A++B) c=aX A c:=by
 rw[fz,fz];have:jz (A++B) c=jz A c:=by
  unfold jz;refine zc7 fun x hx=>?_;obtain ⟨d,hd⟩:=hf x hx;unfold aq;rw[pm hd,hd]
 rw[this]
theorem Fm.left {A B:List Cl}{c:Cl}(h:Fm A c):Fm (A++B) c:=⟨h.dim,h.cnt,fun x hx=>by
 obtain ⟨d,hd,h2⟩:=h.found x hx;exact⟨d,pm hd,h2⟩,h.asc,h.sg,h.one⟩
theorem Rt.more {A B:List Cl}(h:Rt A)(hl:(A++B).length≤4000)(ha:(A++B).Pairwise fun a b=>a.id<b.id)(hp:∀ n∈B,0<n.id)(hf:∀ n∈B,Fm (A++B) n)(hr:∀ n∈B,n.dim>1→aX (A++B) n=0):Rt (A++B):=by
 refine⟨hl,ha,fun x hx=>?_,fun x hx=>?_,fun x hx hd=>?_⟩
 ·rcases ze9.1 hx with hx | hx
  ·exact h.pos x hx
  ·exact hp x hx
 ·rcases ze9.1 hx with hx | hx
  ·exact (h.form x hx).left
  ·exact hf x hx
 ·rcases ze9.1 hx with hx | hx
  ·rw[uX fun y hy=>by obtain ⟨d,hd,_⟩:=(h.form x hx).found y hy; exact⟨d,hd⟩];exact h.around x hx hd
  ·exact hr x hx hd
theorem xG {A B:List Cl}(h:Rt A)(hs:(A++B).Pairwise fun a b=>a.id<b.id):aa (A++B)=A++B.map bo:=by
 unfold aa;rw[(a6 (key:=Cl.id) (hs.imp fun h=>by omega) (aw.refl (A++B))).symm,zg2,BF h]
section
variable {z0 z1:ae}(hz:(z0.sign=1∧z1.sign = -1)∨(z0.sign = -1∧z1.sign=1))
include hz
end
section
variable {A:List Cl}(h:Rt A){e:Ed}
include h
end
theorem Du {B L R:List Cl}{id:Int}{y:Cl}(h:(pickT B L R id).join=some y):y.id=id:=by
 unfold pickT at h;split at h
 ·exact (au (show ab L id=some y from h)).2
 ·split at h
  ·exact (au (show ab R id=some y from h)).2
  ·cases h
theorem mo {B L R:List Cl}{x:Cl}(h:x∈fM B L R):x∈L∨x∈R:=by
 rcases Bk h with ⟨h,_⟩ | ⟨h,_⟩
 ·exact .inl (au h).1
 ·exact .inr (au h).1
theorem C9 (B L R:List Cl):(fM B L R).length≤B.length+(L.length+R.length):=by
 have h1:(fM B L R).length≤(fx [B,L,R]).length:=List.length_filterMap_le ..;have h2:=ii [B,L,R].flatten;unfold fx at h1;rw[ze3] at h1;have h3:[B,L,R].flatten.length=B.length+(L.length+R.length):=by simp
 omega
theorem sd {w:Cl→Bool}{S:List Cl}(h:bC w S=[]){x:Cl}(hx:x∈S):w x=false:=by
 unfold bC at h;rw[List.map_eq_nil_iff,List.filter_eq_nil_iff] at h;simpa using h x hx
theorem Ei {B L R:List Cl}(hL:Rt L)(hR:Rt R)(hl:bC (iD (fM B L R)) (fM B L R)=[])(ho:bC (iY (fM B L R)) (fM B L R)=[])(hn:(fM B L R).length≤4000):Rt (fM B L R):=by
 refine⟨hn,vv B L R,fun x hx=>?_,fun x hx=>?_,fun x hx hd=>?_⟩
 ·rcases mo hx with h | h
  ·exact hL.pos x h
  ·exact hR.pos x h
 ·have hf:∃ A,Fm A x:=by
   rcases mo hx with h | h
   ·exact⟨L,hL.form x h⟩
   ·exact⟨R,hR.form x h⟩
  obtain ⟨A,hf⟩:=hf;refine⟨hf.dim,hf.cnt,fun s hs=>?_,hf.asc,hf.sg,hf.one⟩;have h1:=sd hl hx;unfold iD at h1;rw[zk2] at h1;have h2:=h1 s hs;cases hd:ab (fM B L R) s.cell with
  | none=>rw[hd] at h2; simp at h2
  | some d=>rw[hd] at h2; simp at h2; exact⟨d,I,h2⟩
 ·have h1:=sd ho hx;unfold iY at h1;rw[zf5 hd,Bool.true_and] at h1;simpa using h1
def em (A B:List Cl)(id:Int):Bool:=(ab (gn A B) id).isSome
theorem BJ (A B:List Cl):(gn A B).Sublist A:=List.filter_sublist
theorem vQ {A B:List Cl}{id:Int}:em A B id=true↔∃ c∈A,c.id=id∧oa A B c=true:=by
 unfold em;constructor
 ·intro h;obtain ⟨c,hc⟩:=zh5.1 h;obtain ⟨h1,h2⟩:=au hc;obtain ⟨h3,h4⟩:=zh1.1 h1;exact⟨c,h3,h2,h4⟩
 ·rintro ⟨c,h1,h2,h3⟩;cases hf:ab (gn A B) id with
  | some _=>rfl
  | none=>exact absurd h2 (jH.1 hf c (zh1.2 ⟨h1,h3⟩))
section
variable {A B:List Cl}(hA:Rt A)(hB:Rt B)
include hA
theorem vP {c:Cl}(hc:c∈A):em A B c.id=oa A B c:=by
 rw[Bool.eq_iff_iff,vQ];exact⟨fun ⟨d,h1,h2,h3⟩=>by rw[← hA.same h1 hc h2]; exact h3,fun h=>⟨c,hc,I,h⟩⟩
theorem nb {id:Int}(h:em A B id=true):∃ c,ab A id=some c∧ab B id=some c:=by
 obtain ⟨c,h1,rfl,h3⟩:=vQ.1 h;have hf:=hA.find h1;have hm:c.id∈mY A [c.id]:=(rN _ _ _).2 ⟨c.id,by simp,.refl _ (by unfold kC; rw[hf]; simp)⟩;have h4:=zj6.1 h3 _ hm;unfold qH at h4;rw[hf] at h4;cases hb:ab B c.id with
 | none=>rw[hb] at h4; cases h4
 | some y =>
  rw[hb] at h4;have h5:c=y:=zf9 h4;exact⟨c,hf,by rw[h5]⟩
theorem rO:gn A B=part A (em A B):=by
 unfold gn part;exact List.filter_congr fun c hc=>(vP hA hc).symm
include hB
theorem zY:part A (em A B)=part B (em A B):=by
 have key:∀ {A B:List Cl},Rt A→Rt B→∀ p:Int→Bool,(∀ c∈A,p c.id=true→c∈B)→(∀ c∈B,p c.id=true→c∈A)→part A p=part B p:=fun {A B} hA hB p h1 h2=>by
  have hpm:(part A p).Perm (part B p):=(List.perm_ext_iff_of_nodup (hA.nodup.sublist List.filter_sublist) (hB.nodup.sublist List.filter_sublist)).2 fun c=>by
   rw[zh1,zh1];exact⟨fun h=>⟨h1 c h.1 h.2,h.2⟩,fun h=>⟨h2 c h.1 h.2,h.2⟩⟩
  exact hpm.eq_of_pairwise (fun a b _ _ h1 h2=>by omega) (hA.asc.sublist List.filter_sublist) (hB.asc.sublist List.filter_sublist)
 refine key hA hB _ (fun c hc hk=>?_) fun c hc hk=>?_
 ·obtain ⟨d,h1,h2⟩:=nb hA hk;rw[hA.find hc] at h1;cases h1;exact (au h2).1
 ·obtain ⟨d,h1,h2⟩:=nb hA hk;rw[hB.find hc] at h2;cases h2;exact (au h1).1
end
def AR (A B:List Cl):List Cl:=sortBy (fun c:Cl=>-c.dim) (A.filter fun c=>!em A B c.id)
def DN (A B:List Cl):List Cl:=sortBy Cl.dim (B.filter fun c=>!em A B c.id)
def DM (x:Cl):Ed:=⟨2,x.id,0,0,0,[],[]⟩
def yf (x:Cl):Ed:=⟨1,x.id,x.dim,0,0,x.sides,[]⟩
def cQ (A B:List Cl):List Ed:=(AR A B).map DM++(DN A B).map yf
theorem vI {W:List Cl}{q:Int→Bool}(h:∀ c∈W,q c.id=true):part W q=W:=List.filter_eq_self.2 h
theorem uU {W:List Cl}(hW:Rt W){q:Int→Bool}(hq:d4 W q){x:Cl}(hx:x∈W)(hn:q x.id=false)(hs:∀ s∈x.sides,q s.cell=true) :
  d4 W (fun k=>q k||decide (k=x.id))∧eo (part W q) (yf x)=(0,part W fun k=>q k||decide (k=x.id)):=by
 have hcl:d4 W (fun k=>q k||decide (k=x.id)):=fun c hc hk s hs'=>by
  try dsimp only at hk ⊢
  rcases zj1 _ _ ▸ hk with h | h
  ·rw[hq c hc h s hs']; rfl
  ·have:c=x:=hW.same hc hx (zf9 h);subst this;rw[hs s hs']; rfl
 refine⟨hcl,DK (B:=part W q++[x]) (eJ hW hq) ?_ I ?_ (eJ hW hcl)⟩
 ·show i5 (part W q) (yf x)=0;unfold i5 yf;rw[zf7 rfl];unfold fu;try dsimp only
  rw[er hn];rfl
 ·refine oX (eJ hW hcl) ((List.perm_ext_iff_of_nodup ?_ (hW.nodup.sublist List.filter_sublist)).2 fun c=>?_)
  ·refine List.nodup_append.2 ⟨hW.nodup.sublist List.filter_sublist,by simp,fun a ha b hb=>?_⟩;simp at hb;subst hb;intro e;subst e;have:=(zh1.1 ha).2;rw[hn] at this;cases this
  ·unfold part;rw[ze9,zh1,zh1,zh4];constructor
   ·rintro (⟨h1,h2⟩ | rfl)
    ·exact⟨h1,by (try dsimp only); rw[h2]; rfl⟩
    ·exact⟨hx,by simp⟩
   ·rintro ⟨h1,h2⟩
    rcases zj1 _ _ ▸ h2 with h | h
    ·exact .inl ⟨h1,h⟩
    ·exact .inr (hW.same h1 hx (zf9 h))
theorem pH {W:List Cl}(hW:Rt W):∀ (N:List Cl) {q:Int→Bool} {ss:List Stp} {i:Nat},d4 W q→(N.Pairwise fun a b=>a.dim≤b.dim)→N.Nodup→(∀ x∈N,x∈W∧q x.id=false)→(∀ c∈W,q c.id=false→c∈N) →
  ∃ ss',tf (part W q) ss i (N.map yf)=((0,0),W,ss')
 | [],q,ss,i,_,_,_,_,h=>by
  refine⟨ss,?_⟩;show ((0,0),part W q,ss)=_;rw[vI fun c hc=>?_];cases hp:q c.id with
  | true=>rfl
  | false=>have:=h c hc hp; cases this
 | x::N,q,ss,i,hq,hs,hn,h1,h2=>by
  rw[zj9] at hs;rw[zj8] at hn;obtain ⟨hx,hxq⟩:=h1 x (by simp);have hsd:∀ s∈x.sides,q s.cell=true:=fun s hs'=>by
   obtain ⟨d,hd,hdd⟩:=(hW.form x hx).found s hs';obtain ⟨h3,h4⟩:=au hd;cases hp:q s.cell with
   | true=>rfl
   | false =>
    rw[← h4] at hp
    rcases ze7.1 (h2 d h3 hp) with e | e
    ·subst e; omega
    ·have:=hs.1 d e; omega
  obtain ⟨hcl,ha⟩:=uU hW hq hx hxq hsd;obtain ⟨ss',h5⟩:=pH hW N (q:=fun k=>q k||decide (k=x.id)) (ss:=ss++[imO (part W q) (yf x)]) (i:=i+1) hcl hs.2 hn.2 (fun y hy=>⟨(h1 y (by simp[hy])).1,by
   try dsimp only
   rw[(h1 y (by simp[hy])).2,zf4 fun e=>hn.1 (by rw[← hW.same (h1 y (by simp[hy])).1 hx e]; exact hy)];rfl⟩) fun c hc hp=>by
    try dsimp only at hp
    rw[Bool.or_eq_false_iff,decide_eq_false_iff_not] at hp
    rcases ze7.1 (h2 c hc hp.1) with e | e
    ·exact absurd (by rw[e]) hp.2
    ·exact e
  refine⟨ss',?_⟩;rw[zg1];unfold tf;rw[ha,zf7 rfl];exact h5
theorem Bl {α:Type}{key:α→Int}(l:List α):(sortBy key l).Pairwise fun a b=>key a≤key b:=bQ l
theorem vK {A B:List Cl}{x:Cl}:x∈DN A B↔x∈B∧em A B x.id=false:=by
 unfold DN;rw[dD,zh1];simp
theorem lF {α:Type}(p:α→Bool):∀ l:List α,(l.filter fun x=>!p x).length+(l.filter p).length=l.length
 | []=>rfl
 | x::l=>by
  have:=lF p l;simp only[zi4,ze5];cases p x <;> simp <;> omega
theorem Ay {A B:List Cl}(hA:Rt A)(hB:Rt B):(cQ A B).length+2 * (gn A B).length=A.length+B.length:=by
 have h1:=lF (fun c:Cl=>em A B c.id) A;have h2:=lF (fun c:Cl=>em A B c.id) B;have h3:(gn A B).length=(A.filter fun c=>em A B c.id).length:=by rw[rO hA]; rfl
 have h4:(gn A B).length=(B.filter fun c=>em A B c.id).length:=by rw[rO hA,zY hA hB]; rfl
 unfold cQ AR DN;rw[ze2,ze3,ze3,cq,cq];omega
theorem rS {A B:List Cl}(hA:Rt A)(hs:∀ c∈A,ab B c.id=some c){c:Cl}(hc:c∈A):em A B c.id=true:=by
 rw[vP hA hc];refine zj6.2 fun id hid=>?_;obtain ⟨d,hd⟩:=wg hid;obtain ⟨h1,rfl⟩:=au hd;unfold qH;rw[hd,hs d h1];simp
theorem tQ {A L R W:List Cl}(hA:Rt A)(hL:Rt L)(hR:Rt R)(hW:Rt W)(hAR:∀ c∈A,ab R c.id=some c)(hLW:∀ c∈L,ab W c.id=some c)(hAL:∀ c∈A,c∈L)(hRW:∀ c∈R,c∈W)(hor:∀ c∈W,c∈L∨c∈R)(hno:∀ c∈R,c ∉ A→ab L c.id=none)(hn:(cQ A R).length≤1000):∃ ss,mJ L (cQ A R)=((0,0),W,ss):=by
 have hg:AR A R=[]:=by
  have:A.filter (fun c=>!em A R c.id)=[]:=List.filter_eq_nil_iff.2 fun c hc=>by simp[rS hA hAR hc]
  unfold AR;rw[this];rfl
 have hLp:part W (fun k=>(ab L k).isSome)=L:=by
  have hpm:(part W fun k=>(ab L k).isSome).Perm L:=(List.perm_ext_iff_of_nodup (hW.nodup.sublist List.filter_sublist) hL.nodup).2 fun c=>by
   try unfold part
   rw[zh1];constructor
   ·rintro ⟨h1,h2⟩;obtain ⟨d,hd⟩:=zh5.1 h2;obtain ⟨h3,h4⟩:=au hd;have h5:=(au (hLW d h3)).1;rw[hW.same h1 h5 h4.symm];exact h3
   ·exact fun h=>⟨(au (hLW c h)).1,by (try dsimp only); rw[hL.find h]; rfl⟩
  exact hpm.eq_of_pairwise (fun a b _ _ h1 h2=>by omega) (hW.asc.sublist List.filter_sublist) hL.asc
 have hcl:d4 W fun k=>(ab L k).isSome:=fun c hc hk x hx=>by
  try dsimp only at hk ⊢
  obtain ⟨d,hd⟩:=zh5.1 hk;obtain ⟨h3,h4⟩:=au hd;have h5:=(au (hLW d h3)).1;have h6:=hW.same hc h5 h4.symm;subst h6;obtain ⟨e,he,_⟩:=(hL.form c h3).found x hx;rw[he];rfl
 have hkeep:∀ c∈R,em A R c.id=true→c∈A:=fun c hc hk=>by
  obtain ⟨d,h1,h2⟩:=nb hA hk;rw[hR.find hc] at h2;cases h2;exact (au h1).1
 unfold mJ;rw[zf6 oM,hL.check,zf6 (by simp),hL.canon];unfold cQ;rw[hg,List.map_nil,List.nil_append];have h1:=fun ss i=>pH hW (DN A R) (ss:=ss) (i:=i) hcl (Bl _) ((dS (key:=Cl.dim) _).symm.nodup (hR.nodup.sublist List.filter_sublist)) (fun x hx=>by
  obtain ⟨a,b⟩:=vK.1 hx;refine⟨hRW x a,?_⟩;try dsimp only
  rw[hno x a fun hxA=>by rw[rS hA hAR hxA] at b; cases b];rfl) fun c hc hk=>by
   try dsimp only at hk
   rcases hor c hc with h | h
   ·rw[hL.find h] at hk; cases hk
   ·refine vK.2 ⟨h,?_⟩;cases hkk:em A R c.id with
    | false=>rfl
    | true=>rw[hL.find (hAL c (hkeep c h hkk))] at hk; cases hk
 rw[hLp] at h1;exact h1 [] 0
def mT (ml:List (Int×Int))(q:ae):List (Int×Int):=eH ml q.cell 1
def iZ (tl:List Cl)(l:List ae):List (Int×Int):=l.foldl (fun ml x=>(aq tl x).foldl mT ml) []
theorem o8 (r:Int):∀ (l:List ae) (zl:List (Int×Int)),dM (l.foldl mT zl) r=dM zl r+((l.filter fun q=>decide (q.cell=r)).length:Int)
 | [],zl=>by simp
 | q::l,zl=>by
  rw[zi5,o8 r l,mT,rW];by_cases h:r=q.cell
  ·rw[zf7 h,List.filter_cons_of_pos (by simpa using h.symm),ze5]; omega
  ·rw[zf6 h,List.filter_cons_of_neg (by simpa using fun e:q.cell=r=>h e.symm)]; omega
theorem Ao (tl:List Cl)(l:List ae)(r:Int):dM (iZ tl l) r=(cntR tl l r:Int):=by
 have:∀ (l:List ae) (zl:List (Int×Int)),dM (l.foldl (fun ml x=>(aq tl x).foldl mT ml) zl) r=dM zl r+(cntR tl l r:Int):=by
  intro l;induction l with
  | nil=>intro zl; simp[cntR]
  | cons x q ih =>
   intro zl;rw[zi5,ih,o8];unfold cntR jD;rw[zg1,List.sum_cons];omega
 have h:=this l [];unfold iZ;rw[h];show 0+_=_;omega
theorem xR {zl ml:List (Int×Int)}(h:ml.map Prod.fst=zl.map Prod.fst)(k x y:Int):(eH ml k y).map Prod.fst=(eH zl k x).map Prod.fst:=by
 have he:∀ zl:List (Int×Int),zl.any (fun p=>decide (p.1=k))=(zl.map Prod.fst).any (fun a=>decide (a=k)):=fun zl=>by rw[List.any_map]; rfl
 rw[nr,nr,he,he,h]
theorem rQ (tl:List Cl)(l:List ae):(iZ tl l).map Prod.fst=(eI tl l).map Prod.fst:=by
 have inner:∀ (x:ae) (l:List ae) (zl ml:List (Int×Int)),ml.map Prod.fst=zl.map Prod.fst→(l.foldl mT ml).map Prod.fst=(l.foldl (iX x) zl).map Prod.fst:=by
  intro x l;induction l with
  | nil=>intro _ _ h; exact h
  | cons q l ih=>intro zl ml h; exact ih _ _ (xR h _ _ _)
 have outer:∀ (l:List ae) (zl ml:List (Int×Int)),ml.map Prod.fst=zl.map Prod.fst→(l.foldl (fun ml x=>(aq tl x).foldl mT ml) ml).map Prod.fst=(l.foldl (fun zl x=>(aq tl x).foldl (iX x) zl) zl).map Prod.fst:=by
  intro l;induction l with
  | nil=>intro _ _ h; exact h
  | cons x l ih=>intro zl ml h; exact ih _ _ (inner x _ _ _ h)
 exact outer l [] [] I
theorem wv:∀ {ml:List (Int×Int)} {k:Int},(∀ p∈ml,1≤p.2)→∀ p∈eH ml k 1,1≤p.2
 | [],k,_=>fun p hp=>by simp[eH] at hp; subst hp; exact Int.le_refl _
 | (a,z)::r,k,h=>by
  have h1:=h (a,z) (by simp);have h2:∀ p∈r,1≤p.2:=fun p hp=>h p (List.mem_cons_of_mem _ hp);simp only[eH];split
  ·intro p hp
   rcases ze7.1 hp with rfl | hp
   ·dsimp only at h1 ⊢; omega
   ·exact h2 p hp
  ·intro p hp
   rcases ze7.1 hp with rfl | hp
   ·exact h1
   ·exact wv h2 p hp
theorem BM (tl:List Cl)(l:List ae):∀ p∈iZ tl l,1≤p.2:=by
 have inner:∀ (l:List ae) (ml:List (Int×Int)),(∀ p∈ml,1≤p.2)→∀ p∈l.foldl mT ml,1≤p.2:=by
  intro l;induction l with
  | nil=>intro _ h; exact h
  | cons q l ih=>intro ml h; exact ih _ (wv h)
 have outer:∀ (l:List ae) (ml:List (Int×Int)),(∀ p∈ml,1≤p.2)→∀ p∈l.foldl (fun ml x=>(aq tl x).foldl mT ml) ml,1≤p.2:=by
  intro l;induction l with
  | nil=>intro _ h; exact h
  | cons x l ih=>intro ml h; exact ih _ (inner _ _ h)
 exact outer l [] (by simp)
theorem xg (tl:List Cl)(l:List ae):((iZ tl l).map Prod.fst).Nodup:=by rw[rQ]; exact jP tl l
def ll (tl:List Cl)(l:List ae):Bool:=(eI tl l).any fun p=>decide (p.2≠0)||decide (dM (iZ tl l) p.1≠2)
theorem sw (tl:List Cl)(l:List ae):ll tl l=false↔(∀ r,vk tl l r=0)∧∀ r,cntR tl l r=0∨cntR tl l r=2:=by
 have hz:=m0 tl l;have hm:=Ao tl l;have hk:=rQ tl l;unfold ll;constructor
 ·intro h;rw[zk2] at h;refine⟨hz.1 (zk2.2 fun p hp=>?_),fun r=>?_⟩
  ·have:=h p hp;simp at this ⊢;exact this.1
  ·by_cases h0:cntR tl l r=0
   ·exact .inl h0
   ·have h1:dM (iZ tl l) r≠0:=by rw[hm]; omega
    obtain ⟨q,hq,hq1,_⟩:=nf h1;have h2:r∈(eI tl l).map Prod.fst:=by rw[← hk]; exact ze8.2 ⟨q,hq,hq1⟩
    obtain ⟨p,hp,rfl⟩:=ze8.1 h2;have h3:=h p hp;simp at h3;have h4:=h3.2;rw[hm] at h4;right;omega
 ·rintro ⟨h1,h2⟩;rw[zk2];intro p hp;have h3:=zk2.1 (hz.2 h1) p hp;have h4:p.1∈(iZ tl l).map Prod.fst:=by rw[hk]; exact ze8.2 ⟨p,hp,I⟩
  obtain ⟨q,hq,hqe⟩:=ze8.1 h4;have h5:=BM tl l q hq;have h6:=mB (xg tl l) q hq;rw[hqe,hm] at h6;have h7:=h2 p.1;have h8:dM (iZ tl l) p.1=2:=by rw[hm]; omega
  simp at h3 ⊢;exact⟨h3,h8⟩
def ol:List (Int×Int)→Int→Option Int
 | [],_=>none
 | (a,z)::r,k=>if k=a then some z else ol r k
theorem vS {k i:Int}(r:Int):∀ {F:List (Int×Int)},ol F k=none→ol (F++[(k,i)]) r=if r=k then some i else ol F r
 | [],_=>rfl
 | (a,z)::F,h=>by
  simp only[ol] at h;split at h
  ·cases h
  ·rename_i hk;rw[List.cons_append];simp only[ol];by_cases hr:r=a
   ·rw[zf7 hr,zf6 oM];rw[zf7 hr]
   ·rw[zf6 hr,zf6 hr,vS r h]
structure wA (tl:List Cl)(l:List ae)(J:List Int):Prop where
 len:J.length=l.length
 low:∀ (i:Nat) (v:Int),J[i]?=some v→0≤v∧v≤i
 link:∀ (i:Nat) (v:Int) (x y:ae),J[i]?=some v→l[i]?=some x→l[v.toNat]?=some y→Cn (jS tl l) x.cell y.cell
def EQ (tl:List Cl)(l:List ae)(F:List (Int×Int)):Prop:=∀ r k,ol F r=some k→∃ n:Nat,k=n∧∃ x,l[n]?=some x∧0<jD tl x r
def tK (tl:List Cl)(l:List ae)(F:List (Int×Int))(J:List Int)(m:Nat):Prop:=∀ (i:Nat) (x:ae),i<m→l[i]?=some x→∀ q∈aq tl x,∃ n:Nat,ol F q.cell=some (n:Int)∧J[i]?=J[n]?
theorem qw {tl:List Cl}{x:ae}{r:Int}:0<jD tl x r↔∃ q∈aq tl x,q.cell=r:=by
 unfold jD;rw[List.length_pos_iff_exists_mem];constructor
 ·rintro ⟨q,hq⟩;obtain ⟨h1,h2⟩:=zh1.1 hq;exact⟨q,h1,zf9 h2⟩
 ·rintro ⟨q,h1,h2⟩;exact⟨q,zh1.2 ⟨h1,zf5 h2⟩⟩
theorem wA.start (tl:List Cl)(l:List ae):wA tl l ((List.range l.length).map fun i:Nat=>(i:Int)):=by
 have hg:∀ (i:Nat) (v:Int),((List.range l.length).map fun i:Nat=>(i:Int))[i]?=some v→v=i:=fun i v h=>by
  rw[zh6] at h;by_cases hi:i<l.length
  ·rw[List.getElem?_range hi] at h;simp at h;exact h.symm
  ·rw[List.getElem?_eq_none (by simpa using hi)] at h;cases h
 refine⟨by simp,fun i v h=>by rw[hg i v h]; omega,fun i v x y h hx hy=>?_⟩;rw[hg i v h,Int.toNat_natCast,hx] at hy;cases hy;exact .refl _
theorem th {v a:Int}:∀ {J:List Int} {i:Nat},J[i]?=some a→(J.set i v).sum=J.sum+(v - a)
 | [],_,h=>by simp at h
 | b::J,0,h=>by
  simp at h;subst h;simp only[List.set_cons_zero,List.sum_cons];omega
 | b::J,i+1,h=>by
  have ih:=th (J:=J) (i:=i) (v:=v) (a:=a) (by simpa using h);simp only[List.set_cons_succ,List.sum_cons];omega
theorem yw {J:List Int}(h:∀ (i:Nat) (v:Int),J[i]?=some v→0≤v):0≤J.sum:=by
 induction J with
 | nil=>exact Int.le_refl _
 | cons a J ih =>
  have h1:=h 0 a rfl;have h2:=ih fun i v hv=>h (i+1) v (by simpa using hv);rw[List.sum_cons];omega
theorem wA.upd {tl:List Cl}{l:List ae}{J:List Int}(h:wA tl l J){i k:Nat}{x y:ae}{a b r:Int}(hx:l[i]?=some x)(hy:l[k]?=some y)(hr:0<jD tl x r)(hr2:0<jD tl y r)(ha:J[i]?=some a)(hb:J[k]?=some b)(hab:min a b<max a b) :
  wA tl l ((J.set i (min a b)).set k (min a b))∧((J.set i (min a b)).set k (min a b)).sum<J.sum:=by
 have hik:i≠k:=fun e=>by subst e; rw[ha] at hb; cases hb; omega
 have hil:i<J.length:=(zf2.1 ha).1;have hkl:k<J.length:=(zf2.1 hb).1;have hxy:Cn (jS tl l) x.cell y.cell:=.one ⟨x,zf8 hx,y,zf8 hy,rfl,rfl,r,hr,hr2⟩;have hla:=h.low i a ha;have hlb:=h.low k b hb;have hm:min a b=a∨min a b=b:=oM;have hget:∀ (j:Nat) (v:Int),((J.set i (min a b)).set k (min a b))[j]?=some v→((j=i∨j=k)∧v=min a b)∨(j≠i∧j≠k∧J[j]?=some v):=fun j v hj=>by
  by_cases h1:j=k
  ·subst h1;rw[List.getElem?_set_self (by rw[zh9]; exact hkl)] at hj;exact .inl ⟨.inr I,by injection hj with hj; exact hj.symm⟩
  ·rw[List.getElem?_set_ne (fun e=>h1 e.symm)] at hj;by_cases h2:j=i
   ·subst h2;rw[List.getElem?_set_self hil] at hj;exact .inl ⟨.inl I,by injection hj with hj; exact hj.symm⟩
   ·rw[List.getElem?_set_ne (fun e=>h2 e.symm)] at hj;exact .inr ⟨h2,h1,hj⟩
 refine⟨⟨by rw[zh9,zh9]; exact h.len,fun j v hj=>?_,fun j v u w hj hu hw=>?_⟩,?_⟩
 ·rcases hget j v hj with ⟨h1 | h1,rfl⟩ | ⟨_,_,h3⟩
  ·omega
  ·omega
  ·exact h.low j v h3
 ·rcases hget j v hj with ⟨h1,rfl⟩ | ⟨_,_,h3⟩
  ·have hlow:Cn (jS tl l) x.cell w.cell∧Cn (jS tl l) y.cell w.cell:=by
    rcases hm with e | e
    ·rw[e] at hw;have h4:=h.link i a x w ha hx hw;exact⟨h4,hxy.symm.trans h4⟩
    ·rw[e] at hw;have h4:=h.link k b y w hb hy hw;exact⟨hxy.trans h4,h4⟩
   rcases h1 with rfl | rfl
   ·rw[hx] at hu; cases hu; exact hlow.1
   ·rw[hy] at hu; cases hu; exact hlow.2
  ·exact h.link j v u w h3 hu hw
 ·rw[th (a:=b) (by rw[List.getElem?_set_ne hik]; exact hb),th ha];omega
theorem Ak {tl:List Cl}{l:List ae}{F:List (Int×Int)}{J:List Int}(h:wA tl l J)(hF:tK tl l F J l.length)(hn:(l.map ae.cell).Nodup) :
  J.any (fun v=>decide (v>0))=false↔∀ x∈l,∀ y∈l,Cn (jS tl l) x.cell y.cell:=by
 have hinj:∀ {i j:Nat} {x y:ae},l[i]?=some x→l[j]?=some y→x.cell=y.cell→i=j:=fun {i j x y} hi hj e=>by
  have h1:(l.map ae.cell)[i]?=some x.cell:=by rw[zh6,hi]; rfl
  have h2:(l.map ae.cell)[j]?=some x.cell:=by rw[zh6,hj,e]; rfl
  obtain ⟨i1,e1⟩:=zf2.1 h1;obtain ⟨j1,e2⟩:=zf2.1 h2;have key:∀ {a b:Nat} (ha:a<(l.map ae.cell).length) (hb:b<(l.map ae.cell).length),a<b→(l.map ae.cell)[a]≠(l.map ae.cell)[b]:=fun {a b} ha hb hab=>zc8.1 hn a b ha hb hab
  rcases Nat.lt_trichotomy i j with h3 | h3 | h3
  ·exact absurd (e1.trans e2.symm) (key i1 j1 h3)
  ·exact h3
  ·exact absurd (e2.trans e1.symm) (key j1 i1 h3)
 constructor
 ·intro h0 x hx y hy;rw[zk2] at h0;obtain ⟨i,hi,rfl⟩:=zc6 hx;obtain ⟨j,hj,rfl⟩:=zc6 hy;have key:∀ (i:Nat) (hi:i<l.length),J[i]?=some 0:=fun i hi=>by
   have h1:i<J.length:=by rw[h.len]; exact hi
   have h2:=h.low i J[i] (List.getElem?_eq_getElem h1);have h3:=h0 J[i] (gM h1);rw[List.getElem?_eq_getElem h1];simp at h3;exact zd8 some oM
  have h0l:0<l.length:=oM;have c1:=h.link i 0 l[i] l[0] (key i hi) (List.getElem?_eq_getElem hi) (List.getElem?_eq_getElem h0l);have c2:=h.link j 0 l[j] l[0] (key j hj) (List.getElem?_eq_getElem hj) (List.getElem?_eq_getElem h0l);exact c1.trans c2.symm
 ·intro hall;have one:∀ {a b:Int},jS tl l a b→∃ (i j:Nat) (x y:ae),l[i]?=some x∧l[j]?=some y∧x.cell=a∧y.cell=b∧J[i]?=J[j]?:=by
   rintro a b ⟨x,hx,y,hy,rfl,rfl,r,h3,h4⟩;obtain ⟨i,hi,rfl⟩:=zc6 hx;obtain ⟨j,hj,rfl⟩:=zc6 hy;obtain ⟨q,hq,hqr⟩:=qw.1 h3;obtain ⟨q',hq',hqr'⟩:=qw.1 h4;obtain ⟨n,n1,n2⟩:=hF i l[i] hi (List.getElem?_eq_getElem hi) q hq;obtain ⟨m,m1,m2⟩:=hF j l[j] hj (List.getElem?_eq_getElem hj) q' hq';rw[hqr] at n1;rw[hqr',n1] at m1;injection m1 with m1
   have hnm:n=m:=oM;subst hnm;exact⟨i,j,l[i],l[j],List.getElem?_eq_getElem hi,List.getElem?_eq_getElem hj,I,I,n2.trans m2.symm⟩
  have key:∀ {a b:Int},Cn (jS tl l) a b→a=b∨∃ (i j:Nat) (x y:ae),l[i]?=some x∧l[j]?=some y∧x.cell=a∧y.cell=b∧J[i]?=J[j]?:=by
   intro a b hc;induction hc with
   | refl _=>exact .inl rfl
   | @step a' b' c' e _ ih =>
    have h1:∃ (i j:Nat) (x y:ae),l[i]?=some x∧l[j]?=some y∧x.cell=a'∧y.cell=b'∧J[i]?=J[j]?:=by
     rcases e with e | e
     ·exact one e
     ·obtain ⟨i,j,x,y,a,b,c,d,f⟩:=one e;exact⟨j,i,y,x,b,a,d,c,f.symm⟩
    rcases ih with rfl | ⟨i2,j2,x2,y2,a2,b2,c2,d2,f2⟩
    ·exact .inr h1
    ·obtain ⟨i,j,x,y,a,b,c,d,f⟩:=h1;have hj2:=hinj b a2 (d.trans c2.symm);subst hj2;exact .inr ⟨i,j2,x,y2,a,b2,c,d2,f.trans f2⟩
  rw[zk2];intro v hv;obtain ⟨i,hi,rfl⟩:=zc6 hv;have hil:i<l.length:=by rw[← h.len]; exact hi
  have h0l:0<l.length:=oM;have h0J:0<J.length:=oM;have h0:=h.low 0 J[0] (List.getElem?_eq_getElem h0J);have hJ0:J[0]=0:=oM;have hJi:J[i]?=J[0]?:=by
   rcases key (hall l[i] (gM hil) l[0] (gM h0l)) with e | ⟨a,b,x,y,h1,h2,h3,h4,h5⟩
   ·rw[hinj (List.getElem?_eq_getElem hil) (List.getElem?_eq_getElem h0l) e]
   ·have ea:=hinj h1 (List.getElem?_eq_getElem hil) h3;have eb:=hinj h2 (List.getElem?_eq_getElem h0l) h4;subst ea eb;exact h5
  rw[List.getElem?_eq_getElem hi,List.getElem?_eq_getElem h0J,hJ0] at hJi;injection hJi with hJi
  rw[hJi];decide
theorem zZ {tl:List Cl}{c:Cl}{F:List (Int×Int)}{J:List Int}(h0:0<c.sides.length)(hn:(c.sides.map ae.cell).Nodup)(hb:ll tl c.sides=false)(h:wA tl c.sides J)(hF:tK tl c.sides F J c.sides.length) :
  J.any (fun v=>decide (v>0))=decide (aX tl c≠0):=by
 have h1:=jx (tl:=tl) h0 hn;have h2:=(sw tl c.sides).1 hb;have h3:=Ak h hF hn;cases hj:J.any (fun v=>decide (v>0)) with
 | false=>exact (zf4 (Decidable.not_not.2 (h1.2 ⟨h2.1,h2.2,h3.1 hj⟩))).symm
 | true =>
  have h5:aX tl c≠0:=fun e=>by
   have h4:=h3.2 (h1.1 e).2.2;rw[hj] at h4;cases h4
  exact (zf5 h5).symm
theorem BB {tl:List Cl}{c:Cl}(h0:0<c.sides.length)(hn:(c.sides.map ae.cell).Nodup)(hb:ll tl c.sides=true):aX tl c≠0:=fun e=>by
 have h1:=(jx (tl:=tl) h0 hn).1 e;rw[(sw tl c.sides).2 ⟨h1.1,h1.2.1⟩] at hb;cases hb
theorem cJ {W:List Cl}{p:Int→Bool}{c:Cl}:c∈part W p↔c∈W∧p c.id=true:=zh1
section
variable {W:List Cl}(hW:Rt W){p q:Int→Bool}(hp:d4 W p)(hq:d4 W q)(hc:∀ c∈W,(p c.id||q c.id)=true)
include hW hp hq hc
omit hp hq in
theorem tT:eF (part W fun k=>p k&&q k) (part W p) (part W q)=(W,[]):=by
 refine zC hW (fun id=>?_) fun c hcW=>qB.2 ?_
 ·unfold pickT dz;cases h1:p id with
  | true =>
   have e1:ab (part W p) id=ab W id:=fy h1;cases h2:q id with
   | true =>
    have e2:ab (part W q) id=ab W id:=fy h2;rw[zf7 (by rw[e1,e2]; simp),e1]
   | false =>
    have e2:ab (part W q) id=none:=er h2;have e3:ab (part W fun k=>p k&&q k) id=none:=er (by rw[h1,h2]; rfl);rw[zf7 (by rw[e2,e3]; simp),e1]
  | false =>
   have e1:ab (part W p) id=none:=er h1;have e3:ab (part W fun k=>p k&&q k) id=none:=er (by rw[h1]; rfl);have e2:ab (part W q) id=ab W id:=by
    cases h2:q id with
    | true=>exact fy h2
    | false =>
     have:ab W id=none:=jH.2 fun c hcW he=>by
      have:=hc c hcW;rw[he,h1,h2] at this;cases this
     rw[this];exact er h2
   rw[e1,e2,e3];cases ab W id with
   | none=>rfl
   | some d=>simp
 ·rcases zj1 _ _ ▸ hc c hcW with h | h
  ·exact⟨part W p,by simp,c,cJ.2 ⟨hcW,h⟩,I⟩
  ·exact⟨part W q,by simp,c,cJ.2 ⟨hcW,h⟩,I⟩
theorem tP:tE (part W p) (part W q)=(W,true):=by
 rw[w8 hW hp hq,vI hc]
theorem kV (hn:(cQ (part W fun k=>p k&&q k) (part W q)).length≤1000):∃ ss,mJ (part W p) (cQ (part W fun k=>p k&&q k) (part W q))=((0,0),W,ss):=by
 have hpq:=xF hp hq;have hL:=eJ hW hp;have hR:=eJ hW hq;have hA:=eJ hW hpq;refine tQ hA hL hR hW (fun c h=>?_) (fun c h=>?_) (fun c h=>?_) (fun c h=>(cJ.1 h).1) (fun c h=>?_) (fun c h hn=>?_) hn
 ·obtain ⟨h1,h2⟩:=cJ.1 h;rw[zi9] at h2;exact hR.find (cJ.2 ⟨h1,h2.2⟩)
 ·exact hW.find (cJ.1 h).1
 ·obtain ⟨h1,h2⟩:=cJ.1 h;rw[zi9] at h2;exact cJ.2 ⟨h1,h2.1⟩
 ·rcases zj1 _ _ ▸ hc c h with h1 | h1
  ·exact .inl (cJ.2 ⟨h,h1⟩)
  ·exact .inr (cJ.2 ⟨h,h1⟩)
 ·obtain ⟨h1,h2⟩:=cJ.1 h;cases h3:p c.id with
  | false=>exact er h3
  | true=>exact absurd (cJ.2 ⟨h1,by rw[h3,h2]; rfl⟩) hn
end
structure ib (A:List Cl)(lo:Int)(m:Nat)(G:List Cl):Prop where
 rt:Rt G
 more:∃ N,G=A++N∧N.length≤m∧∀ n∈N,lo≤n.id∧n.id<lo+m
theorem ib.start {A:List Cl}(h:Rt A)(lo:Int):ib A lo 0 A:=⟨h,[],by simp,by simp,by simp⟩
theorem ib.skip {A G:List Cl}{lo:Int}{m:Nat}(h:ib A lo m G):ib A lo (m+1) G:=by
 obtain ⟨N,h1,h2,h3⟩:=h.more;exact⟨h.rt,N,h1,oM,fun n hn=>by have:=h3 n hn; omega⟩
theorem ib.step {A G:List Cl}{lo:Int}{m:Nat}(h:ib A lo m G)(hA:∀ c∈A,c.id<lo){e:Ed}(he:e.kind=1)(hc:e.cell=lo+m)(h0:(eo G e).1=0):ib A lo (m+1) (eo G e).2:=by
 obtain ⟨N,h1,h2,h3⟩:=h.more;obtain ⟨r1,_,_,r4⟩:=tz h0;refine⟨r1,N++[bo ⟨e.cell,e.dim,e.sides⟩],?_,by simp; omega,fun n hn=>?_⟩
 ·rw[r4,h.rt.canon];unfold lk;rw[zf7 he];have hlt:∀ c∈G,c.id<e.cell:=fun c hcG=>by
   rw[h1] at hcG
   rcases ze9.1 hcG with h4 | h4
   ·have:=hA c h4; omega
   ·have:=h3 c h4; omega
  have:=xG (B:=[⟨e.cell,e.dim,e.sides⟩]) h.rt (List.pairwise_append.2 ⟨h.rt.asc,by simp,fun a ha b hb=>by simp at hb; subst hb; exact hlt a ha⟩);rw[this,← zg5,← h1];rfl
 ·rcases ze9.1 hn with h4 | h4
  ·have:=h3 n h4; omega
  ·simp at h4;subst h4;show lo≤e.cell∧e.cell<_;omega
theorem BN (kd:Int)(ls:List (List Int))(y:Int):∀ c∈mX kd ls y,c.id<1000:=by
 intro c hc;have h0:=(lB kd ls y).pos c hc;obtain ⟨h1,h2⟩:=pP (bA kd 8) ls y;have hk:rk y∈[(1:Int),3,5]:=by
  have:=bU (IntKind.i64.wrap (y.tdiv 7)) 3 dC dC;unfold rk;generalize bA (IntKind.i64.wrap (y.tdiv 7)) 3=q at *
  rcases (by omega:q=0∨q=1∨q=2) with rfl | rfl | rfl <;> decide
 obtain ⟨a,ha,rfl⟩:=mR (AW y) hc;have p1:=h1.pos a ha;have q1:=h2 a ha;have e1:((a.id.toNat:Nat):Int)=a.id:=Int.toNat_of_nonneg oM;have:=Cu _ hk a.id.toNat oM;rw[e1] at this;have h3:(bo (aI (rk y) (AW y) a)).id=dH a.id (rk y):=rfl;rw[h3] at h0 ⊢;omega
theorem uI {A L R:List Cl}(hA:∀ c∈A,c.id<1000)(hAl:A.length≤90)(hL:ib A 1000 6 L)(hR:ib A 2000 6 R) :
  ∃ W,∃ p q:Int→Bool,Rt W∧d4 W p∧d4 W q∧(∀ c∈W,(p c.id||q c.id)=true)∧L=part W p∧R=part W q∧A=part W (fun k=>p k&&q k)∧W.length≤102:=by
 obtain ⟨N,h1,h2,h3⟩:=hL.more;obtain ⟨M,k1,k2,k3⟩:=hR.more;have hNM:∀ c∈L,c.id<2000:=fun c hc=>by
  rw[h1] at hc
  rcases ze9.1 hc with h | h
  ·have:=hA c h; omega
  ·have:=h3 c h; omega
 have hMR:∀ c∈M,c∈R:=fun c hc=>by rw[k1]; simp[hc]
 have hasc:(L++M).Pairwise fun a b=>a.id<b.id:=List.pairwise_append.2 ⟨hL.rt.asc,by
  have:=hR.rt.asc;rw[k1] at this;exact (List.pairwise_append.1 this).2.1,fun a ha b hb=>by have:=hNM a ha; have:=k3 b hb; omega⟩
 have hnd:((L++M).map Cl.id).Nodup:=by
  rw[List.Nodup,zk1];exact hasc.imp fun h=>by omega
 have hRW:∀ c∈R,c∈L++M:=fun c hc=>by
  rw[k1] at hc
  rcases ze9.1 hc with h | h
  ·rw[h1]; simp[h]
  ·simp[h]
 have hfR:∀ {k:Int} {d:Cl},ab R k=some d→ab (L++M) k=some d:=fun {k d} h=>by
  obtain ⟨a,rfl⟩:=au h;exact mD hnd (hRW d a)
 have hlen:(L++M).length≤102:=by rw[ze2,h1,ze2]; omega
 have hW:Rt (L++M):=by
  refine hL.rt.more oM hasc (fun n hn=>hR.rt.pos n (hMR n hn)) (fun n hn=>?_) fun n hn hd=>?_
  ·have hf:=hR.rt.form n (hMR n hn);exact⟨hf.dim,hf.cnt,fun x hx=>by
    obtain ⟨d,h4,h5⟩:=hf.found x hx;exact⟨d,hfR h4,h5⟩,hf.asc,hf.sg,hf.one⟩
  ·rw[← hR.rt.around n (hMR n hn) hd];refine uW fun x hx=>?_;obtain ⟨d,h4,_⟩:=(hR.rt.form n (hMR n hn)).found x hx;unfold aq;rw[h4,hfR h4]
 have hLp:part (L++M) (fun k=>decide (k<2000))=L:=by
  unfold part;rw[zh3,List.filter_eq_self.2 fun c hc=>zf5 (hNM c hc),List.filter_eq_nil_iff.2 fun c hc=>by have:=k3 c hc; simp; omega,zc5]
 have hNl:∀ c∈N,1000≤c.id:=fun c hc=>(h3 c hc).1;have hRp:part (L++M) (fun k=>!(decide (1000≤k)&&decide (k<2000)))=R:=by
  unfold part;rw[h1,k1,zh3,zh3,List.filter_eq_self.2 fun c hc=>by have:=hA c hc; simp; omega,List.filter_eq_nil_iff.2 fun c hc=>by have:=h3 c hc; simp; omega,List.filter_eq_self.2 fun c hc=>by have:=k3 c hc; simp; omega,zc5]
 have hAp:part (L++M) (fun k=>decide (k<2000) && !(decide (1000≤k)&&decide (k<2000)))=A:=by
  unfold part;rw[h1,zh3,zh3,List.filter_eq_self.2 fun c hc=>by have:=hA c hc; simp; omega,List.filter_eq_nil_iff.2 fun c hc=>by have:=h3 c hc; simp; omega,List.filter_eq_nil_iff.2 fun c hc=>by have:=k3 c hc; simp; omega,zc5,zc5]
 refine⟨L++M,fun k=>decide (k<2000),fun k=>!(decide (1000≤k)&&decide (k<2000)),hW,fun c hc hk x hx=>?_,fun c hc hk x hx=>?_,fun c hc=>?_,hLp.symm,hRp.symm,hAp.symm,hlen⟩
 ·have hcL:c∈L:=by rw[← hLp]; exact cJ.2 ⟨hc,hk⟩
  obtain ⟨d,h4,_⟩:=(hL.rt.form c hcL).found x hx;obtain ⟨h5,h6⟩:=au h4;have:=hNM d h5;rw[h6] at this;exact zf5 this
 ·have hcR:c∈R:=by rw[← hRp]; exact cJ.2 ⟨hc,hk⟩
  obtain ⟨d,h4,_⟩:=(hR.rt.form c hcR).found x hx;obtain ⟨h5,h6⟩:=au h4;have hd:d∈part (L++M) (fun k=>!(decide (1000≤k)&&decide (k<2000))):=by rw[hRp]; exact h5
  have:=(cJ.1 hd).2;dsimp only at this ⊢;rw[h6] at this;exact this
 ·by_cases h:c.id<2000
  ·simp[h]
  ·simp[h]
theorem gv {A B:List Cl}(hA:Rt A)(hB:Rt B):(cQ A B).length≤A.length+B.length:=by
 have:=Ay hA hB;omega
theorem xx {A L R:List Cl}(hA:∀ c∈A,c.id<1000)(hAl:A.length≤90)(hAr:Rt A)(hL:ib A 1000 6 L)(hR:ib A 2000 6 R) :
  L.length≤96∧R.length≤96∧∃ W,Rt W∧eF A L R=(W,[])∧tE L R=(W,true)∧(∃ ss,mJ L (cQ A R)=((0,0),W,ss))∧∃ ss,mJ R (cQ A L)=((0,0),W,ss):=by
 have lL:L.length≤96:=by
  obtain ⟨N,h1,h2,_⟩:=hL.more;rw[h1,ze2]; omega
 have lR:R.length≤96:=by
  obtain ⟨N,h1,h2,_⟩:=hR.more;rw[h1,ze2]; omega
 have e1:=gv hAr hR.rt;have e2:=gv hAr hL.rt;have n1:(cQ A R).length≤1000:=oM;have n2:(cQ A L).length≤1000:=oM;obtain ⟨W,p,q,hW,hp,hq,hc,rfl,rfl,hM,-⟩:=uI hA hAl hL hR;have hc2:∀ c∈W,(q c.id||p c.id)=true:=fun c h=>by rw[Bool.or_comm]; exact hc c h
 have hsw:(fun k=>p k&&q k)=fun k=>q k&&p k:=funext fun k=>Bool.and_comm _ _;rw[hM] at n1 n2 ⊢;refine⟨lL,lR,W,hW,tT hW hc,tP hW hp hq hc,kV hW hp hq hc n1,?_⟩;rw[hsw] at n2 ⊢;exact kV hW hq hp hc2 n2
theorem xD {A B:List Cl}(hB:Rt B):∀ e∈cQ A B,EdS e:=fun e he=>by
 unfold cQ at he
 rcases ze9.1 he with h | h
 ·obtain ⟨x,_,rfl⟩:=ze8.1 h;exact⟨by show (0:Nat)<1099511627776; decide,zf3 3⟩
 ·obtain ⟨x,hx,rfl⟩:=ze8.1 h;have hm:=(zh1.1 ((dD (key:=Cl.dim) _ x).1 hx)).1;have:=hB.few64 hm;exact⟨by show x.sides.length<_; omega,by show (0:Nat)≤3; omega⟩
theorem mE {A B:List Cl}(hB:Rt B):∀ e∈cQ A B,e.sides.length<1099511627776∧(e.kind=1∨e.kind=2):=fun e he=>by
 refine⟨(xD hB e he).1,?_⟩;unfold cQ at he
 rcases ze9.1 he with h | h
 ·obtain ⟨x,_,rfl⟩:=ze8.1 h;exact .inr I
 ·obtain ⟨x,_,rfl⟩:=ze8.1 h;exact .inl I
end Go.Proofs.YtbbppeihhkhkcaaGreatDoor
namespace Go.Sy
open Go
section
variable {P:Program}{b:Frame}{a:Act}{k:List Item}{cs:List Frame}{w:World}{Q:Exit→Act→World→Prop}
theorem ee {c:Code}:step P (lone (b.atR a (.code (.scope c)::k)) cs w) = .next (lone (b.atR a (.code c :: .inScope c::k)) cs w) :=
 step_lone_go (by simp[stepG,stepG.exec,Frame.atR])
theorem oz {c:Code}:step P (lone (b.atR a (.inScope c::k)) cs w) = .next (lone (b.atR a k) cs w) :=
 step_lone_go (by simp[stepG,stepG.exec,Frame.atR])
theorem tM {F:Fence}{n:Nat}{c:Code}(h:c.wpIn F n P (Exit.noGoto Q) a w):(Code.scope c).wpIn F n P Q a w:=by
 intro b k cs hro hb hr;have h0:(lone (b.atR a (.code (.scope c)::k)) cs w).fenced P F:=fenced_calm hb hr rfl;obtain ⟨e,a₁,w₁,hq,harr⟩:=h b (.inScope c::k) cs hro hb hr;cases e with
 | normal=>exact⟨.normal,a₁,w₁,hq,.head h0 ee (StepsIn.trans harr (.one (fenced_calm hb hr rfl) oz))⟩
 | exit id =>
  have hx:exitTo id (.inScope c::k)=exitTo id k:=by simp[exitTo]
  exact⟨.exit id,a₁,w₁,hq,fun k' hk=>.head h0 ee (harr.1 k' (by rw[hx]; exact hk)),
   fun hr' hk=>let ⟨k₁,h1,h2⟩:=harr.2 hr' (by rw[hx]; exact hk); ⟨k₁,h1,.head h0 ee h2⟩⟩
 | goto l=>exact hq.elim
 | ret=>exact⟨_,a₁,w₁,hq,.of_steps (.one h0 ee) harr⟩
 | panic ch=>exact⟨_,a₁,w₁,hq,.of_steps (.one h0 ee) harr⟩
 | outgrown=>exact⟨_,a₁,w₁,hq,.of_steps (.one h0 ee) harr⟩
end
section
variable {P:Program}{M:Md}{N:Nat}{E:World}{Q:Exit→Act→World→Prop}{f:Fr}{g:PH}{s:Own}
theorem XC.scope {c:Code}(h:XC P M N E c (Exit.noGoto Q) f g s):XC P M N E (.scope c) Q f g s:=fun a w ha hw=>tM (h a w ha hw)
theorem XT.scopeR (h:XT M N E Q .ret f g s):XT M N E (Exit.noGoto Q) .ret f g s:=h
end
def CG (P:Program)(E:World)(gf:FuncId)(lb:List Value){α:Type}(encs:α→List Value)(T:List α→α→Prop)(R:List α→Prop)(g0:PH):Prop :=
 ∀ (l:Nat) (ι:Type) (G:ι→PH) (S:ι→Own) (J:List α→ι→Prop) (i0:ι),J [] i0→(∀ pre i,J pre i→Le g0 (G i))→(∀ pre i g',J pre i→Le (G i) g'→∃ i',J pre i'∧G i'=g'∧S i'=S i) →
  (∀ pre x i sx,T pre x→J pre i→tI P E l (encs x).toArray (G i) (S i++sx) (fun v g' s'=>v = .bool true∧∃ j,J (pre++[x]) j∧Le (G i) (G j)∧g'=G j∧s'=S j++sx)) →
  ∀ sx,Ctr P E gf (.func (.yield l) #[] #[]::lb).toArray (G i0) (S i0++sx) (fun _ g' s'=>∃ xs j,R xs∧J xs j∧g'=G j∧s'=S j++sx)
section
variable {P:Program}{M:Md}{N:Nat}{E:World}{Q:Exit→Act→World→Prop}{f:Fr}{g:PH}{s:Own}{dst:Option Tmp}{ty:TypeId}{pos:String}{af:Array Edge}{gd:Option (Nat×Bool)}
theorem XC.rangeFuncP {α ι κ:Type}{gop:Operand}{ps:Array Tmp}{assign body:Code}{gf:FuncId}{lb:List Value}{encs:α→List Value}{T:List α→α→Prop}{R:List α→Prop}{g0:PH}(G:ι→PH)(S:ι→Own)(J:List α→ι→Prop)(i0:ι)(sx0:Own)(fa:α→Fr)(fb:List α→α→ι→κ→Fr)(X:α→κ→Own)
  (hro:M.ro=none) (hg:ev f gop=some (.func (.func gf) #[] lb.toArray)) (eg:∀ args w,(callFunc gf args).run P w = .ok (.enter gf args) w) (hps:∀ x,(encs x).length=ps.size)
  (hG:G i0=g) (hS:S i0++sx0=s) (hseq:CG P E gf lb encs T R g0) (hmono:∀ pre i,J pre i→Le g0 (G i)) (hup:∀ pre i g',J pre i→Le (G i) g'→∃ i',J pre i'∧G i'=g'∧S i'=S i) (h0:J [] i0)
  (hfa:∀ x a,Ok N f (iS a)→Ok N (fa x) { tmps:=(ps.zip (encs x).toArray).foldl (fun t (p,v)=>t.setIfInBounds p v) a.tmps,defers:=[] })
  (hassign:∀ l pre x i sx,J pre i→XC P ⟨some l,[]⟩ N E assign (lP (N:=N) E (G i) (S i++sx) (fb pre x i) (X x)) (fa x) (G i) (S i++sx))
  (hbody:∀ l pre x i sx q,(∃ (r:Loop) (k:Nat),sx[k]?=some (pt l (.loop r)))→T pre x→J pre i→XC P ⟨some l,[]⟩ N E body (ns E G S J pre x (G i) sx) (fb pre x i q) (G i) (X x q++(S i++sx)))
  (hdone:∀ D xs j,R xs→J xs j→XT ⟨none,⟨.collected D,#[]⟩::M.ds⟩ N E Q .normal f (G j) (pt D (.deferred (some []))::(S j++sx0))):XC P M N E (.rangeFunc gop ps assign body) Q f g s:=by
 subst hG hS;intro a w ha hw;rw[hro];refine wpIn_rangeFunc ?_;intro fn _;obtain ⟨rec,hrec⟩:∃ rec:LoopState→Option Code→Loop,rec=fun st pe=>{ state:=st,pending:=pe,fn,tmps:=a.tmps,params:=ps,assign,body,defers:=w.heap.size }:=⟨_,rfl⟩;obtain ⟨L,hL⟩:∃ L,L=w.heap.size+1:=⟨_,rfl⟩;obtain ⟨D,hD⟩:∃ D,D=w.heap.size:=⟨_,rfl⟩;obtain ⟨W1,hW1⟩:∃ W1,(w.alloc (.deferred (some []))).alloc (.loop (rec .ready none))=W1:=⟨_,rfl⟩;have hA:At E (G i0) (pt L (.loop (rec .ready none))::pt D (.deferred (some []))::(S i0++sx0)) W1:=by
  rw[← hW1,hL,hD];have h1:At E (G i0) (pt w.heap.size (.deferred (some []))::(S i0++sx0)) (w.alloc (.deferred (some []))):=hw.alloc (e:=pt w.heap.size (.deferred (some []))) rfl rfl;have h2:=h1.alloc (e:=pt (w.alloc (.deferred (some []))).heap.size (.loop (rec .ready none))) rfl rfl;rw[World.size_alloc] at h2;exact h2
 obtain ⟨S2,hS2⟩:∃ S2:ι→Own,S2=fun i=>S i++(pt L (.loop (rec .ready none))::pt D (.deferred (some []))::sx0):=⟨_,rfl⟩;have hA2:At E (G i0) (S2 i0++[]) W1:=by
  rw[hS2,zc5];dsimp only;refine hA.perm ?_;have h1:(pt L (.loop (rec .ready none))::pt D (.deferred (some []))::(S i0++sx0))=[pt L (.loop (rec .ready none)),pt D (.deferred (some []))]++(S i0++sx0):=rfl;have h2:S i0++(pt L (.loop (rec .ready none))::pt D (.deferred (some []))::sx0)=S i0++([pt L (.loop (rec .ready none)),pt D (.deferred (some []))]++sx0):=rfl;rw[h1,h2,← zg5,← zg5];exact List.perm_append_comm.append_right _
 refine⟨L,[{ target:=.collected D,args:=#[] }],W1,{ target:=.fn (.func gf) lb.toArray,args:=#[.func (.yield L) #[] #[]] },W1,gf,(.func (.yield L) #[] #[]::lb).toArray,W1,?_,?_,fun _ _=>trivial,?_,fun h=>(by cases h),?_⟩
 ·rw[← hW1,hrec,hL,hD]; exact run_enterLoop_outer _ _ _ _ _
 ·have h1:a.eval gop = .func (.func gf) #[] lb.toArray:=ha.ev hg;simp only[resolve,h1];simp[go_sem]
 ·have:(#[.func (.yield L) #[] #[]]++lb.toArray:Array Value)=(.func (.yield L) #[] #[]::lb).toArray:=by simp
  simp[invoke,go_sem,eg]
 ·refine (callsIn_wide (n:=0 - 1)).2 ((hseq L ι G S2 J i0 h0 hmono (fun pre i g' hJ hl=>by obtain ⟨i',a1,a2,a3⟩:=hup pre i g' hJ hl; exact⟨i',a1,a2,by rw[hS2]; dsimp only; rw[a3]⟩) ?_ [] W1 hA2).mono ?_)
  ·intro pre x i sx hxs hJ W hW;rw[hS2] at hW;simp only[zg5,List.cons_append] at hW;have hlen:(S i).length=(S i).length:=rfl;have gl:∀ (i:ι) (u u':Ent) (r:Own),(S i++u::u'::r)[(S i).length]?=some u:=fun i u u' r=>by simp
   have hl:=hW.here (gl i _ _ _);have hy:=run_yield (P:=P) (args:=(encs x).toArray) hl (by rw[hrec]; simpa using hps x);rw[hrec] at hy;refine⟨fn,_,assign,body,hy,roundIn_of_wpIn trivial ?_⟩;refine Code.wpIn_mono (fun e a1 w1 h1=>?_) (hassign L pre x i _ hJ { tmps:=(ps.zip (encs x).toArray).foldl (fun t (p,v)=>t.setIfInBounds p v) a.tmps,defers:=[] } W ⟨I,hfa x a ha.2⟩ hW);obtain ⟨rfl,q,ha1,hw1⟩:=h1;have glX:∀ (X:Own) (i:ι) (u u':Ent) (r:Own),(X++(S i++u::u'::r))[X.length+(S i).length]?=some u:=fun X i u u' r=>by rw[zg9 oM,Nat.add_sub_cancel_left]; exact gl i u u' r
   have hl1:=hw1.here (glX _ i _ _ _);refine⟨_,run_beginRound hl1 (by rw[hrec]),?_⟩;have hset:∀ (i:ι) (u u' v:Ent) (r:Own),(S i++u::u'::r).set (S i).length v=S i++v::u'::r:=fun i u u' v r=>by simp
   have hsetX:∀ (X:Own) (i:ι) (u u' v:Ent) (r:Own),(X++(S i++u::u'::r)).set (X.length+(S i).length) v=X++(S i++v::u'::r):=fun X i u u' v r=>by rw[List.set_append_right _ _ oM,Nat.add_sub_cancel_left,hset]
   have hw2:=hw1.obj (o':=.loop { rec .ready none with state:=.busy }) (glX _ i _ _ _);rw[hsetX] at hw2;refine Code.wpIn_mono (fun e a3 w3 h3=>?_) (hbody L pre x i _ q ⟨_,0,I⟩ hxs hJ a1 _ ha1 hw2);obtain ⟨rfl,j,hw3,hJ3,hL3⟩:=h3;have hl3:=hw3.here (gl j _ _ _);have he:=run_endRound (P:=P) none hl3;have hw4:=hw3.obj (o':=.loop { (rec .ready none) with state:=.ready,pending:=none }) (gl j _ _ _);rw[hset] at hw4;refine⟨_,_,he,.bool true,G j,S2 j++sx,I,?_,I,j,hJ3,hL3,I,I⟩;rw[hS2];simp only[zg5,List.cons_append];rw[hrec] at hw4 ⊢;exact hw4
  ·rintro e W2 ⟨v,g',s',rfl,hat,xs,j,hR,hJ,rfl,rfl⟩;rw[hS2,zc5] at hat;have gl:∀ (i:ι) (u u':Ent) (r:Own),(S i++u::u'::r)[(S i).length]?=some u:=fun i u u' r=>by simp
   have hl:=hat.here (gl j _ _ _);have he:=run_endLoop (P:=P) hl (by rw[hrec]; simp);have h2:=hat.obj (o':=.loop { (rec .ready none) with state:=.exhausted }) (gl j _ _ _);have hset:∀ (i:ι) (u u' v:Ent) (r:Own),(S i++u::u'::r).set (S i).length v=S i++v::u'::r:=fun i u u' v r=>by simp
   rw[hset] at h2;have hpn:(rec .ready none).pending=none:=by rw[hrec]
   refine⟨none,_,he.trans (zd8 (fun p=>Result.ok p _) hpn),?_⟩;refine hdone D xs j hR hJ _ _ ⟨by rw[← ha.1]; rfl,ha.2⟩ ?_;have h3:=(h2.sublist (s':=S j++pt D (.deferred (some []))::sx0) (by exact (zc2 _).append (zi7 _ _))).perm List.perm_middle;exact h3
end
section
variable {P:Program}{M:Md}{N:Nat}{E:World}{Q:Exit→Act→World→Prop}{f:Fr}{g:PH}{s:Own}{ops:Array Oper}{b:Nat}{o:Obj}
theorem XL.freeze {l:List Oper}(h:∀ g',Le g g'→g' b=some o→XL P M N E ops Q l f g' s):XL P M N E ops Q l f g (pt b o::s):=fun a w ha hw=>by
 have h1:=hw.own (pt b o) (by simp);simp only[pt,Option.bind_some] at h1;obtain ⟨h2,h3⟩:=hw.freeze (b:=b) rfl h1;exact h _ h3 (eh _ _ _) a w ha h2
theorem XC.freeze {c:Code}(h:∀ g',Le g g'→g' b=some o→XC P M N E c Q f g' s):XC P M N E c Q f g (pt b o::s):=fun a w ha hw=>by
 have h1:=hw.own (pt b o) (by simp);simp only[pt,Option.bind_some] at h1;obtain ⟨h2,h3⟩:=hw.freeze (b:=b) rfl h1;exact h _ h3 (eh _ _ _) a w ha h2
end
section
variable {P:Program}{M:Md}{N:Nat}{E:World}{ops:Array Oper}{Q:Exit→Act→World→Prop}{g0:PH}{s0:Own}{tail:List Nat}{f:Fr}{g:PH}{s s':Own}{L:Array Bool}{n:Nat}
theorem XC.drawX {id:Nat}(tail:List Nat)(hm:P.follows .mixedOrders=true)(hok:Region.noSelect ops=true)(hnd:mP ops=true)(h:SX P N E ops (Qx M.ds Q) g s tail (Array.replicate ops.size false) ops.size f g s):XC P M N E (.region id ops true) Q f g s:=by
 intro a w ha hw;have hx:a=ext M.ds (iS a):=by
  obtain ⟨t,d⟩:=a;have hd:d=M.ds:=ha.1;subst hd;simp[ext,iS]
 rw[hx];refine wpIn_region_any hm (iK hnd (fun e b w h=>h) _ _ _ _ (gH _ _ _ _ (S:=At E g s) (tail:=tail) ?_));exact h (iS a) { w with drawn:=w.drawn+1 } hok (ik _) ha.2 (hw.drew _ (Nat.le_succ _)) (fun _=>hw.drew _ (Nat.le_succ _))
theorem SX.br4 (i j m p:Nat)(hr:Region.ready .any ops L=[i,j,m,p])(h:SB P N E ops Q g0 s0 tail L n i f g s)(h2:SB P N E ops Q g0 s0 tail L n j f g s)(h3:SB P N E ops Q g0 s0 tail L n m f g s)(h4:SB P N E ops Q g0 s0 tail L n p f g s):SX P N E ops Q g0 s0 tail L (n+1) f g s:=by
 intro a w hs hcl ha hw hb;refine⟨fun h0=>(by rw[hr] at h0; cases h0),fun k hk=>?_⟩;have hk':=hk;rw[hr] at hk';simp only[ze7,zh4,List.not_mem_nil,or_false] at hk'
 rcases hk' with rfl | rfl | rfl | rfl
 ·exact h a w hs hcl hk ha hw hb
 ·exact h2 a w hs hcl hk ha hw hb
 ·exact h3 a w hs hcl hk ha hw hb
 ·exact h4 a w hs hcl hk ha hw hb
end
end Go.Sy
namespace Go.Proofs.YtbbppeihhkhkcaaGreatDoor
open _root_.Go.Proofs.Tryz _root_.Go.Proofs.YtbbppeihhkhkcaaGreatDoor.Tryz
open Go Go.Sy Go.Pl Go.Proofs
set_option maxRecDepth 100000
set_option maxHeartbeats 4000000
theorem Tryz.mty126:MTy Tryz.prog 126 3 56 (.agg #[vi 0,vi 0,.slice none 0 0]):=⟨underlying126,underlying3,zk8⟩
theorem Tryz.sty192:STy Tryz.prog 192 126 1 8 (.map none):=⟨underlying192,⟨t126,by kernel_rfl,by kernel_rfl,by kernel_rfl,by kernel_rfl⟩,rfl,by decide⟩
theorem Tryz.sty109:STy Tryz.prog 109 29 1 24 (.agg #[.slice none 0 0]):=⟨underlying109,⟨t29,by kernel_rfl,by kernel_rfl,by kernel_rfl,by kernel_rfl⟩,rfl,by decide⟩
def kE (g:PH)(v:Value)(l:List Cl):Prop:=∃ m rs,v = .map (some m)∧Mp g m (rs.map an)∧az (am g) l rs
theorem kE.mono {g g':PH}{v:Value}{l:List Cl}(h:kE g v l)(hl:Le g g'):kE g' v l:=by
 obtain ⟨m,rs,h1,h2,h3⟩:=h;exact⟨m,rs,h1,h2.mono hl,h3.mono fun _ _=>am.mono hl⟩
theorem SU.eqBB {P:Program}{N:Nat}{f:Fr}{dst:Option Tmp}{ty:TypeId}{pos:String}{af:Array Edge}{gd:Option (Nat×Bool)}{x y:Operand}{T U:TypeId}{a b:Bool}(hT:P.underlying T=some .bool)(hx:ev f x=some (vb a))(hy:ev f y=some (vb b)) :
  SU P N ⟨dst,.binOp .eql T x y U,ty,pos,af,gd⟩ f (vb (a == b)):=fun ac w ha=>by
 have hg:(eqGuard .eql T x y (.bool a) (.bool b)).run P w = .ok () w:=by simp[eqGuard]
 have hb:=run_eql_bool (P:=P) w T a b hT;simp only[execOp,ha.ev hx,ha.ev hy,Sem.run_bind,hg,zc9,hb];rfl
theorem Ec (E:World)(g:PH)(s:Own)(v:Value)(l:List Cl)(hv:aj g v l)(hf:bd l) :
  Ctr Tryz.prog E 144 #[.agg #[v]] g s (fun r g' s'=>r=vb (decide ((ar l).2≠0))∧g=g'∧s=s'):=by
 obtain ⟨q,d,rfl⟩:=hv.form;refine zb1 (args:=[.agg #[.slice q l.length d]]) func144 I ntmps144 (bE I) ?_;refine rZ (bW (bO I) fun b1=>?_);refine aT I (rZ (lK (qV 0 aA ak I I I) (lW (SO.call call14 I (lG E g _ _ l hv hf)) ?_)));rintro _ _ _ ⟨rfl,rfl,rfl⟩;refine lM I (yX I (yX I (lA I (aT I (sW I (lU (nQ I I) (aT I (rE (dR (s':=s) uR ?_)))))))));exact za7 (.inl I) results144 I ⟨I,I,I⟩
theorem xr (E:World)(g:PH)(s:Own)(v:Value)(Ls:List (List Cl))(svs:List Sv)(hv:SlA c4 g v svs)(ha:az (fun l sv=>aj g (.slice sv.p sv.n sv.c) l) Ls svs)(hf:∀ l∈Ls,bd l)(hl:Ls.length<1099511627776) :
  Ctr Tryz.prog E 197 #[v,.func (.func 144) #[] #[]] g s (fun r g' s'=>(∃ n:Int,r=vi n∧decide (n≥0)=Ls.any fun l=>decide ((ar l).2≠0))∧g=g'∧s=s'):=by
 have hlen:=ha.length;obtain ⟨p,c,rfl⟩:=za3 hv;refine zb1 (args:=[.slice p svs.length c,.func (.func 144) #[] #[]]) func197 I ntmps197 (bE I) ?_;refine rZ (aT I (sQ (sW I (lU (eN underlying109 I) (lM I (tZ (bK ?_)))))));refine oP (ι:=Nat) (fun k=>[(0,.slice p svs.length c),(1,.func (.func 144) #[] #[]),(7,vi svs.length),(8,vi k)]) (fun _=>g) (fun _=>s) (fun k=>k≤Ls.length∧(Ls.take k).any (fun l=>decide ((ar l).2≠0))=false) (fun k=>Ls.length - k) 0
  sB rfl rfl ⟨zf3 _,by simp⟩ ?_
 rintro k ⟨hk,hno⟩;refine rZ (yL I (tZ (sQ ?_)));refine iP I (fun hlt=>?_) (fun hlt=>?_)
 ·have hks:k<svs.length:=oM;have hkl:k<Ls.length:=oM;have hb1:=za5 hv oM;have hgk:svs[((k:Nat):Int).toNat]?=some svs[k]:=List.getElem?_eq_getElem hks;have hcr:=ha.get (List.getElem?_eq_getElem hkl) (List.getElem?_eq_getElem hks);generalize svs[k]=sv at *;obtain ⟨q,n,d⟩:=sv;refine kP (tN (sQ (bK (sW I (aT I (sW I (lM I (lM I (lU (iA underlying109 ak I I hb1 oM sL) (lK (SQ.elemA aA ak I (za6 hv) hgk) (lW (SO.callV I I (bM.mk (cap:=[]) call144 (Ec E g _ _ Ls[k] hcr (hf _ (gM hkl))))) ?_)))))))))));rintro _ _ _ ⟨rfl,rfl,rfl⟩;refine tZ ?_;refine iQ I (fun hq=>?_) (fun hq=>?_)
  ·refine sW I (aT I (rE (bR (tR (tR (bR (tR ?_)))))));have hany:Ls.any (fun l=>decide ((ar l).2≠0))=true:=zj5.2 ⟨Ls[k],gM hkl,hq⟩;exact za7 (.inl I) results197 I ⟨⟨k,I,by rw[hany]; simp⟩,I,I⟩
  ·refine kP (bN (tN (rG (yD I (lM I (nL ?_))))));exact ST.again (k+1) sB I I ⟨oM,by rw[tS hkl,List.any_append,hno]; simpa using hq⟩ oM
 ·refine xI (tX (tX (bX (tN (rZ (aT I (rE ?_)))))));have hkk:Ls.take k=Ls:=tL oM;rw[hkk] at hno;exact za7 (.inl I) results197 I ⟨⟨-1,I,by rw[hno]; rfl⟩,rfl,rfl⟩
theorem qW (E:World)(g:PH)(s:Own)(v:Value)(Ls:List (List Cl))(svs:List Sv)(hv:SlA c4 g v svs)(ha:az (fun l sv=>aj g (.slice sv.p sv.n sv.c) l) Ls svs)(hf:∀ l∈Ls,bd l)(hl:Ls.length<1099511627776) :
  Ctr Tryz.prog E 143 #[v,.func (.func 144) #[] #[]] g s (fun r g' s'=>r=vb (Ls.any fun l=>decide ((ar l).2≠0))∧g=g'∧s=s'):=by
 refine zb1 (args:=[v,.func (.func 144) #[] #[]]) func143 I ntmps143 (bE I) ?_;refine rZ (aT I (sW I (lM I (lW (SO.call call197 I (xr E g _ v Ls svs hv ha hf hl)) ?_))));rintro _ _ _ ⟨⟨n,rfl,hn⟩,rfl,rfl⟩;refine lU (gQ I I) (aT I (rE ?_));exact za7 (.inl I) results143 I ⟨by rw[hn],I,I⟩
theorem nD (E:World)(g:PH)(s:Own)(v:Value)(Ls:List (List Cl))(svs:List Sv)(hv:SlA c4 g v svs)(ha:az (fun l sv=>aj g (.slice sv.p sv.n sv.c) l) Ls svs)(hf:∀ l∈Ls,bd l)(hl:Ls.length<1099511627776)(hr:∀ l∈Ls,(ar l).2=0) :
  Ctr Tryz.prog E 71 #[v] g s (fun r g' s'=>r=vb true∧g=g'∧s=s'):=by
 have hno:Ls.any (fun l=>decide ((ar l).2≠0))=false:=zk2.2 fun l hl=>by simp[hr l hl]
 refine zb1 (args:=[v]) func71 I ntmps71 (bE I) ?_;refine rZ (aT I (sW I (lW (SO.call call143 I (qW E g _ v Ls svs hv ha hf hl)) ?_)));rintro _ _ _ ⟨rfl,rfl,rfl⟩;rw[hno];refine lU (SU.not I) (aT I (rE ?_));exact za7 (.inl I) results71 I ⟨I,I,I⟩
theorem dy (E:World)(g:PH)(s:Own)(v:Value)(l:List Cl)(hv:aj g v l)(hf:bd l)(hnd:((aa l).map Cl.id).Nodup) :
  Ctr Tryz.prog E 72 #[.agg #[v]] g s (fun r g' s'=>s=s'∧Le g g'∧kE g' r (aa l)):=by
 have hfc:=aF hf;obtain ⟨pv,cv,rfl⟩:=hv.form;refine zb1 (args:=[.agg #[.slice pv l.length cv]]) func72 I ntmps72 (bE I) ?_;refine rZ (bW (bO I) fun b1=>?_);refine aT I (rZ (lW (SO.mkMap) ?_));rintro _ _ _ ⟨b6,rfl,rfl,rfl⟩;refine aT I (sQ (rZ (lK (qV 1 aA ak I I I) (lW (SO.call call53 I (dX E g _ _ l hv hf)) ?_))));rintro _ g1 _ ⟨rfl,hle1,u,rfl,hc⟩;obtain ⟨rs,hrs,hall⟩:=hc;obtain ⟨q,d,rfl⟩:=za3 hrs;refine lU (SU.field ec I fw I I) (lU (eN aB I) (lM I (tZ (bK ?_))));generalize aa l=A at *;have hrl:=hall.length;have hAl:=hfc.1;have hids:rs.map Rc.id=A.map Cl.id:=by
  refine List.ext_getElem? fun i=>?_;rw[zh6,zh6];by_cases hi:i<A.length
  ·have hi2:i<rs.length:=oM;rw[List.getElem?_eq_getElem hi,List.getElem?_eq_getElem hi2];exact zd8 some (hall.get (List.getElem?_eq_getElem hi) (List.getElem?_eq_getElem hi2)).1
  ·rw[List.getElem?_eq_none oM,List.getElem?_eq_none oM];rfl
 rw[← hids] at hnd;refine oP (ι:=Nat) (fun i=>[(3,.map (some b6)),(9,.slice q rs.length d),(10,vi rs.length),(11,vi i)]) (fun _=>g1)
  (fun i=>mp b6 ((rs.take i).map an)::pt b1 (.cells #[.slice pv l.length cv] 29 (0,0))::s)
  (fun i=>i≤rs.length) (fun i=>rs.length - i) 0 sB rfl rfl (zf3 _) ?_
 rintro k hk;refine rZ (yL I (tZ (sQ ?_)));refine iP I (fun hlt=>?_) (fun hlt=>?_)
 ·have hkr:k<rs.length:=oM;have hb1:=za5 hrs oM;have hgx:rs[((k:Nat):Int).toNat]?=some rs[k]:=List.getElem?_eq_getElem hkr;have htk:rs.take (k+1)=rs.take k++[rs[k]]:=tS hkr;have hnew:∀ x∈rs.take k,x.id≠rs[k].id:=fun x hx=>by
   obtain ⟨i,hi,rfl⟩:=zc6 hx;have hi3:i<k:=by rw[ze1] at hi; omega
   rw[List.getElem_take];have h2:=zc8.1 (List.nodup_iff_pairwise_ne.1 hnd) i k (by rw[ze3]; omega) (by rw[ze3]; omega) hi3;simpa only[List.getElem_map] using h2
  have hput:=jB rs[k] (rs.take k);rw[i7 hnew,← htk] at hput;generalize rs[k]=x at *;obtain ⟨xi,xd,xp,xn,xc⟩:=x;refine kP (tN (sQ (bK (rZ (lU (iA aB ao I I hb1 oM (show (k:Int)<((rs.length:Nat):Int) by omega)) ?_)))));refine lK (SQ.elemA cz ao I (za6 hrs) hgx) (bW (aL zk8) fun b5=>?_);refine oZ (sK 0 ao I I I I I sB) ?_;refine tZ (rG (lM I (lU (fA ay I zT3 I) (lK (qL (v:=vi xi) iT3 I (cO 0 I I)) (lK (qV 0 cz ao I I I) (lO (SO.mapUpdate 1 mty126 I I I I) ?_))))));rintro _ _ _ ⟨rfl,rfl⟩;refine nL (bN (tN (rG (yD I (lM I (nL (dR (s':=mp b6 (fe ((rs.take k).map an) xi (rcv ⟨xi,xd,⟨xp,xn,xc⟩⟩))::pt b1 (.cells #[.slice pv l.length cv] 29 (0,0))::s) (.cons _ (.refl _)) ?_)))))));rw[hput];exact ST.again (k+1) sB I I oM oM
 ·have hkk:rs.take k=rs:=tL oM;rw[hkk];refine xI (tX (tX (bX (tN (sW I (aT I (rE (ST.freezeMap fun g2 hle2 hm2=>?_))))))));refine dR (s':=s) uR ?_;exact za7 (.inl I) results72 I ⟨I,hle1.trans hle2,b6,rs,I,hm2,hall.mono fun _ _=>am.mono hle2⟩
theorem ve {A B:List Cl}{id:Int}:dz A B id=((ab A id).isSome == (ab B id).isSome&&decide (((ab A id).getD bi).dim=((ab B id).getD bi).dim)&&decide (((ab A id).getD bi).sides=((ab B id).getD bi).sides)):=by
 unfold dz;cases ha:ab A id with
 | none =>
  cases hb:ab B id with
  | none=>simp
  | some d=>simp
 | some c =>
  cases hb:ab B id with
  | none=>simp
  | some d =>
   have h1:=(au ha).2;have h2:=(au hb).2;rw[Bool.eq_iff_iff];simp[AU,h1,h2]
theorem bg (E:World)(g:PH)(s:Own)(v u:Value)(A B:List Cl)(id:Int)(hv:kE g v A)(hu:kE g u B)(hA:bd A) :
  Ctr Tryz.prog E 74 #[v,u,vi id] g s (fun r g' s'=>r=vb (dz A B id)∧g=g'∧s=s'):=by
 obtain ⟨m,rs,rfl,hm,hall⟩:=hv;obtain ⟨m2,rs2,rfl,hm2,hall2⟩:=hu;obtain ⟨⟨xi,xd,xp,xn,xc⟩,hx1,kx2,-,kx3,kx4⟩:=cH hall fD id;obtain ⟨⟨yi,yd,yp,yn,yc⟩,hy1,ky2,-,ky3,ky4⟩:=cH hall2 fD id;have hag:=ve (A:=A) (B:=B) (id:=id);have hfl:((ab A id).getD bi).sides.length<1099511627776:=by
  cases h:ab A id with
  | none=>simp[bi]
  | some c=>exact hA.2 c (au h).1
 have hx2:(dB (rs.map an) id).isSome=(ab A id).isSome:=kx2;have hy2:(dB (rs2.map an) id).isSome=(ab B id).isSome:=ky2;have hx3:xd=((ab A id).getD bi).dim:=kx3;have hy3:yd=((ab B id).getD bi).dim:=ky3;have hx4:SlA encSide g (.slice xp xn xc) ((ab A id).getD bi).sides:=kx4;have hy4:SlA encSide g (.slice yp yn yc) ((ab B id).getD bi).sides:=ky4;rw[hag];clear kx2 kx3 kx4 ky2 ky3 ky4;generalize (ab A id).isSome=a1 at *;generalize (ab B id).isSome=b1 at *;generalize (ab A id).getD bi=X at *;generalize (ab B id).getD bi=Y at *;subst hx3 hy3;refine zb1 (args:=[.map (some m),.map (some m2),vi id]) func74 I ntmps74 (bE I) ?_;refine rZ (aT I (sW I (lM I (lK (SQ.eq (v':=.tuple #[.agg #[vi xi,vi X.dim,.slice xp xn xc],vb a1]) (SQ.lookupOk mty126 I I (a8.known hm)) (by rw[hx1,hx2]; rfl)) ?_))));refine lM I (yX I (yX I (bW (aL zk8) fun b7=>?_)));refine oZ (sK 0 ao I I I I I sB) ?_;refine aT I (sW I (lM I (lK (SQ.eq (v':=.tuple #[.agg #[vi yi,vi Y.dim,.slice yp yn yc],vb b1]) (SQ.lookupOk mty126 I I (a8.known hm2)) (by rw[hy1,hy2]; rfl)) ?_)));refine lM I (yX I (yX I (bW (aL zk8) fun b9=>?_)));refine oZ (sK 0 ao I I I I I sB) ?_;refine aT I ?_
 rcases Bool.eq_false_or_eq_true (a1 == b1) with h1 | h1
 ·rcases Bool.eq_false_or_eq_true (decide (X.dim=Y.dim)) with h2 | h2
  ·refine sW I (lM I (lU (SU.eq (v':=vb true) (SU.eqBB uT4 I I) (zd8 vb h1)) (lM I (lY I I I (fA ay I zT3 I) (SL.gq (gT I I I dC) (qL (v:=vi X.dim) iT3 I (cO 1 I I)) dC (lY I I I (fA ay I zT3 I) (SL.gq (gT I I I dC) (qL (v:=vi Y.dim) iT3 I (cO 0 I I)) dC (lY I I I (SU.eq (v':=vb true) (eQ I I) (zd8 vb h2)) (yP I (lM I (lY I I I (fA ay I bJ I) (SL.gq (gT I I I dC) (qL (v:=.slice xp xn xc) cI I (cO 1 I I)) dC (lY I I I (fA ay I bJ I) (SL.gq (gT I I I dC) (qL (v:=.slice yp yn yc) cI I (cO 0 I I)) dC (SL.go (gT I I I dC) (SO.call call148 I (pw E g _ _ _ X.sides Y.sides hx4 hy4 hfl)) dC ?_)))))))))))))));rintro _ _ _ ⟨rfl,rfl,rfl⟩;refine yP I (aT I (rE (dR (s':=s) uR ?_)));exact za7 (.inl I) results74 I ⟨by rw[h1,h2]; rfl,rfl,rfl⟩
  ·refine sW I (lM I (lU (SU.eq (v':=vb true) (SU.eqBB uT4 I I) (zd8 vb h1)) (lM I (lY I I I (fA ay I zT3 I) (SL.gq (gT I I I dC) (qL (v:=vi X.dim) iT3 I (cO 1 I I)) dC (lY I I I (fA ay I zT3 I) (SL.gq (gT I I I dC) (qL (v:=vi Y.dim) iT3 I (cO 0 I I)) dC (lY I I I (SU.eq (v':=vb false) (eQ I I) (zd8 vb h2)) (yP I (lM I (yA I (yA I (yA I (yA I (yA I (yF I (aT I (rE (dR (s':=s) uR ?_)))))))))))))))))));exact za7 (.inl I) results74 I ⟨by rw[h1,h2]; rfl,rfl,rfl⟩
 ·refine sW I (lM I (lU (SU.eq (v':=vb false) (SU.eqBB uT4 I I) (zd8 vb h1)) (lM I (yA I (yA I (yA I (yA I (yA I (yF I (lM I (yA I (yA I (yA I (yA I (yA I (yF I (aT I (rE (dR (s':=s) uR ?_)))))))))))))))))));exact za7 (.inl I) results74 I ⟨by rw[h1]; rfl,rfl,rfl⟩
theorem XC.freezeMap {P:Program}{M:Md}{N:Nat}{E:World}{Q:Exit→Act→World→Prop}{f:Fr}{g:PH}{s:Own}{c:Code}{b:Nat}{l:List (Int×Value)}(h:∀ g',Le g g'→Mp g' b l→XC P M N E c Q f g' s):XC P M N E c Q f g (mp b l::s):=fun a w ha hw=>by
 obtain ⟨g',h1,h2,h3⟩:=hw.freezeMap;exact h g' h1 h3 a w ha h2
def AS:Enc Nat 1:=⟨fun m=>[.map (some m)],fun _=>rfl,fun _ u hu=>by simp at hu; subst hu; rfl,by decide⟩
def AP (K:List Int)(x:Int):List Int:=if K.contains x then K else K++[x]
theorem BS {K:List Int}{x y:Int}:y∈AP K x↔y∈K∨y=x:=by
 unfold AP;split
 ·rename_i h;rw[List.contains_iff_mem] at h;exact⟨.inl,fun h2=>h2.elim id fun e=>e ▸ h⟩
 ·simp
theorem xl {K:List Int}(h:K.Nodup)(x:Int):(AP K x).Nodup:=by
 unfold AP;split
 ·exact h
 ·rename_i hx;exact List.nodup_append.2 ⟨h,by simp,fun a ha b hb e=>by simp at hb; subst hb; subst e; exact hx (by simpa using ha)⟩
theorem Br {K:List Int}(x:Int):fe (fX K) x (vb true)=fX (AP K x):=by
 unfold AP;by_cases h:K.contains x=true
 ·rw[zf7 h];induction K with
  | nil=>simp at h
  | cons a K ih =>
   show (if x=a then (x,vb true)::fX K else (a,vb true)::fe (fX K) x (vb true))=_;by_cases e:x=a
   ·rw[zf7 e,e]; rfl
   ·rw[zf6 e,ih (by simpa [e] using h)]; rfl
 ·rw[zf6 h];exact qi (by simpa using h)
theorem m6 (K:List Int):(fX K).map Prod.fst=K:=by
 unfold fX;rw[zi2];exact List.map_id K
theorem oY:∀ {l m:List Int},l.Nodup→(∀ x∈l,x∈m)→l.length≤m.length
 | [],_,_,_=>zf3 _
 | x::l,m,hn,h=>by
  rw[zj8] at hn;have h1:=oY (l:=l) (m:=m.erase x) hn.2 fun y hy=>(List.mem_erase_of_ne (fun e=>hn.1 (by rw[← e]; exact hy))).2 (h y (by simp[hy]));rw[List.length_erase_of_mem (h x (by simp))] at h1;have:0<m.length:=List.length_pos_of_mem (h x (by simp));rw[ze5];omega
theorem zq {a b:List Int}(ha:a.Pairwise (· < ·))(hb:b.Pairwise (· < ·))(h:∀ x,x∈a↔x∈b):a=b:=by
 have hna:a.Nodup:=ha.imp fun h e=>by omega
 have hnb:b.Nodup:=hb.imp fun h e=>by omega
 exact ((List.perm_ext_iff_of_nodup hna hnb).2 h).eq_of_pairwise (fun a b _ _ h1 h2=>by omega) ha hb
theorem wM {Ls:List (List Cl)}{K:List Int}(hn:K.Nodup)(h:∀ x,x∈K↔∃ A∈Ls,∃ c∈A,c.id=x):dQ K=fx Ls:=by
 have hp:=oK K;refine zq (((ji K).and (hp.symm.nodup hn)).imp fun h=>by have:=h.1; have:=h.2; omega) (ky Ls) fun x=>?_;rw[hp.mem_iff,h,qB]
theorem vE {g:PH}{A:List Cl}{rs:List Rc}(h:az (am g) A rs):(rs.map an).map Prod.fst=A.map Cl.id:=by
 rw[zi2];refine List.ext_getElem? fun i=>?_;rw[zh6,zh6];have hl:=h.length;by_cases hi:i<A.length
 ·have hi2:i<rs.length:=oM;rw[List.getElem?_eq_getElem hi,List.getElem?_eq_getElem hi2];exact zd8 some (h.get (List.getElem?_eq_getElem hi) (List.getElem?_eq_getElem hi2)).1
 ·rw[List.getElem?_eq_none oM,List.getElem?_eq_none oM];rfl
theorem np (E:World)(g:PH)(s:Own)(p:Option Addr)(n c:Nat) :
  Ctr Tryz.prog E 73 #[.slice p n c] g s (fun r g' s'=>s=s'∧Le g g'∧∃ b,r = .func (.func 145) #[] #[pp b 0]∧g' b=some (.cells #[.slice p n c] 192 (0,0))):=by
 refine zb1 (args:=[.slice p n c]) func73 I ntmps73 (bE I) ?_;refine rZ (bW (bO I) fun b1=>?_);refine aT I (rZ (lU (SU.mkFunc I) (aT I (rE (ST.freeze fun g1 hle hb=>?_)))));exact za7 (.inl I) results73 I ⟨I,hle,_,I,hb⟩
theorem lI (E:World)(hE:E.drawn=0)(g0:PH)(b:Nat)(p:Option Addr)(c:Nat)(ms:List Nat)(Ls:List (List Cl))(hb:g0 b=some (.cells #[.slice p ms.length c] 192 (0,0)))(hv:SlA AS g0 (.slice p ms.length c) ms)(ha:az (fun L m=>kE g0 (.map (some m)) L) Ls ms)
  (hi:∀ L∈Ls,∀ x∈L,bI x.id) (hl:Ls.flatten.length<1000000) (hm10:ms.length<1000) :
  CH Tryz.prog E 145 [pp b 0] (fun k:Int=>[vi k]) (fx Ls) g0:=by
 intro y ι G S J i0 h0 hmono hup hY sx;have hlen:=ha.length;have hm0:=hmono _ _ h0;have hb0:=hm0 _ _ hb;have hv0:=za4 hv hm0;refine Ctr.ofX (args:=[.func (.yield y) #[] #[],pp b 0]) func145 I ntmps145 (bE I) ?_;refine XC.seq ?_;refine XC.region ?_;refine XL.o (SO.mkMap) dC ?_;rintro _ _ _ ⟨b9,rfl,rfl,rfl⟩;refine XL.u (aS I) dC ?_;refine XL.nil ?_;refine XT.thenN ?_;refine XC.seq ?_;refine XC.seq ?_;refine XC.region ?_;refine XL.q (qL (v:=.slice p ms.length c) isAgg192 I (cK hb0 I)) dC ?_;refine XL.u (eN underlying192 I) dC ?_;refine XL.u (mV I) dC ?_;refine XL.nil ?_;refine XT.thenN ?_;refine XC.block ?_;refine XC.loop (ι:=Nat×List Int) (fun z=>[(0,.func (.yield y) #[] #[]),(3,.map (some b9)),(10,.slice p ms.length c),(11,vi ms.length),(12,vi z.1)]) (fun _=>G i0) (fun z=>mp b9 (fX z.2)::(S i0++sx)) (fun z=>z.1≤Ls.length∧z.2.Nodup∧∀ x,x∈z.2↔∃ A∈Ls.take z.1,∃ c∈A,c.id=x) (fun z=>Ls.length - z.1) (0,[])
  sB rfl rfl ⟨zf3 _,by simp,by simp⟩ ?_
 rintro ⟨k,K⟩ ⟨hk,hnd,hmem⟩;dsimp only at hk hnd hmem ⊢;refine XC.seq ?_;refine XC.region ?_;refine XL.u (lS I I) dC ?_;refine XL.nil ?_;refine XT.thenN ?_;refine XC.seq ?_;refine XC.ifP I (fun hlt=>?_) (fun hlt=>?_)
 ·have hkm:k<ms.length:=oM;have hkl:k<Ls.length:=oM;have hb1:=za5 hv0 oM;have hgk:ms[((k:Nat):Int).toNat]?=some ms[k]:=List.getElem?_eq_getElem hkm;have hT:=(ha.get (List.getElem?_eq_getElem hkl) (List.getElem?_eq_getElem hkm)).mono hm0;have htk:Ls.take (k+1)=Ls.take k++[Ls[k]]:=tS hkl;generalize Ls[k]=A at *;generalize ms[k]=m at *;obtain ⟨m',rs,hme,hm,hall⟩:=hT;obtain rfl:m=m':=by injection hme with h; injection h
  obtain ⟨es,clk,hes,hmi⟩:=hm;refine XC.skip ?_;refine XT.thenN ?_;refine XC.seq ?_;refine XC.block ?_;refine XC.seq ?_;refine XC.region ?_;refine XL.u (iA underlying192 sizeOf126 I I hb1 oM sL) dC ?_;refine XL.q (eB be I (za6 hv0) hgk I) dC ?_;refine XL.u (aS I) dC ?_;refine XL.nil ?_;refine XT.thenN ?_;refine XC.seq ?_;refine XC.region ?_;refine XL.u (mV I) dC ?_;refine XL.o (SO.range underlying126 I hes) dC ?_;rintro _ _ _ ⟨it,rfl,rfl,rfl⟩;refine XL.nil ?_;refine XT.thenN ?_;refine XC.block ?_;refine XC.loop (ι:=List MapEntry×List (Int×Value)×List Int) (fun z=>[(0,.func (.yield y) #[] #[]),(3,.map (some b9)),(10,.slice p ms.length c),(11,vi ms.length),(12,vi k),(17,pp it 0)]) (fun _=>G i0) (fun z=>iter it m es clk z.1::mp b9 (fX z.2.2)::(S i0++sx)) (fun z=>kF (rs.map an) es z.1 z.2.1∧z.2.2.Nodup∧∀ x,x∈z.2.2↔(∃ A∈Ls.take k,∃ c∈A,c.id=x)∨x∈z.2.1.map Prod.fst) (fun z=>rs.length - z.2.1.length) ([],[],K)
   sB rfl rfl ⟨kF.nil _ _,hnd,fun x=>by simpa using hmem x⟩ ?_
  rintro ⟨vis,vl,K2⟩ ⟨hrv,hnd2,hmem2⟩;dsimp only at hrv hnd2 hmem2 ⊢;have hvle:=hrv.len hmi;simp only[ze3] at hvle;refine XC.seq ?_;refine XC.region ?_;refine XL.o (SO.nextP 0 I I hes hmi hrv) dC ?_;rintro _ _ _ ⟨rfl,hcase⟩
  rcases hcase with ⟨rfl,rfl,hperm⟩ | ⟨e,pr,he,hp1,hk1,hv1,hrv2,rfl,rfl⟩
  ·have hmem3:∀ x,x∈K2↔∃ A∈Ls.take (k+1),∃ c∈A,c.id=x:=fun x=>by
    rw[hmem2,htk,(hperm.map Prod.fst).mem_iff,vE hall];constructor
    ·rintro (⟨A',h1,h2⟩ | h)
     ·exact⟨A',by simp[h1],h2⟩
     ·obtain ⟨c,hc,e⟩:=ze8.1 h;exact⟨A,by simp,c,hc,e⟩
    ·rintro ⟨A',h1,h2⟩
     rcases ze9.1 h1 with h1 | h1
     ·exact .inl ⟨A',h1,h2⟩
     ·simp at h1;subst h1;obtain ⟨c,hc,e⟩:=h2;exact .inr (ze8.2 ⟨c,hc,e⟩)
   refine XL.u (xT I I) dC ?_;refine XL.nil ?_;refine XT.thenN ?_;refine XC.seq ?_;refine XC.condF I ?_;refine XC.exit ?_;refine XT.thenX ?_;refine XT.thenX ?_;refine XT.blockX ?_;refine XT.blockN ?_;refine XT.thenN ?_;refine XC.region ?_;refine XL.u (aD I I oM) dC ?_;refine XL.u (mV I) dC ?_;refine XL.nil ?_;refine XT.drop (.cons _ (.refl _)) ?_;exact XT.again (k+1,K2) sB I I ⟨by dsimp only; omega,hnd2,hmem3⟩ (by dsimp only; omega)
  ·obtain ⟨x,hx,rfl⟩:=ze8.1 hp1;obtain ⟨xi,xd,xv⟩:=x;have hm2:=hrv2.len hmi;simp only[ze3,ze2,ze4] at hm2;have hins:=Br (K:=K2) xi;refine XL.u (xT I I) dC ?_;refine XL.nil ?_;refine XT.thenN ?_;refine XC.seq ?_;refine XC.condT I ?_;refine XC.skip ?_;refine XT.thenN ?_;refine XC.block ?_;refine XC.seq ?_;refine XC.region ?_;refine XL.q (SQ.entryP 0 I I hes hmi he hk1 hv1) dC ?_;refine XL.u (xT I I) dC ?_;refine XL.u (aS I) dC ?_;refine XL.nil ?_;refine XT.thenN ?_;refine XC.region ?_;refine XL.u (mV I) dC ?_;refine XL.u (mV I) dC ?_;refine XL.on (SO.mapUpdate 1 mty143 I I I I) ?_;rintro _ _ _ ⟨rfl,rfl⟩;rw[show fe (fX K2) (an ⟨xi,xd,xv⟩).1 (vb true)=fX (AP K2 xi) from hins];refine XL.nil ?_;refine XT.blockN ?_;exact XT.again (vis++[e],vl++[an ⟨xi,xd,xv⟩],AP K2 xi) sB I I ⟨hrv2,xl hnd2 xi,fun z=>by
    dsimp only;rw[BS,hmem2,zg2,ze9];simp only[zg1,List.map_nil,zh4,an];exact or_assoc⟩ (by dsimp only; simp only[ze2,ze4]; omega)
 ·have hkk:Ls.take k=Ls:=tL oM;rw[hkk] at hmem;have hKl:K.length<1099511627776:=by
   have h1:=oY (m:=Ls.flatten.map Cl.id) (l:=K) hnd fun x hx=>by
    obtain ⟨A,hA,c,hc,e⟩:=(hmem x).1 hx;exact ze8.2 ⟨c,List.mem_flatten.2 ⟨A,hA,hc⟩,e⟩
   rw[ze3] at h1;omega
  have hall:=wM hnd hmem;refine XC.exit ?_;refine XT.thenX ?_;refine XT.thenX ?_;refine XT.blockX ?_;refine XT.thenN ?_;refine XC.seq ?_;refine XC.freezeMap fun g1 hle1 hm1=>?_;refine XC.region ?_;refine XL.u (mV I) dC ?_;refine XL.o (SO.call call147 I (Ai E g1 _ b9)) dC ?_;rintro _ g2 _ ⟨rfl,hle2,bk,rfl,hbk⟩;refine XL.o (SO.call call146 I (tY E hE g2 _ bk b9 (fX K) hbk (hm1.mono hle2) (by rw[← ze3 (f:=Prod.fst),m6]; exact hKl) (fun q hq=>by have h1:q.1∈(fX K).map Prod.fst:=ze8.2 ⟨q,hq,I⟩; rw[m6] at h1; obtain ⟨A,hA,c,hc,e⟩:=(hmem q.1).1 h1; rw[← e]; exact hi A hA c hc))) dC ?_;rintro _ g3 _ ⟨rfl,hle3,hs3⟩;rw[m6,hall] at hs3;obtain ⟨q3,c3,rfl⟩:=za3 hs3;refine XL.u (eN aG I) dC ?_;refine XL.u (mV I) dC ?_;refine XL.nil ?_;refine XT.thenN ?_;refine XC.block ?_;have hle13:=hle1.trans (hle2.trans hle3);obtain ⟨i1,hJ1,hG1,hS1⟩:=hup _ _ _ h0 hle13;refine XC.loop (ι:=ι×Nat) (fun z=>[(0,.func (.yield y) #[] #[]),(27,.slice q3 (fx Ls).length c3),(28,vi (fx Ls).length),(29,vi z.2)]) (fun z=>G z.1) (fun z=>S z.1++sx) (fun z=>z.2≤(fx Ls).length∧Le g3 (G z.1)∧J ((fx Ls).take z.2) z.1) (fun z=>(fx Ls).length - z.2) (i1,0)
   sB hG1 (by dsimp only; rw[hS1]) ⟨zf3 _,by dsimp only; rw[hG1]; exact zb8 _,hJ1⟩ ?_
  rintro ⟨i,j⟩ ⟨hj,hle4,hJ⟩;dsimp only at hj hle4 hJ ⊢;have hal:(fx Ls).length<1099511627776:=by rw[← hall,e9]; exact hKl
  refine XC.seq ?_;refine XC.region ?_;refine XL.u (lS I I) dC ?_;refine XL.nil ?_;refine XT.thenN ?_;refine XC.seq ?_;refine XC.ifP I (fun hjl=>?_) (fun hjl=>?_)
  ·have hjB:j<(fx Ls).length:=oM;have hb2:=za5 hs3 oM;have hgj:(fx Ls)[((j:Nat):Int).toNat]?=some (fx Ls)[j]:=List.getElem?_eq_getElem hjB;have htj:(fx Ls).take (j+1)=(fx Ls).take j++[(fx Ls)[j]]:=tS hjB;have hsp:fx Ls=(fx Ls).take j++(fx Ls)[j]::(fx Ls).drop (j+1):=by rw[List.getElem_cons_drop,zi8]
   have hy:=hY _ _ _ i sx hsp hJ;refine XC.skip ?_;refine XT.thenN ?_;refine XC.seq ?_;refine XC.block ?_;refine XC.seq ?_;refine XC.region ?_;refine XL.u (iA aG zT3 I I hb2 oM sL) dC ?_;refine XL.q (eB iT3 I (za6 (za4 hs3 hle4)) hgj I) dC ?_;refine XL.u (aS I) dC ?_;refine XL.nil ?_;refine XT.thenN ?_;refine XC.seq ?_;refine XC.region ?_;refine XL.u (mV I) dC ?_;refine XL.u (mV I) dC ?_;refine XL.x (XO.yield I I hy) dC ?_;rintro _ _ _ ⟨rfl,j',hJ',hL',rfl,rfl⟩;refine XL.u (SU.not I) dC ?_;refine XL.nil ?_;refine XT.thenN ?_;refine XC.condF I ?_;refine XC.skip ?_;refine XT.blockN ?_;refine XT.thenN ?_;refine XC.region ?_;refine XL.u (aD I I oM) dC ?_;refine XL.u (mV I) dC ?_;refine XL.nil ?_;exact XT.again (j',j+1) sB I I ⟨by dsimp only; omega,hle4.trans hL',by dsimp only; rw[htj]; exact hJ'⟩ (by dsimp only; omega)
  ·have hjj:(fx Ls).take j=fx Ls:=tL oM;rw[hjj] at hJ;refine XC.exit ?_;refine XT.thenX ?_;refine XT.thenX ?_;refine XT.blockX ?_;exact XT.leave0 (.inr I) (ST.ret0 (.inr I) results145 ⟨i,hJ,I,I⟩)
end Go.Proofs.YtbbppeihhkhkcaaGreatDoor
