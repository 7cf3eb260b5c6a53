/- 14 -/
import Derived.Test.YtbbppeihhkhkcaaGreatDoorAn13
set_option linter.unusedSimpArgs false
set_option linter.unusedVariables false
namespace Go.Proofs.YtbbppeihhkhkcaaGreatDoor
open _root_.Go.Proofs.Tryz _root_.Go.Proofs.YtbbppeihhkhkcaaGreatDoor.Tryz
open Go Go.Sy Go.Pl Go.Proofs
set_option maxRecDepth 100000
set_option maxHeartbeats 8000000
theorem uy {l:List Cl}(a:aJ l)(id:Int):((findC l id).getD aH).sides.length<1099511627776:=by
 unfold findC;cases h:(am l).find? (fun c=>decide (c.id=id)) with
 | none=>simp[aH]
 | some c=>exact (bT a).2 c<|zk8 h
theorem Tryz.bA42 (a:Int)(b:Int)  (w:World):(Instr.build 42 #[(0,vi a),(1,vi b)]).run Tryz.prog w = .ok (.agg #[vi a,vi b,vi 0,vi 0,vi 0,.slice none 0 0,.slice none 0 0]) w:=by
 have c:(vi a).cells = #[vi a]:=rfl;have d:(vi b).cells = #[vi b]:=rfl;simp[Instr.build,Instr.fill,c,d];rfl
theorem Tryz.bB42 (a:Int)(b:Int)(d:Int)(q:Option Addr)(qn qc:Nat)(w:World):(Instr.build 42 #[(0,vi a),(1,vi b),(2,vi d),(5,.slice q qn qc)]).run Tryz.prog w = .ok (.agg #[vi a,vi b,vi d,vi 0,vi 0,.slice q qn qc,.slice none 0 0]) w:=by
 have c:(vi a).cells = #[vi a]:=rfl;have e:(vi b).cells = #[vi b]:=rfl;have f:(vi d).cells = #[vi d]:=rfl;have g:(Value.slice q qn qc).cells = #[.slice q qn qc]:=rfl;simp[Instr.build,Instr.fill,c,e,f,g];rfl
theorem Tryz.bC42 (a:Int)(b:Int)(d:Int)(e:Int)  (w:World):(Instr.build 42 #[(0,vi a),(1,vi b),(3,vi d),(4,vi e)]).run Tryz.prog w = .ok (.agg #[vi a,vi b,vi 0,vi d,vi e,.slice none 0 0,.slice none 0 0]) w:=by
 have c:(vi a).cells = #[vi a]:=rfl;have f:(vi b).cells = #[vi b]:=rfl;have g:(vi d).cells = #[vi d]:=rfl;have i:(vi e).cells = #[vi e]:=rfl;simp[Instr.build,Instr.fill,c,f,g,i];rfl
theorem Tryz.bD42 (a:Int)(q:Option Addr)(qn qc:Nat)(w:World):(Instr.build 42 #[(0,vi a),(6,.slice q qn qc)]).run Tryz.prog w = .ok (.agg #[vi a,vi 0,vi 0,vi 0,vi 0,.slice none 0 0,.slice q qn qc]) w:=by
 have b:(vi a).cells = #[vi a]:=rfl;have c:(Value.slice q qn qc).cells = #[.slice q qn qc]:=rfl;simp[Instr.build,Instr.fill,b,c];rfl
theorem Tryz.bE42 (a:Int)(b:Int)(d:Int)  (w:World):(Instr.build 42 #[(0,vi a),(1,vi b),(4,vi d)]).run Tryz.prog w = .ok (.agg #[vi a,vi b,vi 0,vi 0,vi d,.slice none 0 0,.slice none 0 0]) w:=by
 have c:(vi a).cells = #[vi a]:=rfl;have e:(vi b).cells = #[vi b]:=rfl;have f:(vi d).cells = #[vi d]:=rfl;simp[Instr.build,Instr.fill,c,e,f];rfl
theorem Tryz.bF42 (a:Int)(b:Int)(d:Int)(e:Int)(h:Int)(q:Option Addr)(qn qc:Nat)(r:Option Addr)(rn rc:Nat)(w:World):(Instr.build 42 #[(0,vi a),(1,vi b),(2,vi d),(3,vi e),(4,vi h),(5,.slice q qn qc),(6,.slice r rn rc)]).run Tryz.prog w = .ok (.agg #[vi a,vi b,vi d,vi e,vi h,.slice q qn qc,.slice r rn rc]) w:=by
 have c:(vi a).cells = #[vi a]:=rfl;have f:(vi b).cells = #[vi b]:=rfl;have g:(vi d).cells = #[vi d]:=rfl;have i:(vi e).cells = #[vi e]:=rfl;have j:(vi h).cells = #[vi h]:=rfl;have k:(Value.slice q qn qc).cells = #[.slice q qn qc]:=rfl;have l:(Value.slice r rn rc).cells = #[.slice r rn rc]:=rfl;simp[Instr.build,Instr.fill,c,f,g,i,j,k,l];rfl
theorem mx (E:World)(g:PH)(s:Own)(v:Value)(l:List Cl)(k0 ka kb kc:Int)(hv:ai g v l)(N:aJ l) :
  Ctr Tryz.prog E 13 #[.agg #[vi k0,vi ka,vi kb,vi kc],.agg #[v]] g s (fun r g' s'=>s=s'∧Le g g'∧∃ e,EdR g' r e∧e.sides.length<1099511627776∧e.pairs.length≤3∧((bU k0 10=0∨bU k0 10=1∨bU k0 10=2)→e.kind=1)∧((∀ c∈l,a7 c.id)→a7 ka→a7 kb→a7 kc→(e.kind=1→a7 e.cell)∧(e.kind=3→a7 e.new∧a7 e.other))):=by
 have n8:=hv;obtain ⟨rs,a0,a3⟩:=hv;have d0:=a3.length;have o1:=N.1;obtain ⟨p,c,rfl⟩:=za4 a0;have d1:∀ d,(CY l d).length<1099511627776:=fun d=>by
  have m:(CY l d).length≤(am l).length:=by unfold CY; rw[ze8]; exact zc6 _ _
  have h2:=(bT N).1;omega
 have h9:(wv l).length<1099511627776:=by
  have m:(wv l).length≤(am l).length:=by unfold wv; rw[ze8]; exact zc6 _ _
  have h2:=(bT N).1;omega
 have b7:=d1 0;have c2:=d1 1;rw[← d0] at a0 ⊢;have i0:ai g (.slice p l.length c) l:=⟨rs,a0,a3⟩;refine zb2 (args:=[.agg #[vi k0,vi ka,vi kb,vi kc],.agg #[.slice p l.length c]]) func13 I ntmps13 (bE I)<|rZ (bW (bO I) fun b2=>?_);refine bW (bO I) fun b3=>bW (aL zm3) fun b4=>tZ<|rZ<|aT I<|sQ<|rZ<|aT I<|bK<|zb6 3 1<|oP (ι:=Nat×Value×List Int) (fun i=>[(2,pp b2 0),(3,pp b3 0),(4,pp b4 0),(5,i.2.1),(6,vi i.1)]) (fun _=>g) (fun i=>rowA encInt 3 i.2.1 i.2.2::pt b4 (.cells #[vi 0,vi 0,vi 0,vi 0,vi 0,.slice none 0 0,.slice none 0 0] 42 (0,0))::pt b3 (.cells #[.slice p l.length c] 29 (0,0))::pt b2 (.cells #[vi k0,vi ka,vi kb,vi kc] 44 (0,0))::s)
  (fun i=>i.1≤l.length∧i.2.2.length=i.1∧∀ z∈i.2.2,∃ c∈l,c.id=z) (fun i=>l.length - i.1) (0,.slice none 0 0,[]) sB rfl rfl ⟨zf8 _,rfl,by simp⟩ ?_
 rintro ⟨k,ov,B⟩ ⟨hk,d2,a4⟩;dsimp only at hk d2 a4 ⊢;refine sQ<|sW I<|lU (fA dn I cq I)<|SL.K (qL (v:=.slice p l.length c) eh I<|cO 2 I I)<|lU (eN aB I)<|yL I<|tZ<|iP I (fun d3=>?_) (fun d3=>?_)
 ·have d4:k<rs.length:=oM;have d5:=za6 a0 oM;have i1:rs[((k:Nat):Int).toNat]?=some rs[k]:=List.getElem?_eq_getElem d4;have i2:∃ c∈l,c.id=rs[k].id:=⟨l[k]'oM,gM _,((a3.get (List.getElem?_eq_getElem oM) (List.getElem?_eq_getElem d4)).1).symm⟩;generalize rs[k]=x at *;refine kP (tN (sQ (bK (rG (lM I (lU (fA dn I cq I) (SL.K (qL (v:=.slice p l.length c) eh I (cO 2 I I)) (lM I (lU (iA aB aw I I d5 oM sL) (lU (fC ao I zT3 I d5) (SL.K (aZ (e:=encCell) (o:=0) (u:=vi x.id) iT3 I (za7 a0) i1 I) (lW (bS sty52 I I I (ab ⟨I,trivial⟩) dC) ?_))))))))))));rintro _ _ _ ⟨o2,rfl,rfl,rfl⟩;refine lW (aP (e:=encInt) (l:=B) 0 x.id sty52 I I I I I oM oM) ?_;rintro ov' _ _ ⟨rfl,rfl⟩;refine lA I (SL.nil (bN (tN (rG (lM I (yD I (lA I (SL.nil ?_))))))));exact ST.again (k+1,ov',B++[x.id]) sB I I ⟨by dsimp only; omega,by dsimp only; rw[ze7,ze9]; omega,fun z hz=>by
   dsimp only at hz
   rcases zf5.1 hz with h | h
   ·exact a4 z h
   ·simp at h; rw[h]; exact i2⟩ (by dsimp only; omega)
 clear d3;have a5:B.length<1099511627776:=oM;clear hk d2;refine xI (tX<|tX<|bX<|tN<|sQ<|fS fun g1 b9 O=>?_);obtain ⟨qI,dI,rfl⟩:=zc3 O;have O:dp g1 (.slice qI B.length dI) B:=O;have d9:=i0.mono b9;refine rG<|SL.K (qV 1 aj ae I I I)<|lW (SO.call call45 I<|py E g1 _ _ l 0 d9 N) ?_;rintro _ g2 _ ⟨rfl,a9,hV⟩;obtain ⟨pV,cV,rfl⟩:=za4 hV;have e0:=d9.mono a9;have O:=za5 O a9;refine aT I<|rZ<|SL.K (qV 1 aj ae I I I)<|lW (SO.call call45 I<|py E g2 _ _ l 1 e0 N) ?_;rintro _ g3 _ ⟨rfl,R,hW⟩;obtain ⟨pW,cW,rfl⟩:=za4 hW;have L:=e0.mono R;have O:=za5 O R;have hV:=za5 hV R;generalize CY l 0=V at *;generalize CY l 1=W at *;refine aT I<|rZ<|SL.K (qV 1 aj ae I I I)<|lW (SO.call call46 I<|vD E g3 _ _ l L N) ?_;rintro _ _ _ ⟨rfl,rfl,n0,rfl,i3⟩;have c3:=b9.trans<|a9.trans R;refine aT I<|SC.cut (ι:=Int) (fun n=>[(2,pp b2 0),(3,pp b3 0),(4,pp b4 0),(5,.slice qI B.length dI),(7,.slice pV V.length cV),(8,.slice pW W.length cW),(9,vi n)]) (fun _=>g3) (fun _=>pt b4 (.cells #[vi 0,vi 0,vi 0,vi 0,vi 0,.slice none 0 0,.slice none 0 0] 42 (0,0))::pt b3 (.cells #[.slice p l.length c] 29 (0,0))::pt b2 (.cells #[vi k0,vi ka,vi kb,vi kc] 44 (0,0))::s) (fun n=>(∀ c∈l,a7 c.id)→a7 n) ?_ ?_
 ·refine rZ<|lU (fA ir I zT3 I)<|SL.K (qL (v:=vi kc) iT3 I<|cO 2 I I)<|lU (zd9 I I dC)<|yE I<|tZ<|iP I (fun hz=>?_) (fun hz=>?_)
  ·refine rG<|lM I<|lU (fA ir I zT3 I)<|SL.K (qL (v:=vi kc) iT3 I<|cO 2 I I)<|lU (SU.quo I I dC)<|lW (SO.call call47 I<|pG E g3 _ _ B _ O a5) ?_;rintro _ _ _ ⟨rfl,rfl,n1,rfl,j0⟩;exact lA I<|SL.nil<|za9 n1 sB I I fun h=>by
    rcases j0 with e | e
    ·try dsimp only
     rw[e]; unfold a7; omega
    ·obtain ⟨c,hc,e2⟩:=a4 _ e;try dsimp only
     rw[← e2]; exact h c hc
  ·exact kP<|za9 n0 sB I I fun _=>i3
 rintro n F;try dsimp only
 refine SC.cut (ι:=Nat×PH×Cl×Rc) (fun i=>[(2,pp b2 0),(3,pp b3 0),(4,pp b4 0),(5,.slice qI B.length dI),(7,.slice pV V.length cV),(8,.slice pW W.length cW),(9,vi n),(10,pp i.1 0)]) (fun i=>i.2.1) (fun i=>pt i.1 (.cells #[vi i.2.2.2.id,vi i.2.2.2.dim,.slice i.2.2.2.sv.p i.2.2.2.sv.n i.2.2.2.sv.c] 56 (0,0))::pt b4 (.cells #[vi 0,vi 0,vi 0,vi 0,vi 0,.slice none 0 0,.slice none 0 0] 42 (0,0))::pt b3 (.cells #[.slice p l.length c] 29 (0,0))::pt b2 (.cells #[vi k0,vi ka,vi kb,vi kc] 44 (0,0))::s) (fun i=>Le g3 i.2.1∧an i.2.1 i.2.2.1 i.2.2.2∧i.2.2.1.sides.length<1099511627776) ?_ ?_
 ·refine SC.drawX [10] ze5 kR ?_;refine SX.q (i:=0) I kR (qV 1 aj ae I I I) dC<|SX.u (i:=1) I kR (mV I) dC<|SX.u (i:=2) I kR (fA ir I zT3 I) dC<|SX.q (i:=3) I kR (qL (v:=vi ka) iT3 I<|cO 2 I I) dC ?_
  repeat' (first
   | (refine SB.o (i:=4) rfl (SO.call call47 rfl<|dS E g3 _ _ B ka O a5) dC (.inr (by rintro _ _ _ ⟨rfl,rfl,m1,rfl⟩; exact⟨by exact zb9 _,(by exact .cons _<|.refl _)⟩)) ?_; rintro _ _ _ ⟨rfl,rfl,m1,rfl⟩)
   | (refine SB.o (i:=4) rfl (SO.call call47 rfl<|dS E g3 _ _ B ka O a5) dC (.inr (by rintro _ _ _ ⟨rfl,rfl,m1,rfl⟩; exact⟨by exact zb9 _,(by exact .refl _)⟩)) ?_; rintro _ _ _ ⟨rfl,rfl,m1,rfl⟩)
   | (refine SB.o (i:=5) rfl (SO.call call48 rfl<|a8 E g3 _ _ l m1 L N) dC (.inr (by rintro _ gF _ ⟨rfl,A,rF,rfl,J⟩; exact⟨by assumption,(by exact .cons _<|.refl _)⟩)) ?_; rintro _ gF _ ⟨rfl,A,rF,rfl,J⟩; refine SX.u (i:=6) I kD (mV I) dC ?_; refine SX.u (i:=7) I kD (xT I I) dC ?_; refine SX.u (i:=8) I kD (xT I I) dC ?_)
   | (refine SB.o (i:=5) rfl (SO.call call48 rfl<|a8 E g3 _ _ l m1 L N) dC (.inr (by rintro _ gF _ ⟨rfl,A,rF,rfl,J⟩; exact⟨by assumption,(by exact .refl _)⟩)) ?_; rintro _ gF _ ⟨rfl,A,rF,rfl,J⟩; refine SX.u (i:=6) I kD (mV I) dC ?_; refine SX.u (i:=7) I kD (xT I I) dC ?_; refine SX.u (i:=8) I kD (xT I I) dC ?_)
   | (refine SB.o (i:=9) rfl (aL zl7) dC (.inr (by rintro _ _ _ ⟨bF,rfl,rfl,rfl⟩; exact⟨by exact zb9 _,(by exact .cons _<|.refl _)⟩)) ?_; rintro _ _ _ ⟨bF,rfl,rfl,rfl⟩)
   | (refine SB.o (i:=9) rfl (aL zl7) dC (.inr (by rintro _ _ _ ⟨bF,rfl,rfl,rfl⟩; exact⟨by assumption,(by exact .cons _<|.refl _)⟩)) ?_; rintro _ _ _ ⟨bF,rfl,rfl,rfl⟩)
   | (refine SB.on (i:=10) I (sK 0 aw I I I I I sB) (.inl dC) ?_; rintro _ _ _ ⟨rfl,rfl⟩; refine SX.u (i:=11) I kD (aS I) dC ?_)
   | refine zd8 4 9 kD ?_ ?_
   | refine zd8 5 9 kD ?_ ?_
   | refine zd7 9 kD ?_
   | refine zd7 10 kD ?_
   | refine zd7 5 kD ?_
   | refine zd7 4 kD ?_
   | (refine SX.nil kD ?_; exact za9 (bF,gF,(findC l m1).getD aH,rF) sB I I ⟨A,J,uy N m1⟩))
 rintro ⟨y,g4,X,⟨xi,xd,xp,xn,xc⟩⟩ ⟨T,⟨-,-,c5⟩,j1⟩;dsimp only at T c5 j1 ⊢;have j2:xn=X.sides.length:=zc2 c5;subst j2;have L:=L.mono T;have O:=za5 O T;refine SC.cut (ι:=Nat×PH×Cl×Rc) (fun i=>[(2,pp b2 0),(3,pp b3 0),(4,pp b4 0),(5,.slice qI B.length dI),(7,.slice pV V.length cV),(8,.slice pW W.length cW),(9,vi n),(10,pp y 0),(12,pp i.1 0)]) (fun i=>i.2.1) (fun i=>pt i.1 (.cells #[vi i.2.2.2.id,vi i.2.2.2.dim,.slice i.2.2.2.sv.p i.2.2.2.sv.n i.2.2.2.sv.c] 56 (0,0))::pt y (.cells #[vi xi,vi xd,.slice xp X.sides.length xc] 56 (0,0))::pt b4 (.cells #[vi 0,vi 0,vi 0,vi 0,vi 0,.slice none 0 0,.slice none 0 0] 42 (0,0))::pt b3 (.cells #[.slice p l.length c] 29 (0,0))::pt b2 (.cells #[vi k0,vi ka,vi kb,vi kc] 44 (0,0))::s) (fun i=>Le g4 i.2.1∧an i.2.1 i.2.2.1 i.2.2.2∧i.2.2.1.sides.length<1099511627776) ?_ ?_
 ·refine SC.drawX [10] ze5 kR ?_;refine SX.q (i:=0) I kR (qV 2 aj ae I I I) dC<|SX.u (i:=1) I kR (mV I) dC<|SX.u (i:=2) I kR (fA ir I zT3 I) dC<|SX.q (i:=3) I kR (qL (v:=vi kb) iT3 I<|cO 3 I I) dC ?_
  repeat' (first
   | (refine SB.o (i:=4) rfl (SO.call call47 rfl<|dS E g4 _ _ B kb O a5) dC (.inr (by rintro _ _ _ ⟨rfl,rfl,m1,rfl⟩; exact⟨by exact zb9 _,(by exact .cons _<|.refl _)⟩)) ?_; rintro _ _ _ ⟨rfl,rfl,m1,rfl⟩)
   | (refine SB.o (i:=4) rfl (SO.call call47 rfl<|dS E g4 _ _ B kb O a5) dC (.inr (by rintro _ _ _ ⟨rfl,rfl,m1,rfl⟩; exact⟨by exact zb9 _,(by exact .refl _)⟩)) ?_; rintro _ _ _ ⟨rfl,rfl,m1,rfl⟩)
   | (refine SB.o (i:=5) rfl (SO.call call48 rfl<|a8 E g4 _ _ l m1 L N) dC (.inr (by rintro _ gF _ ⟨rfl,A,rF,rfl,J⟩; exact⟨by assumption,(by exact .cons _<|.refl _)⟩)) ?_; rintro _ gF _ ⟨rfl,A,rF,rfl,J⟩; refine SX.u (i:=6) I kD (mV I) dC ?_; refine SX.u (i:=7) I kD (xT I I) dC ?_; refine SX.u (i:=8) I kD (xT I I) dC ?_)
   | (refine SB.o (i:=5) rfl (SO.call call48 rfl<|a8 E g4 _ _ l m1 L N) dC (.inr (by rintro _ gF _ ⟨rfl,A,rF,rfl,J⟩; exact⟨by assumption,(by exact .refl _)⟩)) ?_; rintro _ gF _ ⟨rfl,A,rF,rfl,J⟩; refine SX.u (i:=6) I kD (mV I) dC ?_; refine SX.u (i:=7) I kD (xT I I) dC ?_; refine SX.u (i:=8) I kD (xT I I) dC ?_)
   | (refine SB.o (i:=9) rfl (aL zl7) dC (.inr (by rintro _ _ _ ⟨bF,rfl,rfl,rfl⟩; exact⟨by exact zb9 _,(by exact .cons _<|.refl _)⟩)) ?_; rintro _ _ _ ⟨bF,rfl,rfl,rfl⟩)
   | (refine SB.o (i:=9) rfl (aL zl7) dC (.inr (by rintro _ _ _ ⟨bF,rfl,rfl,rfl⟩; exact⟨by assumption,(by exact .cons _<|.refl _)⟩)) ?_; rintro _ _ _ ⟨bF,rfl,rfl,rfl⟩)
   | (refine SB.on (i:=10) I (sK 0 aw I I I I I sB) (.inl dC) ?_; rintro _ _ _ ⟨rfl,rfl⟩; refine SX.u (i:=11) I kD (aS I) dC ?_)
   | refine zd8 4 9 kD ?_ ?_
   | refine zd8 5 9 kD ?_ ?_
   | refine zd7 9 kD ?_
   | refine zd7 10 kD ?_
   | refine zd7 5 kD ?_
   | refine zd7 4 kD ?_
   | (refine SX.nil kD ?_; exact za9 (bF,gF,(findC l m1).getD aH,rF) sB I I ⟨A,J,uy N m1⟩))
 rintro ⟨C,g5,Y,⟨yi,yd,yp,yn,yc⟩⟩ ⟨M,⟨-,-,e4⟩,l0⟩;dsimp only at M e4 l0 ⊢;have l1:yn=Y.sides.length:=zc2 e4;subst l1;have c6:=L.mono M;have p0:=za5 O M;have P:=T.trans M;have b0:=za5 hV P;have e9:=za5 hW P;have b1:=za5 c5 M;have f:=c3.trans P;refine sQ<|rZ<|lU (fA ir I zT3 I)<|SL.K (qL (v:=vi k0) iT3 I<|cO 4 I I)<|lW (SO.call lQ I<|bB E g5 _ k0 10 dC) ?_;rintro _ _ _ ⟨rfl,rfl,rfl⟩;generalize bU k0 10=kd at *;refine tZ<|bK<|rZ<|yE I<|aT I<|iP I (fun h0=>?_) (fun h0=>?_)
 ·refine sW I<|lU (za3 I<|bA42 _ _)<|oZ (sK 2 eu rfl rfl rfl rfl rfl<|by (repeat' (first | exact trivial | refine⟨by rfl,?_⟩))) ?_;refine tZ<|rE<|bR<|tR ?_;exact ST.retCD 2 s (.inl I) results13 I j3 eu I I uR ⟨I,f,⟨1,n,0,0,0,[],[]⟩,⟨_,_,I,zc1 _ _,zc1 _ _⟩,by simp,by simp,fun _=>I,fun h _ _ _=>⟨fun _=>F h,fun m=>absurd (show (1:Int)=3 from m) dC⟩⟩
 ·refine rZ<|yE I<|aT I<|iP I (fun m=>?_) (fun m=>?_)
  ·refine sQ<|dW [13] [(0,2),(1,2),(2,2),(3,1),(6,2),(7,2),(8,1),(4,0),(5,2),(9,0),(10,2),(11,0),(12,2),(13,0)] ze5 kR<|yM I<|yM I<|pU I (fA ir I zT3 I)<|pK I (qL (v:=vi ka) iT3 I<|cO 4 I I)<|yM I<|pU I (fA ir I zT3 I)<|pK I (qL (v:=vi kb) iT3 I<|cO 4 I I)<|SP.o I (SO.call call47 I<|dS E g5 _ _ V ka b0 b7) dC (.inr iR) ?_;rintro _ _ _ ⟨rfl,rfl,a1,rfl⟩;refine pU I (za3 I<|buildS75 _ _)<|SP.o I (SO.call call47 I<|dS E g5 _ _ V kb b0 b7) dC (.inr iR) ?_;rintro _ _ _ ⟨rfl,rfl,a2,rfl⟩;refine pU I (za3 I<|buildS75 _ _)<|SP.o I (bS sty39 I I I (ab sB) dC) dC (.inr iR) ?_;rintro _ _ _ ⟨c7,rfl,rfl,rfl⟩;refine SP.freeze fun g6 b b5=>?_;have Q:SlA encSide g6 (.slice (some ⟨c7,0,none⟩) 2 2) [⟨a1,1⟩,⟨a2,-1⟩]:=SlA.lit b5 rfl rfl;refine pU I (za3 I<|bB42 _ _ _ _ _ _)<|SP.on rfl (sK 2 eu rfl rfl rfl rfl rfl<|by (repeat' (first | exact trivial | refine⟨by rfl,?_⟩))) (.inl dC) ?_;rintro _ _ _ ⟨rfl,rfl⟩;refine pN<|tN<|rE<|bR<|tR ?_;exact ST.retCD 2 s (.inl I) results13 I j3 eu I I uR ⟨I,f.trans b,⟨1,n,1,0,0,[⟨a1,1⟩,⟨a2,-1⟩],[]⟩,⟨_,_,I,Q,zc1 _ _⟩,by simp,by simp,fun _=>I,fun h _ _ _=>⟨fun _=>F h,fun m=>absurd (show (1:Int)=3 from m) dC⟩⟩
  ·refine rZ<|yE I<|aT I<|iP I (fun h2=>?_) (fun h2=>?_)
   ·refine SC.cut (ι:=Nat×Option Addr×Nat) (fun i=>[(2,pp b2 0),(4,pp b4 0),(14,pp i.1 0)]) (fun _=>g5) (fun i=>pt i.1 (.cells #[vi 1,vi n,vi xd,vi 0,vi 0,.slice i.2.1 X.sides.length i.2.2,.slice none 0 0] 42 (0,0))::rowA encSide 75 (.slice i.2.1 X.sides.length i.2.2) X.sides::pt C (.cells #[vi yi,vi yd,.slice yp Y.sides.length yc] 56 (0,0))::pt y (.cells #[vi xi,vi xd,.slice xp X.sides.length xc] 56 (0,0))::pt b4 (.cells #[vi 0,vi 0,vi 0,vi 0,vi 0,.slice none 0 0,.slice none 0 0] 42 (0,0))::pt b3 (.cells #[.slice p l.length c] 29 (0,0))::pt b2 (.cells #[vi k0,vi ka,vi kb,vi kc] 44 (0,0))::s) (fun _=>True) ?_ ?_
    ·refine SC.drawX [9] ze5 kR ?_;refine SX.u (i:=0) I kR (mV I) dC<|SX.u (i:=1) I kR (fA ao I zT3 I) dC<|SX.q (i:=2) I kR (qL (v:=vi xd) iT3 I<|cO (by exact 1) I I) dC ?_;refine SX.u (i:=4) I kR (fA ao I aM I) dC<|SX.q (i:=5) I kR (qL (v:=.slice xp X.sides.length xc) br I<|cO (by exact 1) I I) dC ?_;refine zd8 3 8 kR ?_ ?_
     ·refine SB.o (i:=3) I (bS sty39 I I I (ab trivial) dC) dC (.inr iR) ?_;rintro _ _ _ ⟨l2,rfl,rfl,rfl⟩;refine SX.drop (zj3 _ _) ?_;refine zd8 6 8 kR ?_ ?_
      ·refine SB.o (i:=6) I (SO.appNewA (e:=encSide) sty39 I I b1 oM oM) dC (.inr iR) ?_;rintro v98 _ _ ⟨rfl,rfl⟩;refine SX.facts fun ⟨w0,t⟩=>?_;obtain ⟨q8,d8,rfl⟩:=ag (e:=encSide) (l:=X.sides) (i:=0) t rfl;clear t w0
       first | refine SX.to (fun w U=>At.perm U<|zk3 (pt D _) _ _) ?_ | skip
       refine SX.u (i:=7) I kR (za3 I<|bB42 _ _ _ _ _ _) dC ?_;refine zd7 8 kR ?_
       ·refine SB.o (i:=8) I (aL zm3) dC (.inr iR) ?_;rintro _ _ _ ⟨D,rfl,rfl,rfl⟩;refine zd7 9 kR ?_
        ·refine SB.on (i:=9) rfl (sK 0 eu rfl rfl rfl rfl rfl<|by (repeat' (first | exact trivial | refine⟨by rfl,?_⟩))) (.inl dC) ?_;rintro _ _ _ ⟨rfl,rfl⟩;refine SX.nil kR ?_;exact za9 (D,q8,d8) sB I I trivial
      ·refine SB.o (i:=8) I (aL zm3) dC (.inr iR) ?_;rintro _ _ _ ⟨D,rfl,rfl,rfl⟩;refine zd7 6 kR ?_
       ·refine SB.o (i:=6) I (SO.appNewA (e:=encSide) sty39 I I b1 oM oM) dC (.inr iR) ?_;rintro v98 _ _ ⟨rfl,rfl⟩;refine SX.facts fun ⟨w0,t⟩=>?_;obtain ⟨q8,d8,rfl⟩:=ag (e:=encSide) (l:=X.sides) (i:=0) t rfl;clear t w0
        first | refine SX.to (fun w U=>At.perm U<|zk3 (pt D _) _ _) ?_ | skip
        refine SX.u (i:=7) I kR (za3 I<|bB42 _ _ _ _ _ _) dC ?_;refine zd7 9 kR ?_
        ·refine SB.on (i:=9) rfl (sK 0 eu rfl rfl rfl rfl rfl<|by (repeat' (first | exact trivial | refine⟨by rfl,?_⟩))) (.inl dC) ?_;rintro _ _ _ ⟨rfl,rfl⟩;refine SX.nil kR ?_;exact za9 (D,q8,d8) sB I I trivial
     ·refine SB.o (i:=8) I (aL zm3) dC (.inr iR) ?_;rintro _ _ _ ⟨D,rfl,rfl,rfl⟩;refine zd7 3 kR ?_
      ·refine SB.o (i:=3) I (bS sty39 I I I (ab trivial) dC) dC (.inr iR) ?_;rintro _ _ _ ⟨l2,rfl,rfl,rfl⟩;refine SX.drop (zj3 _ _) ?_;refine zd7 6 kR ?_
       ·refine SB.o (i:=6) I (SO.appNewA (e:=encSide) sty39 I I b1 oM oM) dC (.inr iR) ?_;rintro v98 _ _ ⟨rfl,rfl⟩;refine SX.facts fun ⟨w0,t⟩=>?_;obtain ⟨q8,d8,rfl⟩:=ag (e:=encSide) (l:=X.sides) (i:=0) t rfl;clear t w0
        first | refine SX.to (fun w U=>At.perm U<|zk3 (pt D _) _ _) ?_ | skip
        refine SX.u (i:=7) I kR (za3 I<|bB42 _ _ _ _ _ _) dC ?_;refine zd7 9 kR ?_
        ·refine SB.on (i:=9) rfl (sK 0 eu rfl rfl rfl rfl rfl<|by (repeat' (first | exact trivial | refine⟨by rfl,?_⟩))) (.inl dC) ?_;rintro _ _ _ ⟨rfl,rfl⟩;refine SX.nil kR ?_;exact za9 (D,q8,d8) sB I I trivial
    rintro ⟨D,q8,d8⟩ -;try dsimp only
    refine SC.cut (ι:=Int) (fun _=>[(2,pp b2 0),(4,pp b4 0),(14,pp D 0)]) (fun _=>g5) (fun d=>pt D (.cells #[vi 1,vi n,vi d,vi 0,vi 0,.slice q8 X.sides.length d8,.slice none 0 0] 42 (0,0))::rowA encSide 75 (.slice q8 X.sides.length d8) X.sides::pt C (.cells #[vi yi,vi yd,.slice yp Y.sides.length yc] 56 (0,0))::pt y (.cells #[vi xi,vi xd,.slice xp X.sides.length xc] 56 (0,0))::pt b4 (.cells #[vi 0,vi 0,vi 0,vi 0,vi 0,.slice none 0 0,.slice none 0 0] 42 (0,0))::pt b3 (.cells #[.slice p l.length c] 29 (0,0))::pt b2 (.cells #[vi k0,vi ka,vi kb,vi kc] 44 (0,0))::s) (fun _=>True) ?_ ?_
    ·refine rZ<|lU (fA ir I zT3 I)<|SL.K (qL (v:=vi kb) iT3 I<|cO 6 I I)<|lU (zd9 I I dC)<|yE I<|tZ<|iP I (fun hz=>?_) (fun hz=>?_)
     ·refine rG<|lU (fA a6 rfl zT3 rfl)<|SL.K (qL (v:=vi xd) iT3 rfl<|cO 0 rfl rfl)<|lU (ze2 rfl rfl)<|lU (fA a6 rfl zT3 rfl)<|oZ (SO.store1 0 zT3 rfl rfl rfl rfl (bE rfl)<|by rfl) ?_;refine SL.nil ?_;exact za9 (IntKind.i64.wrap<|xd+1) sB I I trivial
     ·exact kP<|za9 xd sB I I trivial
    rintro ed -;try dsimp only
    refine SC.cut (ι:=List ak) (fun _=>[(4,pp b4 0),(14,pp D 0)]) (fun _=>g5) (fun S=>pt D (.cells #[vi 1,vi n,vi ed,vi 0,vi 0,.slice q8 X.sides.length d8,.slice none 0 0] 42 (0,0))::rowA encSide 75 (.slice q8 X.sides.length d8) S::pt C (.cells #[vi yi,vi yd,.slice yp Y.sides.length yc] 56 (0,0))::pt y (.cells #[vi xi,vi xd,.slice xp X.sides.length xc] 56 (0,0))::pt b4 (.cells #[vi 0,vi 0,vi 0,vi 0,vi 0,.slice none 0 0,.slice none 0 0] 42 (0,0))::pt b3 (.cells #[.slice p l.length c] 29 (0,0))::pt b2 (.cells #[vi k0,vi ka,vi kb,vi kc] 44 (0,0))::s) (fun S=>S.length=X.sides.length) ?_ ?_
    ·refine SC.cutB 117 (decide (kb.tmod 9=4)&&decide (0<X.sides.length)) ?_ ?_
     ·refine rG<|lU (fA ir I zT3 I)<|SL.K (qL (v:=vi kb) iT3 I<|cO 6 I I)<|lU (zd9 I I dC)<|yE I<|lM I<|sP ?_ ?_
      ·intro f1;exact lY I I I (fA a6 I aM I)<|SL.gq (gT I I I dC) (qL (v:=.slice q8 X.sides.length d8) br I<|cO 0 I I) dC<|lY I I I (eN be I)<|lY I I I (gR I I)<|yP I<|SL.nil<|zb1 (by (simp_all[aN]; done)) mI
      ·intro f1;exact yA I<|yA I<|yA I<|yA I<|yF I<|SL.nil<|zb1 (by (simp_all[aN]; done)) mI
     refine iQ I (fun hq=>?_) (fun hq=>?_)
     ·simp only[zj5,zj8] at hq;have f2:X.sides[0]?=some (X.sides[0]'hq.2):=List.getElem?_eq_getElem hq.2;generalize X.sides[0]'hq.2=x0 at *;refine SC.facts fun ⟨w0,t⟩=>?_;obtain ⟨bu,cap,f3⟩:=bw (e:=encSide) (l:=X.sides) (i:=1) t rfl oM;obtain ⟨rfl,rfl⟩:q8=some ⟨bu,0,none⟩∧d8=cap:=by injection f3 with m _ h2; exact⟨m,h2⟩
      clear t w0 f3;refine dW [10] [(0,2),(1,1),(2,2),(3,1),(4,2),(5,2),(6,1),(7,2),(8,2),(9,2),(10,0)] ze5 kR<|pU I (fA a6 I aM I)<|pK I (qL (v:=.slice (some ⟨bu,0,none⟩) X.sides.length d8) br I<|cO 0 I I)<|pU I (fA a6 I aM I)<|pK I (qL (v:=.slice (some ⟨bu,0,none⟩) X.sides.length d8) br I<|cO 0 I I)<|pU I (iA be aY I I I oM sL)<|pU I (fA c4 I zT3 I)<|pK I (aZ (e:=encSide) (a:=x0) (j:=0) (o:=1) (u:=vi x0.sign) iT3 I (zb7 1 I) f2 I)<|pU I (SU.neg I)<|pU I (iA be aY I I I oM sL)<|pU I (fA c4 I zT3 I)<|SP.on I (SO.partA (e:=encSide) (a:=x0) (j:=0) (o:=1) 1 ⟨x0.cell,IntKind.i64.wrap<|0 - x0.sign⟩ zT3 I I I f2 I I dC I) (.inl dC) ?_;rintro _ _ _ ⟨rfl,rfl⟩;exact pN<|za9 (X.sides.set 0 ⟨x0.cell,IntKind.i64.wrap<|0 - x0.sign⟩) sB I I (by simp)
     ·exact kP<|za9 X.sides sB I I I
    rintro S hS;try dsimp only at hS ⊢
    refine rZ<|SL.K (qV 0 j3 eu I I I)<|oZ (sK 4 eu rfl rfl rfl rfl rfl<|by (repeat' (first | exact trivial | refine⟨by rfl,?_⟩))) ?_;refine tZ<|rE<|bR<|tR ?_;rw[← hS];refine ST.perm (zk3 _ _ _) (fT fun g6 b Q=>?_);exact ST.retCD 3 s (.inl I) results13 I j3 eu I I uR ⟨I,f.trans b,⟨1,n,ed,0,0,S,[]⟩,⟨_,_,I,Q,zc1 _ _⟩,by dsimp only; omega,by simp,fun _=>I,fun h _ _ _=>⟨fun _=>F h,fun m=>absurd (show (1:Int)=3 from m) dC⟩⟩
   ·refine rZ<|yE I<|aT I<|iP I (fun h3=>?_) (fun h3=>?_)
    ·refine sW I<|lU (fA ao I zT3 I)<|SL.K (qL (v:=vi xd) iT3 I<|cO 1 I I)<|lU (ze2 I I)<|lU (fA ao I zT3 I)<|SL.K (qL (v:=vi xi) iT3 I<|cO 1 I I)<|lU (za3 I<|buildS75 _ _)<|lU (fA ao I zT3 I)<|SL.K (qL (v:=vi yi) iT3 I<|cO 0 I I)<|lU (za3 I<|buildS75 _ _)<|lW (bS sty39 I I I (ab sB) dC) ?_;rintro _ _ _ ⟨c7,rfl,rfl,rfl⟩;refine zb5 fun g6 b b5=>?_;have Q:SlA encSide g6 (.slice (some ⟨c7,0,none⟩) 2 2) [⟨xi,1⟩,⟨yi,-1⟩]:=SlA.lit b5 rfl rfl;refine lU (za3 I<|bB42 _ _ _ _ _ _)<|oZ (sK 2 eu rfl rfl rfl rfl rfl<|by (repeat' (first | exact trivial | refine⟨by rfl,?_⟩))) ?_;refine tZ<|rE<|bR<|tR ?_;exact ST.retCD 2 s (.inl I) results13 I j3 eu I I uR ⟨I,f.trans b,⟨1,n,IntKind.i64.wrap<|xd+1,0,0,[⟨xi,1⟩,⟨yi,-1⟩],[]⟩,⟨_,_,I,Q,zc1 _ _⟩,by simp,by simp,fun _=>I,fun h _ _ _=>⟨fun _=>F h,fun m=>absurd (show (1:Int)=3 from m) dC⟩⟩
    ·refine rZ<|yE I<|aT I<|iP I (fun h4=>?_) (fun h4=>?_)
     ·refine sQ<|rZ<|lU (fA ir I zT3 I)<|SL.K (qL (v:=vi kb) iT3 I<|cO 4 I I)<|lU (zd9 I I dC)<|lU (nQ I I)<|tZ<|iP I (fun hz=>?_) (fun hz=>?_)
      ·refine sQ<|dW [6] [(0,1),(2,2),(3,1),(1,0),(4,0),(5,2),(6,0)] ze5 kR<|pK I (qV 3 aj ae I I I)<|pU I (fA ir I zT3 I)<|pK I (qL (v:=vi ka) iT3 I<|cO 4 I I)<|SP.o I (SO.call call49 I<|vx E g5 _ _ l c6 N) dC (.inr iR) ?_;rintro _ g6 _ ⟨rfl,b,hT⟩;obtain ⟨pT,cT,rfl⟩:=za4 hT;refine SP.o I (SO.call call47 I<|dS E g6 _ _ (wv l) ka hT h9) dC (.inr iR) ?_;rintro _ _ _ ⟨rfl,rfl,a1,rfl⟩;refine pU I (za3 I<|bA42 _ _)<|SP.on rfl (sK 2 eu rfl rfl rfl rfl rfl<|by (repeat' (first | exact trivial | refine⟨by rfl,?_⟩))) (.inl dC) ?_;rintro _ _ _ ⟨rfl,rfl⟩;refine pN<|tN<|rE<|tR<|bR<|tR ?_;exact ST.retCD 2 s (.inl I) results13 I j3 eu I I uR ⟨I,f.trans b,⟨2,a1,0,0,0,[],[]⟩,⟨_,_,I,zc1 _ _,zc1 _ _⟩,by simp,by simp,(by intro Z; exfalso; omega),fun _ _ _ _=>⟨fun m=>absurd (show (2:Int)=1 from m) dC,fun m=>absurd (show (2:Int)=3 from m) dC⟩⟩
      ·refine kP<|tN<|rZ<|lU (fA ao I zT3 I)<|SL.K (qL (v:=vi xi) iT3 I<|cO 1 I I)<|lU (za3 I<|bA42 _ _)<|oZ (sK 2 eu rfl rfl rfl rfl rfl<|by (repeat' (first | exact trivial | refine⟨by rfl,?_⟩))) ?_;refine tZ<|rE<|bR<|tR ?_;exact ST.retCD 2 s (.inl I) results13 I j3 eu I I uR ⟨I,f,⟨2,xi,0,0,0,[],[]⟩,⟨_,_,I,zc1 _ _,zc1 _ _⟩,by simp,by simp,(by intro Z; exfalso; omega),fun _ _ _ _=>⟨fun m=>absurd (show (2:Int)=1 from m) dC,fun m=>absurd (show (2:Int)=3 from m) dC⟩⟩
     ·refine SC.cut (ι:=Unit) (fun _=>[(2,pp b2 0),(3,pp b3 0),(4,pp b4 0),(7,.slice pV V.length cV),(8,.slice pW W.length cW),(9,vi n),(10,pp y 0),(12,pp C 0),(70,vi kd),(158,vb<|decide (kd=5∨kd=6))]) (fun _=>g5) (fun _=>pt C (.cells #[vi yi,vi yd,.slice yp Y.sides.length yc] 56 (0,0))::pt y (.cells #[vi xi,vi xd,.slice xp X.sides.length xc] 56 (0,0))::pt b4 (.cells #[vi 0,vi 0,vi 0,vi 0,vi 0,.slice none 0 0,.slice none 0 0] 42 (0,0))::pt b3 (.cells #[.slice p l.length c] 29 (0,0))::pt b2 (.cells #[vi k0,vi ka,vi kb,vi kc] 44 (0,0))::s) (fun _=>True) ?_ ?_
      ·refine rZ<|yE I<|aT I<|iP I (fun h5=>?_) (fun h5=>?_)
       ·exact kP<|za9 () ⟨I,I,I,I,I,I,I,I,I,by rw[decide_eq_decide.2 (show (kd=5∨kd=6)↔kd=5 from ⟨fun _=>h5,.inl⟩)]; rfl,trivial⟩ rfl rfl trivial
       ·exact rG<|yE I<|lA I<|SL.nil<|za9 () ⟨I,I,I,I,I,I,I,I,I,by rw[decide_eq_decide.2 (show (kd=5∨kd=6)↔kd=6 from ⟨fun h=>h.resolve_left h5,.inr⟩)]; rfl,trivial⟩ rfl rfl trivial
      rintro _ -;try dsimp only
      refine iP I (fun l3=>?_) (fun l3=>?_)
      ·refine SC.cut (ι:=Nat×Int) (fun i=>[(2,pp b2 0),(4,pp b4 0),(9,vi n),(10,pp y 0),(15,pp i.1 0)]) (fun _=>g5) (fun i=>pt i.1 (.cells #[vi 3,vi i.2,vi 0,vi n,vi<|IntKind.i64.wrap<|n+1,.slice none 0 0,.slice none 0 0] 42 (0,0))::pt C (.cells #[vi yi,vi yd,.slice yp Y.sides.length yc] 56 (0,0))::pt y (.cells #[vi xi,vi xd,.slice xp X.sides.length xc] 56 (0,0))::pt b4 (.cells #[vi 0,vi 0,vi 0,vi 0,vi 0,.slice none 0 0,.slice none 0 0] 42 (0,0))::pt b3 (.cells #[.slice p l.length c] 29 (0,0))::pt b2 (.cells #[vi k0,vi ka,vi kb,vi kc] 44 (0,0))::s) (fun _=>True) ?_ ?_
       ·refine rG<|lM I<|lU (fA ir I zT3 I)<|SL.K (qL (v:=vi ka) iT3 I<|cO 4 I I)<|lW (SO.call call47 I<|dS E g5 _ _ W ka e9 c2) ?_;rintro _ _ _ ⟨rfl,rfl,a1,rfl⟩;refine lM I (lM I<|lU (ze2 I I)<|lU (za3 I<|bC42 _ _ _ _)<|bW (aL zm3) fun b8=>?_);refine oZ (sK 0 eu rfl rfl rfl rfl rfl<|by (repeat' (first | exact trivial | refine⟨by rfl,?_⟩))) ?_;refine SL.nil ?_;exact za9 (b8,a1) sB I I trivial
       rintro ⟨b8,a1⟩ -;try dsimp only
       refine SC.cut (ι:=Int×Int×Int) (fun _=>[(4,pp b4 0),(15,pp b8 0)]) (fun _=>g5) (fun i=>pt b8 (.cells #[vi 3,vi i.1,vi 0,vi i.2.1,vi i.2.2,.slice none 0 0,.slice none 0 0] 42 (0,0))::pt C (.cells #[vi yi,vi yd,.slice yp Y.sides.length yc] 56 (0,0))::pt y (.cells #[vi xi,vi xd,.slice xp X.sides.length xc] 56 (0,0))::pt b4 (.cells #[vi 0,vi 0,vi 0,vi 0,vi 0,.slice none 0 0,.slice none 0 0] 42 (0,0))::pt b3 (.cells #[.slice p l.length c] 29 (0,0))::pt b2 (.cells #[vi k0,vi ka,vi kb,vi kc] 44 (0,0))::s) (fun i=>(∀ c∈l,a7 c.id)→a7 i.2.1∧a7 i.2.2) ?_ ?_
       ·refine rZ<|lU (fA ir I zT3 I)<|SL.K (qL (v:=vi kb) iT3 I<|cO 5 I I)<|lW (SO.call lQ I<|bB E g5 _ kb 12 dC) ?_;rintro _ _ _ ⟨rfl,rfl,rfl⟩;generalize bU kb 12=kt at *;refine tZ<|bK<|rZ<|yE I<|aT I<|iP I (fun k0=>?_) (fun k0=>?_)
        ·refine rG<|lU (fA ao rfl zT3 rfl)<|SL.K (qL (v:=vi xi) iT3 rfl<|cO 2 rfl rfl)<|lU (fA a6 rfl zT3 rfl)<|oZ (SO.store1 0 zT3 rfl rfl rfl rfl (bE rfl)<|by rfl) ?_;refine SL.nil<|bN ?_;exact za9 (xi,n,IntKind.i64.wrap<|n+1) sB I I fun h=>⟨F h,jd _⟩
        ·refine rZ<|yE I<|aT I<|iP I (fun k1=>?_) (fun k1=>?_)
         ·refine rG<|lU (fA a6 rfl zT3 rfl)<|SL.K (qL (v:=vi<|IntKind.i64.wrap<|n+1) iT3 rfl<|cO 0 rfl rfl)<|lU (fA a6 rfl zT3 rfl)<|oZ (SO.store1 0 zT3 rfl rfl rfl rfl (bE rfl)<|by rfl) ?_;refine SL.nil<|bN ?_;exact za9 (a1,IntKind.i64.wrap<|n+1,IntKind.i64.wrap<|n+1) sB I I fun h=>⟨jd _,jd _⟩
         ·refine rZ<|yE I<|aT I<|iP I (fun k2=>?_) (fun k2=>?_)
          ·refine rG<|lU (fA ir rfl zT3 rfl)<|SL.K (qL (v:=vi ka) iT3 rfl<|cO 5 rfl rfl)<|lU (SU.neg rfl)<|lU (fA a6 rfl zT3 rfl)<|oZ (SO.store1 0 zT3 rfl rfl rfl rfl (bE rfl)<|by rfl) ?_;refine SL.nil<|bN ?_;exact za9 (a1,n,IntKind.i64.wrap<|0 - ka) sB I I fun h=>⟨F h,jd _⟩
          ·refine rZ<|yE I<|aT I<|iP I (fun k3=>?_) (fun k3=>?_)
           ·refine sW rfl<|lU (ze2 rfl rfl)<|lU (fA a6 rfl zT3 rfl)<|oZ (SO.store1 0 zT3 rfl rfl rfl rfl (bE rfl)<|by rfl) ?_;refine tZ<|rG<|lM rfl<|lU (fA a6 rfl zT3 rfl)<|oZ (SO.store1 0 zT3 rfl rfl rfl rfl (bE rfl)<|by rfl) ?_;refine SL.nil<|bN ?_;exact za9 (a1,IntKind.i64.wrap<|n+1,n) sB I I fun h=>⟨jd _,F h⟩
           ·exact kP<|bN<|za9 (a1,n,IntKind.i64.wrap<|n+1) sB I I fun h=>⟨F h,jd _⟩
       rintro ⟨e1,e2,e3⟩ c0;try dsimp only at c0 ⊢
       refine rZ<|SL.K (qV 0 j3 eu I I I)<|oZ (sK 3 eu rfl rfl rfl rfl rfl<|by (repeat' (first | exact trivial | refine⟨by rfl,?_⟩))) ?_;refine tZ<|rE<|bR<|tR ?_;exact ST.retCD 3 s (.inl I) results13 I j3 eu I I uR ⟨I,f,⟨3,e1,0,e2,e3,[],[]⟩,⟨_,_,I,zc1 _ _,zc1 _ _⟩,by simp,by simp,(by intro Z; exfalso; omega),fun h ha _ _=>⟨fun m=>absurd (show (3:Int)=1 from m) dC,fun _=>c0 h⟩⟩
      ·refine rZ<|yE I<|aT I<|iP I (fun h7=>?_) (fun h7=>?_)
       ·refine SC.cut (ι:=Nat×Option Addr×Nat×List Pr) (fun i=>[(2,pp b2 0),(3,pp b3 0),(4,pp b4 0),(7,.slice pV V.length cV),(8,.slice pW W.length cW),(16,pp i.1 0)]) (fun _=>g5) (fun i=>pt i.1 (.cells #[vi 4,vi 0,vi 0,vi 0,vi 0,.slice none 0 0,.slice i.2.1 i.2.2.2.length i.2.2.1] 42 (0,0))::rowA dZ 76 (.slice i.2.1 i.2.2.2.length i.2.2.1) i.2.2.2::pt C (.cells #[vi yi,vi yd,.slice yp Y.sides.length yc] 56 (0,0))::pt y (.cells #[vi xi,vi xd,.slice xp X.sides.length xc] 56 (0,0))::pt b4 (.cells #[vi 0,vi 0,vi 0,vi 0,vi 0,.slice none 0 0,.slice none 0 0] 42 (0,0))::pt b3 (.cells #[.slice p l.length c] 29 (0,0))::pt b2 (.cells #[vi k0,vi ka,vi kb,vi kc] 44 (0,0))::s) (fun i=>i.2.2.2.length≤1) ?_ ?_
        ·refine rG<|lU (fA ao I zT3 I)<|SL.K (qL (v:=vi xi) iT3 I<|cO 1 I I)<|lU (fA ao I zT3 I)<|SL.K (qL (v:=vi yi) iT3 I<|cO 0 I I)<|lU (za3 I<|build76 _ _)<|lW (bS sty40 I I I (ab ⟨I,trivial⟩) dC) ?_;rintro _ _ _ ⟨f4,rfl,rfl,rfl⟩;refine SL.to (fun w U=>At.litRow (e:=dZ) (l:=[(xi,yi)]) (n:=0) U I I dC) ?_;refine lU (za3 I<|bD42 _ _ _ _) (bW (aL zm3) fun H=>?_);refine oZ (sK 0 eu rfl rfl rfl rfl rfl<|by (repeat' (first | exact trivial | refine⟨by rfl,?_⟩))) ?_;refine SL.nil ?_;exact za9 (H,some ⟨f4,0,none⟩,1,[(xi,yi)]) sB I I<|Nat.le_refl 1
        rintro ⟨H,q6,d6,P6⟩ G;dsimp only at G ⊢;refine SC.cut (ι:=Option Addr×Nat×List Pr) (fun _=>[(2,pp b2 0),(3,pp b3 0),(4,pp b4 0),(7,.slice pV V.length cV),(8,.slice pW W.length cW),(16,pp H 0)]) (fun i=>g5) (fun i=>pt H (.cells #[vi 4,vi 0,vi 0,vi 0,vi 0,.slice none 0 0,.slice i.1 i.2.2.length i.2.1] 42 (0,0))::rowA dZ 76 (.slice i.1 i.2.2.length i.2.1) i.2.2::pt C (.cells #[vi yi,vi yd,.slice yp Y.sides.length yc] 56 (0,0))::pt y (.cells #[vi xi,vi xd,.slice xp X.sides.length xc] 56 (0,0))::pt b4 (.cells #[vi 0,vi 0,vi 0,vi 0,vi 0,.slice none 0 0,.slice none 0 0] 42 (0,0))::pt b3 (.cells #[.slice p l.length c] 29 (0,0))::pt b2 (.cells #[vi k0,vi ka,vi kb,vi kc] 44 (0,0))::s) (fun i=>i.2.2.length≤1) ?_ ?_
        ·refine rZ<|lU (fA ir I zT3 I)<|SL.K (qL (v:=vi kb) iT3 I<|cO 6 I I)<|lU (zd9 I I dC)<|yE I<|tZ<|iP I (fun hz=>?_) (fun hz=>?_)
         ·refine dW [12] [(0,2),(1,2),(2,1),(4,2),(5,2),(6,1),(7,2),(3,0),(8,0),(9,2),(10,0),(11,2),(12,0)] ze5 kR<|yM I<|pU I (fA ir I zT3 I)<|pK I (qL (v:=vi ka) iT3 I<|cO 6 I I)<|yM I<|pU I (fA ir I zT3 I)<|pK I (qL (v:=vi kb) iT3 I<|cO 6 I I)<|pU I (SU.quo I I dC)<|SP.o I (SO.call call47 I<|dS E g5 _ _ V ka b0 b7) dC (.inr iR) ?_;rintro _ _ _ ⟨rfl,rfl,a1,rfl⟩;refine SP.o I (SO.call call47 I<|dS E g5 _ _ V _ b0 b7) dC (.inr iR) ?_;rintro _ _ _ ⟨rfl,rfl,a2,rfl⟩;refine pU I (za3 I<|build76 _ _)<|SP.o I (bS sty40 I I I (ab ⟨I,trivial⟩) dC) dC (.inr iR) ?_;rintro _ _ _ ⟨f5,rfl,rfl,rfl⟩;refine SP.to (fun w U=>At.litRow (e:=dZ) (l:=[(a1,a2)]) (n:=0) U I I dC) ?_;refine SP.drop (.cons_cons _<|.cons_cons _<|.cons _<|.refl _) ?_;refine SP.to (fun w U=>At.perm U<|zk3 (pt H _) _ _) ?_;refine pU rfl (fA a6 rfl kH rfl)<|SP.on rfl (SO.store1 0 kH rfl rfl rfl rfl (bE rfl)<|by rfl) (.inl dC) ?_;rintro _ _ _ ⟨rfl,rfl⟩;refine pN ?_;exact za9 (some ⟨f5,0,none⟩,1,[(a1,a2)]) sB I I<|Nat.le_refl 1
         ·exact kP<|za9 (q6,d6,P6) sB I I G
        clear G;rintro ⟨q6,d6,P6⟩ G;dsimp only at G ⊢;refine SC.cut (ι:=PH×Option Addr×Nat×List Pr) (fun _=>[(2,pp b2 0),(3,pp b3 0),(4,pp b4 0),(7,.slice pV V.length cV),(8,.slice pW W.length cW),(16,pp H 0)]) (fun i=>i.1) (fun i=>pt H (.cells #[vi 4,vi 0,vi 0,vi 0,vi 0,.slice none 0 0,.slice i.2.1 i.2.2.2.length i.2.2.1] 42 (0,0))::rowA dZ 76 (.slice i.2.1 i.2.2.2.length i.2.2.1) i.2.2.2::pt C (.cells #[vi yi,vi yd,.slice yp Y.sides.length yc] 56 (0,0))::pt y (.cells #[vi xi,vi xd,.slice xp X.sides.length xc] 56 (0,0))::pt b4 (.cells #[vi 0,vi 0,vi 0,vi 0,vi 0,.slice none 0 0,.slice none 0 0] 42 (0,0))::pt b3 (.cells #[.slice p l.length c] 29 (0,0))::pt b2 (.cells #[vi k0,vi ka,vi kb,vi kc] 44 (0,0))::s) (fun i=>Le g5 i.1∧i.2.2.2.length≤1) ?_ ?_
        ·refine rZ<|lU (fA ir I zT3 I)<|SL.K (qL (v:=vi kb) iT3 I<|cO 6 I I)<|lU (zd9 I I dC)<|yE I<|tZ<|iP I (fun hz=>?_) (fun hz=>?_)
         ·refine rG<|SL.K (qV 5 aj ae I I I)<|lU (fA ir I zT3 I)<|SL.K (qL (v:=vi ka) iT3 I<|cO 6 I I)<|lW (SO.call call50 I<|Aq E g5 _ _ l ka c6 N) ?_;rintro v228 g6 _ ⟨Q6,rfl,b,l4⟩;refine zd4 fun ⟨w0,t⟩=>?_;obtain ⟨q7,d7,rfl⟩:=ag (e:=dZ) (l:=Q6) (i:=0) t rfl;clear t w0;refine SL.drop (.cons_cons _<|.cons_cons _<|.cons _<|.refl _) ?_;refine SL.to (fun w U=>At.perm U<|zk3 (pt H _) _ _) ?_;refine lU (fA a6 rfl kH rfl)<|oZ (SO.store1 0 kH rfl rfl rfl rfl (bE rfl)<|by rfl) ?_;refine SL.nil ?_;exact za9 (g6,q7,d7,Q6) sB I I ⟨b,l4⟩
         ·exact kP<|za9 (g5,q6,d6,P6) sB I I ⟨zb9 _,G⟩
        clear G;rintro ⟨g6,q6,d6,P6⟩ ⟨b,G⟩;dsimp only at b G ⊢;have p3:=za5 b0 b;have f6:=za5 e9 b;refine SC.cut (ι:=PH×Option Addr×Nat×List Pr) (fun _=>[(4,pp b4 0),(16,pp H 0)]) (fun i=>i.1) (fun i=>pt H (.cells #[vi 4,vi 0,vi 0,vi 0,vi 0,.slice none 0 0,.slice i.2.1 i.2.2.2.length i.2.2.1] 42 (0,0))::rowA dZ 76 (.slice i.2.1 i.2.2.2.length i.2.2.1) i.2.2.2::pt C (.cells #[vi yi,vi yd,.slice yp Y.sides.length yc] 56 (0,0))::pt y (.cells #[vi xi,vi xd,.slice xp X.sides.length xc] 56 (0,0))::pt b4 (.cells #[vi 0,vi 0,vi 0,vi 0,vi 0,.slice none 0 0,.slice none 0 0] 42 (0,0))::pt b3 (.cells #[.slice p l.length c] 29 (0,0))::pt b2 (.cells #[vi k0,vi ka,vi kb,vi kc] 44 (0,0))::s) (fun i=>i.1=g6∧i.2.2.2.length≤2) ?_ ?_
        ·refine rZ<|lU (fA ir I zT3 I)<|SL.K (qL (v:=vi kc) iT3 I<|cO 6 I I)<|lU (zd9 I I dC)<|yE I<|tZ<|iP I (fun hz=>?_) (fun hz=>?_)
         ·refine dW [12,14] [(0,2),(1,1),(2,2),(3,2),(4,1),(6,2),(7,2),(8,1),(5,0),(9,0),(10,2),(11,0),(12,0),(13,2),(14,0)] ze5 kR<|pU I (fA a6 I kH I)<|pK I (qL (v:=.slice q6 P6.length d6) nB I<|cO 0 I I)<|yM I<|pU I (fA ir I zT3 I)<|pK I (qL (v:=vi ka) iT3 I<|cO 6 I I)<|yM I<|pU I (fA ir I zT3 I)<|pK I (qL (v:=vi kb) iT3 I<|cO 6 I I)<|SP.o I (SO.call call47 I<|dS E g6 _ _ W ka f6 c2) dC (.inr iR) ?_;rintro _ _ _ ⟨rfl,rfl,a1,rfl⟩;refine SP.o I (SO.call call47 I<|dS E g6 _ _ W kb f6 c2) dC (.inr iR) ?_;rintro _ _ _ ⟨rfl,rfl,a2,rfl⟩;refine pU I (za3 I<|build76 _ _)<|SP.o I (bS sty40 I I I (ab ⟨I,trivial⟩) dC) dC (.inr iR) ?_;rintro _ _ _ ⟨n7,rfl,rfl,rfl⟩;refine SP.o I (aP (e:=dZ) (l:=P6) 1 (a1,a2) sty40 I I I I I oM oM) dC (.inl dC) ?_;rintro v246 _ _ ⟨rfl,rfl⟩;refine zd3 fun ⟨w0,t⟩=>?_;obtain ⟨q7,d7,rfl⟩:=ag (e:=dZ) (l:=P6++[(a1,a2)]) (i:=1) t rfl;clear t w0;refine pU rfl (fA a6 rfl kH rfl)<|SP.on rfl (SO.store1 0 kH rfl rfl rfl rfl (bE rfl)<|by rfl) (.inl dC) ?_;rintro _ _ _ ⟨rfl,rfl⟩;refine pN ?_;exact za9 (g6,q7,d7,P6++[(a1,a2)]) sB I I ⟨I,by dsimp only; rw[ze7,ze9]; omega⟩
         ·exact kP<|za9 (g6,q6,d6,P6) sB I I ⟨I,by dsimp only; omega⟩
        clear G;rintro ⟨g7,q6,d6,P6⟩ ⟨f7,G⟩;dsimp only at f7 G ⊢;subst f7;refine rZ<|SL.K (qV 0 j3 eu I I I)<|oZ (sK 4 eu rfl rfl rfl rfl rfl<|by (repeat' (first | exact trivial | refine⟨by rfl,?_⟩))) ?_;refine tZ (rE<|bR<|tR<|ST.perm (zk3 _ _ _)<|fT fun g8 f8 m2=>?_);exact ST.retCD 3 s (.inl I) results13 I j3 eu I I uR ⟨I,f.trans<|b.trans f8,⟨4,0,0,0,0,[],P6⟩,⟨_,_,I,zc1 _ _,m2⟩,by simp,by dsimp only; omega,(by intro Z; exfalso; omega),fun _ _ _ _=>⟨fun m=>absurd (show (4:Int)=1 from m) dC,fun m=>absurd (show (4:Int)=3 from m) dC⟩⟩
       ·refine rZ<|yE I<|aT I<|iP I (fun h8=>?_) (fun h8=>?_)
        ·refine rZ<|SL.K (qV 3 aj ae I I I)<|lW (SO.call call51 I<|xe E g5 _ _ l c6 N) ?_;rintro v252 g6 _ ⟨rfl,b,F8,c9,p5⟩;obtain ⟨pF,cF,rfl⟩:=za4 c9;have b6:=f.trans b;refine aT I<|SC.cut (ι:=Unit) (fun _=>[(4,pp b4 0),(10,pp y 0),(12,pp C 0)]) (fun _=>g6) (fun _=>pt C (.cells #[vi yi,vi yd,.slice yp Y.sides.length yc] 56 (0,0))::pt y (.cells #[vi xi,vi xd,.slice xp X.sides.length xc] 56 (0,0))::pt b4 (.cells #[vi 0,vi 0,vi 0,vi 0,vi 0,.slice none 0 0,.slice none 0 0] 42 (0,0))::pt b3 (.cells #[.slice p l.length c] 29 (0,0))::pt b2 (.cells #[vi k0,vi ka,vi kb,vi kc] 44 (0,0))::s) (fun _=>True) ?_ ?_
         ·refine SC.cutB 261 (decide (0<F8.length)&&decide (kb.tmod 5≠0)) ?_ ?_
          ·refine rG<|lM I<|lU (eN mJ I)<|lU (gR I I)<|lM I<|sP ?_ ?_
           ·intro f9;exact lY I I I (fA ir I zT3 I)<|SL.gq (gT I I I dC) (qL (v:=vi kb) iT3 I<|cO 4 I I) dC<|lY I I I (zd9 I I dC)<|lY I I I (nQ I I)<|yP I<|SL.nil<|zb1 (by (simp_all[aN]; done)) mI
           ·intro f9;exact yA I<|yA I<|yA I<|yA I<|yF I<|SL.nil<|zb1 (by (simp_all[aN]; done)) mI
          refine iQ I (fun hq=>?_) (fun hq=>?_)
          ·simp only[zj5,zj8] at hq;obtain ⟨m3,m4⟩:=sI ka F8.length oM oM;have n2:=za6 c9 hq.1;have n3:F8[(bU ka F8.length).toNat]?=some F8[(bU ka F8.length).toNat]:=List.getElem?_eq_getElem m4;generalize F8[(bU ka F8.length).toNat]=pr at *;obtain ⟨p1,p2⟩:=pr;refine sW I<|lU (fA ir I zT3 I)<|SL.K (qL (v:=vi ka) iT3 I<|cO 4 I I)<|lM I<|lU (eN mJ I)<|lW (SO.call lQ I<|bB E g6 _ ka F8.length oM) ?_;rintro _ _ _ ⟨rfl,rfl,rfl⟩;rw[m3];refine lU (iA mJ p4 I I n2 oM sL) (SL.K (SQ.elemA isAgg76 p4 I (za7 c9) n3)<|bW (aL zeroValue76) fun p6=>?_);refine oZ (sK 0 p4 I I I I I sB)<|tZ<|rZ<|lU (iB qw zT3 I I dC dC)<|SL.K (qL (v:=vi p1) iT3 I<|cO 0 I I)<|lU (iB qw zT3 I I dC dC)<|SL.K (qL (v:=vi p2) iT3 I<|cO 0 I I)<|lU (za3 I<|bE42 _ _ _)<|oZ (sK 3 eu rfl rfl rfl rfl rfl<|by (repeat' (first | exact trivial | refine⟨by rfl,?_⟩))) ?_;refine tZ<|rE<|tR<|bR<|tR ?_;exact ST.retCD 3 s (.inl I) results13 I j3 eu I I uR ⟨I,b6,⟨5,p1,0,0,p2,[],[]⟩,⟨_,_,I,zc1 _ _,zc1 _ _⟩,by simp,by simp,(by intro Z; exfalso; omega),fun _ _ _ _=>⟨fun m=>absurd (show (5:Int)=1 from m) dC,fun m=>absurd (show (5:Int)=3 from m) dC⟩⟩
          ·exact kP<|za9 () sB I I trivial
         rintro _ -;try dsimp only
         refine rZ<|lU (fA ao I zT3 I)<|SL.K (qL (v:=vi xi) iT3 I<|cO 1 I I)<|lU (fA ao I zT3 I)<|SL.K (qL (v:=vi yi) iT3 I<|cO 0 I I)<|lU (za3 I<|bE42 _ _ _)<|oZ (sK 2 eu rfl rfl rfl rfl rfl<|by (repeat' (first | exact trivial | refine⟨by rfl,?_⟩))) ?_;refine tZ<|rE<|bR<|tR ?_;exact ST.retCD 2 s (.inl I) results13 I j3 eu I I uR ⟨I,b6,⟨5,xi,0,0,yi,[],[]⟩,⟨_,_,I,zc1 _ _,zc1 _ _⟩,by simp,by simp,(by intro Z; exfalso; omega),fun _ _ _ _=>⟨fun m=>absurd (show (5:Int)=1 from m) dC,fun m=>absurd (show (5:Int)=3 from m) dC⟩⟩
        ·refine kP<|bN<|tN<|rZ<|lU (fA ir I zT3 I)<|SL.K (qL (v:=vi ka) iT3 I<|cO 4 I I)<|lU (zd9 I I dC)<|lU (SU.subW I I)<|lU (fA ir I zT3 I)<|SL.K (qL (v:=vi kb) iT3 I<|cO 4 I I)<|lU (fA ir I zT3 I)<|SL.K (qL (v:=vi kc) iT3 I<|cO 4 I I)<|lU (zd9 I I dC)<|lU (fA ir I zT3 I)<|SL.K (qL (v:=vi ka) iT3 I<|cO 4 I I)<|lU (fA ir I zT3 I)<|SL.K (qL (v:=vi kc) iT3 I<|cO 4 I I)<|lU (fA ir I zT3 I)<|SL.K (qL (v:=vi kb) iT3 I<|cO 4 I I)<|lU (za3 I<|buildS75 _ _)<|lW (bS sty39 I I I (ab ⟨I,trivial⟩) dC) ?_;rintro _ _ _ ⟨g9,rfl,rfl,rfl⟩;refine zb5 fun g6 b b5=>?_;have Q:SlA encSide g6 (.slice (some ⟨g9,0,none⟩) 1 1) [⟨kb,1⟩]:=SlA.lit b5 rfl rfl;refine lU (fA ir I zT3 I)<|SL.K (qL (v:=vi ka) iT3 I<|cO 4 I I)<|lU (fA ir I zT3 I)<|SL.K (qL (v:=vi kc) iT3 I<|cO 4 I I)<|lU (za3 I<|build76 _ _)<|lW (bS sty40 I I I (ab ⟨I,trivial⟩) dC) ?_;rintro _ _ _ ⟨h6,rfl,rfl,rfl⟩;refine zb5 fun g7 c1 n5=>?_;have n6:SlA dZ g7 (.slice (some ⟨h6,0,none⟩) 1 1) [(ka,kc)]:=SlA.lit n5 rfl rfl;refine lU (za3 I<|bF42 _ _ _ _ _ _ _ _ _ _ _)<|oZ (sK 2 eu rfl rfl rfl rfl rfl<|by (repeat' (first | exact trivial | refine⟨by rfl,?_⟩))) ?_;refine tZ<|rE ?_;exact ST.retCD 2 s (.inl I) results13 I j3 eu I I uR ⟨I,f.trans<|b.trans c1,⟨_,kb,_,ka,kc,[⟨kb,1⟩],[(ka,kc)]⟩,⟨_,_,I,za5 Q c1,n6⟩,by simp,by simp,(by intro Z; exfalso; omega),fun _ ha hb hc=>⟨fun _=>hb,fun _=>⟨ha,hc⟩⟩⟩
set_option maxHeartbeats 1000000
def incS (S:List ak)(r:Int):Int:=(S.map fun y=>if y.cell=r then y.sign else 0).sum
def inc (A:List Cl)(id r:Int):Int:=incS ((ah A id).getD aH).sides r
def cf (ts:List Tm)(r:Int):Int:=(ts.map fun t=>if t.1=r then t.2 else 0).sum
def chL (D:List Cl)(ts:List Tm)(r:Int):Int:=(ts.map fun t=>t.2 * inc D t.1 r).sum
def chR (img:Int→List Tm)(S:List ak)(r:Int):Int:=(S.map fun y=>y.sign * cf (img y.cell) r).sum
def Fv (A D:List Cl)(img:Int→List Tm):Prop:=∀ x∈A,∀ r,chL D (img x.id) r=chR img x.sides r
theorem F4 (e:Ed)(a:Int)(y:Cl):(bH e a y).id=y.id:=by unfold bH; split <;> rfl
theorem pg {A:List Cl}{e:Ed}(h:Rt A)(a:eH A e=0):∃ c,c∈A∧c.id=e.cell∧ah A e.cell=some c∧c.dim=1 ∧
  dK A e=[⟨e.new,0,[]⟩,⟨e.other,1,[⟨e.new,-1⟩,⟨(kM c.sides true).cell,1⟩]⟩]++A.map (bH e (kM c.sides false).cell):=by
 unfold eH at a;cases b:ah A e.cell with
 | none=>rw[b] at a; cases a
 | some c =>
  rw[b] at a;dsimp only at a;obtain ⟨d,f⟩:=aG b;have hd:c.dim=1:=by
   by_cases hd:c.dim=1
   ·exact hd
   ·rw[zg3 hd] at a; cases a
  exact⟨c,d,f,I,hd,by unfold dK; rw[h.findC,b]; rfl⟩
theorem sz {A:List Cl}{ks:List Int}{c:Cl}:c∈cN A ks↔c∈A∧c.id ∉ ks:=by
 unfold cN;rw[zh6];simp
theorem rJ {A:List Cl}{e:Ed}(h:bG A e=0):e.kind=1∨e.kind=2∨e.kind=3∨e.kind=4∨e.kind=5:=by
 unfold bG at h;split at h
 ·omega
 split at h
 ·omega
 split at h
 ·omega
 split at h
 ·omega
 split at h
 ·omega
 cases h
def Gs (D:List Cl)(d:Int)(ts:List Tm):Prop:=(ts.Pairwise fun a b=>a.1<b.1)∧(∀ t∈ts,t.2=1∨t.2 = -1)∧(∀ t∈ts,∃ c,ah D t.1=some c∧c.dim=d)∧ts.length≤64
structure GM (l m:List Cl)(img:Int→List Tm):Prop where
 cl:(ap l).2=0
 cm:(ap m).2=0
 fit:∀ x∈aa l,Gs (aa m) x.dim<|img x.id
 chain:Fv (aa l) (aa m) img
section
variable {l m:List Cl}{img:Int→List Tm}(h:GM l m img)
include h
end
theorem Ee (acc:List Cl)(c:Cl):∃ d∈gt acc c,d.id=c.id:=by
 unfold gt;split
 ·rename_i h;obtain ⟨x,a,b⟩:=zk1.1 h;exact⟨x,a,by simpa using b⟩
 ·exact⟨c,by simp,I⟩
theorem CM {acc:List Cl}{x:Cl}(h:x∈acc)(c:Cl):x∈gt acc c:=by
 unfold gt;split
 ·exact h
 ·simp[h]
theorem rv:∀ (l:List Cl) {acc:List Cl} {x:Cl},x∈acc→x∈l.foldl gt acc
 | [],_,_,h=>h
 | c::l,_,_,h=>rv l<|CM h c
theorem ux:∀ (l acc:List Cl) {x:Cl},x∈l→∃ d∈l.foldl gt acc,d.id=x.id
 | c::l,acc,x,h=>by
  rcases zf3.1 h with rfl | h
  ·obtain ⟨d,a,b⟩:=Ee acc x;exact⟨d,rv l a,b⟩
  ·exact ux l _ h
theorem Db {l:List Cl}{c:Cl}(h:c∈l):∃ d∈am l,d.id=c.id:=by
 have a:ci c∈aa l:=by
  unfold aa;exact zf4.2 ⟨c,(fG (key:=Cl.id) l).mem_iff.2 h,I⟩
 have b:=ux _ [] a;exact b
def gV (Ls:List (List Cl)):List Int:=(am Ls.flatten).map Cl.id
theorem lG (Ls:List (List Cl)):(gV Ls).Pairwise (· < ·):=by
 have a:=fF Ls.flatten;have b:=iW Ls.flatten;exact (a.and b).imp fun h=>by have:=h.1; have:=h.2; omega
theorem s7 {Ls:List (List Cl)}{id:Int}:id∈gV Ls↔∃ A∈Ls,∃ c∈A,c.id=id:=by
 unfold gV;constructor
 ·intro h;obtain ⟨c,a,rfl⟩:=zf4.1 h;obtain ⟨d,hd,b⟩:=EO a;obtain ⟨A,hA,e⟩:=List.mem_flatten.1 hd;exact⟨A,hA,d,e,b⟩
 ·rintro ⟨A,hA,c,a,rfl⟩;obtain ⟨d,hd,b⟩:=Db<|List.mem_flatten.2 ⟨A,hA,a⟩;exact zf4.2 ⟨d,hd,b⟩
def df (A B:List Cl)(id:Int):Bool:=decide (ah A id=ah B id)
def pickT (B L R:List Cl)(id:Int):Option (Option Cl) :=
 if df L R id||df R B id then some (ah L id) else if df L B id then some (ah R id) else none
def fU (B L R:List Cl):List Int:=(gV [B,L,R]).filter fun id=>(pickT B L R id).isNone
def ij (B L R:List Cl):List Cl:=(gV [B,L,R]).filterMap fun id=>(pickT B L R id).join
def jA (S:List Cl)(x:Cl):Bool:=x.sides.any fun s=>match ah S s.cell with
 | none=>true
 | some y=>decide (y.dim≠x.dim - 1)
def jP (S:List Cl)(x:Cl):Bool:=decide (x.dim>1)&&decide (bC S x≠0)
def cj (w:Cl→Bool)(S:List Cl):List Int:=(S.filter w).map Cl.id
def eR (B L R:List Cl):List Cl×List Int :=
 if fU B L R≠[] then ([],fU B L R)
 else if cj (jA<|ij B L R) (ij B L R)≠[] then ([],cj (jA<|ij B L R)<|ij B L R)
 else if cj (jP<|ij B L R) (ij B L R)≠[] then ([],cj (jP<|ij B L R)<|ij B L R)
 else if 4000<(ij B L R).length then ([],cj (fun x=>(ah B x.id).isNone)<|ij B L R)
 else (ij B L R,[])
theorem qG {A:List Cl}(h:Rt A):∀ {I0:List Int},I0.Pairwise (· < ·)→(∀ c∈A,c.id∈I0)→I0.filterMap (ah A)=A:=fun {I0} k hA=>by
 have j:(I0.filterMap<|ah A).Pairwise fun a b=>a.id<b.id:=by
  rw[List.pairwise_filterMap];exact k.imp fun {a b} f c g d hd=>by
   rw[(aG g).2,(aG hd).2];exact f
 have i:∀ {l:List Cl},(l.Pairwise fun a b=>a.id<b.id)→l.Nodup:=fun h=>h.imp fun f e=>by rw[e] at f; omega
 have m:(I0.filterMap<|ah A).Perm A:=(List.perm_ext_iff_of_nodup (i j)<|i h.asc).2 fun c=>by
  rw[List.mem_filterMap];constructor
  ·rintro ⟨id,_,g⟩;exact (aG g).1
  ·exact fun g=>⟨c.id,hA c g,h.find g⟩
 exact m.eq_of_pairwise (fun a b _ _ j n=>by omega) j h.asc
theorem Dm {A:List Cl}(h:Rt A):cj (jA A) A=[]:=by
 unfold cj;rw[List.filter_eq_nil_iff.2,List.map_nil];intro x a hl;obtain ⟨s,b,hb⟩:=zk1.1 hl;obtain ⟨d,c,e⟩:=(h.form x a).found s b;rw[c] at hb;simp[e] at hb
theorem E8 {A:List Cl}(h:Rt A):cj (jP A) A=[]:=by
 unfold cj;rw[List.filter_eq_nil_iff.2,List.map_nil];intro x a hl;unfold jP at hl;rw[zj5,zj8,zj8] at hl;exact hl.2<|h.around x a hl.1
theorem BB {B L R A:List Cl}(hA:Rt A)(h:∀ id,pickT B L R id=some (ah A id))(a:∀ c∈A,c.id∈gV [B,L,R]):eR B L R=(A,[]):=by
 have b:fU B L R=[]:=by
  unfold fU;rw[List.filter_eq_nil_iff];intro id _;rw[h id];simp
 have d:ij B L R=A:=by
  unfold ij;have:(fun id=>(pickT B L R id).join)=ah A:=funext fun id=>by rw[h id]; rfl
  rw[this];exact qG hA (lG _) a
 unfold eR;rw[b,d,Dm hA,E8 hA,zg2 (by simp),zg2 (by simp),zg2 (by simp),zg2 (by have:=hA.few; omega)]
theorem sh {B L R A:List Cl}(hA:Rt A)(h:∀ id,pickT B L R id=some (ah A id))(b:A=B∨A=L∨A=R):eR B L R=(A,[]):=BB hA h fun c a=>s7.2 (by
 rcases b with rfl | rfl | rfl
 ·exact⟨A,by simp,c,a,I⟩
 ·exact⟨A,by simp,c,a,I⟩
 ·exact⟨A,by simp,c,a,I⟩)
theorem na (A:List Cl)(id:Int):df A A id=true:=by simp[df]
theorem zm {B L:List Cl}(a:Rt L):eR B L B=(L,[]):=sh a (fun id=>by
 unfold pickT;rw[na B id,Bool.or_true,zg3 rfl]) (.inr (.inl rfl))
theorem ww {B L:List Cl}(a:Rt L):eR B B L=(L,[]):=sh a (fun id=>by
 unfold pickT;by_cases h:ah B id=ah L id
 ·have:df B L id=true:=by simp[df,h]
  rw[this,Bool.true_or,zg3 rfl,h]
 ·have b:df B L id=false:=by simp[df,h]
  have c:df L B id=false:=by unfold df; exact zf9 fun e=>h e.symm
  rw[b,c,na B id,Bool.or_false,zg2 dC,zg3 rfl]) (.inr (.inr rfl))
theorem zo {B L:List Cl}(a:Rt L):eR B L L=(L,[]):=sh a (fun id=>by
 unfold pickT;rw[na L id,Bool.true_or,zg3 rfl]) (.inr (.inl rfl))
theorem Dd {B L R:List Cl}{x:Cl}(h:x∈ij B L R):(ah L x.id=some x∧(df L R x.id||df R B x.id)=true)∨(ah R x.id=some x∧df L B x.id=true):=by
 unfold ij at h;obtain ⟨id,_,a⟩:=List.mem_filterMap.1 h;unfold pickT at a;split at a
 ·rename_i b;have a:ah L id=some x:=a;have c:=(aG a).2;rw[← c] at a b;exact .inl ⟨a,b⟩
 ·split at a
  ·rename_i b;have a:ah R id=some x:=a;have c:=(aG a).2;rw[← c] at a b;exact .inr ⟨a,b⟩
  ·cases a
theorem xK (B L R:List Cl):(ij B L R).Pairwise fun a b=>a.id<b.id:=by
 unfold ij;rw[List.pairwise_filterMap];refine (lG [B,L,R]).imp fun {a b} f c g d hd=>?_;have key:∀ {id:Int} {y:Cl},y∈(pickT B L R id).join→y.id=id:=fun {id y} e=>by
  have e:(pickT B L R id).join=some y:=e;unfold pickT at e;split at e
  ·exact (aG (show ah L id=some y from e)).2
  ·split at e
   ·exact (aG (show ah R id=some y from e)).2
   ·cases e
 rw[key g,key hd];exact f
section
variable {z0 z1:ak}(hz:(z0.sign=1∧z1.sign = -1)∨(z0.sign = -1∧z1.sign=1))
include hz
end
section
variable {A:List Cl}(h:Rt A){e:Ed}
include h
end
theorem Fe {B L R:List Cl}{id:Int}{y:Cl}(h:(pickT B L R id).join=some y):y.id=id:=by
 unfold pickT at h;split at h
 ·exact (aG (show ah L id=some y from h)).2
 ·split at h
  ·exact (aG (show ah R id=some y from h)).2
  ·cases h
theorem nG {B L R:List Cl}{x:Cl}(h:x∈ij B L R):x∈L∨x∈R:=by
 rcases Dd h with ⟨h,_⟩ | ⟨h,_⟩
 ·exact .inl (aG h).1
 ·exact .inr (aG h).1
theorem ET (B L R:List Cl):(ij B L R).length≤B.length+(L.length+R.length):=by
 have a:(ij B L R).length≤(gV [B,L,R]).length:=List.length_filterMap_le ..;have b:=jk [B,L,R].flatten;unfold gV at a;rw[ze8] at a;have c:[B,L,R].flatten.length=B.length+(L.length+R.length):=by simp
 omega
theorem uz {w:Cl→Bool}{S:List Cl}(h:cj w S=[]){x:Cl}(a:x∈S):w x=false:=by
 unfold cj at h;rw[List.map_eq_nil_iff,List.filter_eq_nil_iff] at h;simpa using h x a
theorem F3 {B L R:List Cl}(f:Rt L)(g:Rt R)(hl:cj (jA<|ij B L R) (ij B L R)=[])(i:cj (jP<|ij B L R) (ij B L R)=[])(hn:(ij B L R).length≤4000):Rt (ij B L R):=by
 refine⟨hn,xK B L R,fun x c=>?_,fun x c=>?_,fun x c hd=>?_⟩
 ·rcases nG c with h | h
  ·exact f.pos x h
  ·exact g.pos x h
 ·have a:∃ A,Fm A x:=by
   rcases nG c with h | h
   ·exact⟨L,f.form x h⟩
   ·exact⟨R,g.form x h⟩
  obtain ⟨A,a⟩:=a;refine⟨a.dim,a.cnt,fun s j=>?_,a.asc,a.sg,a.one⟩;have b:=uz hl c;unfold jA at b;rw[zk7] at b;have e:=b s j;cases hd:ah (ij B L R) s.cell with
  | none=>rw[hd] at e; simp at e
  | some d=>rw[hd] at e; simp at e; exact⟨d,I,e⟩
 ·have b:=uz i c;unfold jP at b;rw[zg1 hd,Bool.true_and] at b;simpa using b
def Ei (A B:List Cl)(id:Int):Bool:=(ah (mB A B) id).isSome
theorem DB (A B:List Cl):(mB A B).Sublist A:=List.filter_sublist
section
variable {A B:List Cl}(hA:Rt A)(hB:Rt B)
include hA
include hB
end
def GG (A B:List Cl):List Cl:=sortBy (fun c:Cl=>-c.dim) (A.filter fun c=>!Ei A B c.id)
def newL (A B:List Cl):List Cl:=sortBy Cl.dim (B.filter fun c=>!Ei A B c.id)
def Fx (x:Cl):Ed:=⟨2,x.id,0,0,0,[],[]⟩
def FV (x:Cl):Ed:=⟨1,x.id,x.dim,0,0,x.sides,[]⟩
def wl (A B:List Cl):List Ed:=(GG A B).map Fx++(newL A B).map FV
def ol (ml:List (Int×Int))(q:ak):List (Int×Int):=fx ml q.cell 1
def jQ (tl:List Cl)(l:List ak):List (Int×Int):=l.foldl (fun ml x=>(ay tl x).foldl ol ml) []
theorem rq (r:Int):∀ (l:List ak) (zl:List (Int×Int)),eO (l.foldl ol zl) r=eO zl r+((l.filter fun q=>decide (q.cell=r)).length:Int)
 | [],zl=>by simp
 | q::l,zl=>by
  rw[zj1,rq r l,ol,ur];by_cases h:r=q.cell
  ·rw[zg3 h,List.filter_cons_of_pos (by simpa using h.symm),zf1]; omega
  ·rw[zg2 h,List.filter_cons_of_neg (by simpa using fun e:q.cell=r=>h e.symm)]; omega
theorem Co (tl:List Cl)(l:List ak)(r:Int):eO (jQ tl l) r=(cntR tl l r:Int):=by
 have:∀ (l:List ak) (zl:List (Int×Int)),eO (l.foldl (fun ml x=>(ay tl x).foldl ol ml) zl) r=eO zl r+(cntR tl l r:Int):=by
  intro l;induction l with
  | nil=>intro zl; simp[cntR]
  | cons x q ih =>
   intro zl;rw[zj1,ih,rq];unfold cntR kL;rw[zg6,List.sum_cons];omega
 have h:=this l [];unfold jQ;rw[h];show 0+_=_;omega
theorem As {zl ml:List (Int×Int)}(h:ml.map Prod.fst=zl.map Prod.fst)(k x y:Int):(fx ml k y).map Prod.fst=(fx zl k x).map Prod.fst:=by
 have b:∀ zl:List (Int×Int),zl.any (fun p=>decide (p.1=k))=(zl.map Prod.fst).any (fun a=>decide (a=k)):=fun zl=>by rw[List.any_map]; rfl
 rw[o3,o3,b,b,h]
theorem um (tl:List Cl)(l:List ak):(jQ tl l).map Prod.fst=(fy tl l).map Prod.fst:=by
 have inner:∀ (x:ak) (l:List ak) (zl ml:List (Int×Int)),ml.map Prod.fst=zl.map Prod.fst→(l.foldl ol ml).map Prod.fst=(l.foldl (jO x) zl).map Prod.fst:=by
  intro x l;induction l with
  | nil=>intro _ _ h; exact h
  | cons q l ih=>intro zl ml h; exact ih _ _<|As h _ _ _
 have outer:∀ (l:List ak) (zl ml:List (Int×Int)),ml.map Prod.fst=zl.map Prod.fst→(l.foldl (fun ml x=>(ay tl x).foldl ol ml) ml).map Prod.fst=(l.foldl (fun zl x=>(ay tl x).foldl (jO x) zl) zl).map Prod.fst:=by
  intro l;induction l with
  | nil=>intro _ _ h; exact h
  | cons x l ih=>intro zl ml h; exact ih _ _<|inner x _ _ _ h
 exact outer l [] [] I
theorem yZ:∀ {ml:List (Int×Int)} {k:Int},(∀ p∈ml,1≤p.2)→∀ p∈fx ml k 1,1≤p.2
 | [],k,_=>fun p b=>by simp[fx] at b; subst b; exact Int.le_refl _
 | (a,z)::r,k,h=>by
  have c:=h (a,z) (by simp);have d:∀ p∈r,1≤p.2:=fun p b=>h p<|List.mem_cons_of_mem _ b;simp only[fx];split
  ·intro p b
   rcases zf3.1 b with rfl | b
   ·dsimp only at c ⊢; omega
   ·exact d p b
  ·intro p b
   rcases zf3.1 b with rfl | b
   ·exact c
   ·exact yZ d p b
theorem DF (tl:List Cl)(l:List ak):∀ p∈jQ tl l,1≤p.2:=by
 have inner:∀ (l:List ak) (ml:List (Int×Int)),(∀ p∈ml,1≤p.2)→∀ p∈l.foldl ol ml,1≤p.2:=by
  intro l;induction l with
  | nil=>intro _ h; exact h
  | cons q l ih=>intro ml h; exact ih _<|yZ h
 have outer:∀ (l:List ak) (ml:List (Int×Int)),(∀ p∈ml,1≤p.2)→∀ p∈l.foldl (fun ml x=>(ay tl x).foldl ol ml) ml,1≤p.2:=by
  intro l;induction l with
  | nil=>intro _ h; exact h
  | cons x l ih=>intro ml h; exact ih _<|inner _ _ h
 exact outer l [] (by simp)
theorem zT (tl:List Cl)(l:List ak):((jQ tl l).map Prod.fst).Nodup:=by rw[um]; exact kZ tl l
def mP (tl:List Cl)(l:List ak):Bool:=(fy tl l).any fun p=>decide (p.2≠0)||decide (eO (jQ tl l) p.1≠2)
theorem uT (tl:List Cl)(l:List ak):mP tl l=false↔(∀ r,xD tl l r=0)∧∀ r,cntR tl l r=0∨cntR tl l r=2:=by
 have hz:=oz tl l;have hm:=Co tl l;have j:=um tl l;unfold mP;constructor
 ·intro h;rw[zk7] at h;refine⟨hz.1 (zk7.2 fun p a=>?_),fun r=>?_⟩
  ·have:=h p a;simp at this ⊢;exact this.1
  ·by_cases k:cntR tl l r=0
   ·exact .inl k
   ·have d:eO (jQ tl l) r≠0:=by rw[hm]; omega
    obtain ⟨q,c,e,_⟩:=oJ d;have f:r∈(fy tl l).map Prod.fst:=by rw[← j]; exact zf4.2 ⟨q,c,e⟩
    obtain ⟨p,a,rfl⟩:=zf4.1 f;have b:=h p a;simp at b;have g:=b.2;rw[hm] at g;right;omega
 ·rintro ⟨d,f⟩;rw[zk7];intro p a;have b:=zk7.1 (hz.2 d) p a;have g:p.1∈(jQ tl l).map Prod.fst:=by rw[j]; exact zf4.2 ⟨p,a,I⟩
  obtain ⟨q,c,i⟩:=zf4.1 g;have o:=DF tl l q c;have m:=nS (zT tl l) q c;rw[i,hm] at m;have s:=f p.1;have n:eO (jQ tl l) p.1=2:=by rw[hm]; omega
  simp at b ⊢;exact⟨b,n⟩
def qx:List (Int×Int)→Int→Option Int
 | [],_=>none
 | (a,z)::r,k=>if k=a then some z else qx r k
theorem yl {k i:Int}(r:Int):∀ {F:List (Int×Int)},qx F k=none→qx (F++[(k,i)]) r=if r=k then some i else qx F r
 | [],_=>rfl
 | (a,z)::F,h=>by
  simp only[qx] at h;split at h
  ·cases h
  ·rename_i b;rw[List.cons_append];simp only[qx];by_cases hr:r=a
   ·rw[zg3 hr,zg2 oM];rw[zg3 hr]
   ·rw[zg2 hr,zg2 hr,yl r h]
structure ze (tl:List Cl)(l:List ak)(J:List Int):Prop where
 len:J.length=l.length
 low:∀ (i:Nat) (v:Int),J[i]?=some v→0≤v∧v≤i
 link:∀ (i:Nat) (v:Int) (x y:ak),J[i]?=some v→l[i]?=some x→l[v.toNat]?=some y→Cn (lf tl l) x.cell y.cell
def Gz (tl:List Cl)(l:List ak)(F:List (Int×Int)):Prop:=∀ r k,qx F r=some k→∃ n:Nat,k=n∧∃ x,l[n]?=some x∧0<kL tl x r
def ws (tl:List Cl)(l:List ak)(F:List (Int×Int))(J:List Int)(m:Nat):Prop:=∀ (i:Nat) (x:ak),i<m→l[i]?=some x→∀ q∈ay tl x,∃ n:Nat,qx F q.cell=some (n:Int)∧J[i]?=J[n]?
theorem sV {tl:List Cl}{x:ak}{r:Int}:0<kL tl x r↔∃ q∈ay tl x,q.cell=r:=by
 unfold kL;rw[List.length_pos_iff_exists_mem];constructor
 ·rintro ⟨q,c⟩;obtain ⟨a,b⟩:=zh6.1 c;exact⟨q,a,zg5 b⟩
 ·rintro ⟨q,a,b⟩;exact⟨q,zh6.2 ⟨a,zg1 b⟩⟩
theorem ze.start (tl:List Cl)(l:List ak):ze tl l ((List.range l.length).map fun i:Nat=>(i:Int)):=by
 have hg:∀ (i:Nat) (v:Int),((List.range l.length).map fun i:Nat=>(i:Int))[i]?=some v→v=i:=fun i v h=>by
  rw[zi2] at h;by_cases a:i<l.length
  ·rw[List.getElem?_range a] at h;simp at h;exact h.symm
  ·rw[List.getElem?_eq_none (by simpa using a)] at h;cases h
 refine⟨by simp,fun i v h=>by rw[hg i v h]; omega,fun i v x y h c b=>?_⟩;rw[hg i v h,Int.toNat_natCast,c] at b;cases b;exact .refl _
theorem vP {v a:Int}:∀ {J:List Int} {i:Nat},J[i]?=some a→(J.set i v).sum=J.sum+(v - a)
 | [],_,h=>by simp at h
 | b::J,0,h=>by
  simp at h;subst h;simp only[List.set_cons_zero,List.sum_cons];omega
 | b::J,i+1,h=>by
  have ih:=vP (J:=J) (i:=i) (v:=v) (a:=a) (by simpa using h);simp only[List.set_cons_succ,List.sum_cons];omega
theorem AU {J:List Int}(h:∀ (i:Nat) (v:Int),J[i]?=some v→0≤v):0≤J.sum:=by
 induction J with
 | nil=>exact Int.le_refl _
 | cons a J ih =>
  have c:=h 0 a rfl;have d:=ih fun i v b=>h (i+1) v (by simpa using b);rw[List.sum_cons];omega
theorem ze.upd {tl:List Cl}{l:List ak}{J:List Int}(h:ze tl l J){i k:Nat}{x y:ak}{a b r:Int}(s:l[i]?=some x)(t:l[k]?=some y)(hr:0<kL tl x r)(z:0<kL tl y r)(m:J[i]?=some a)(hb:J[k]?=some b)(F:min a b<max a b) :
  ze tl l ((J.set i<|min a b).set k<|min a b)∧((J.set i<|min a b).set k<|min a b).sum<J.sum:=by
 have A:i≠k:=fun e=>by subst e; rw[m] at hb; cases hb; omega
 have B:i<J.length:=(zf7.1 m).1;have C:k<J.length:=(zf7.1 hb).1;have n:Cn (lf tl l) x.cell y.cell:=.one ⟨x,zg4 s,y,zg4 t,rfl,rfl,r,hr,z⟩;have G:=h.low i a m;have H:=h.low k b hb;have hm:min a b=a∨min a b=b:=oM;have d:∀ (j:Nat) (v:Int),((J.set i<|min a b).set k<|min a b)[j]?=some v→((j=i∨j=k)∧v=min a b)∨(j≠i∧j≠k∧J[j]?=some v):=fun j v c=>by
  by_cases g:j=k
  ·subst g;rw[List.getElem?_set_self (by rw[zi5]; exact C)] at c;exact .inl ⟨.inr I,by injection c with c; exact c.symm⟩
  ·rw[List.getElem?_set_ne (fun e=>g e.symm)] at c;by_cases D:j=i
   ·subst D;rw[List.getElem?_set_self B] at c;exact .inl ⟨.inl I,by injection c with c; exact c.symm⟩
   ·rw[List.getElem?_set_ne (fun e=>D e.symm)] at c;exact .inr ⟨D,g,c⟩
 refine⟨⟨by rw[zi5,zi5]; exact h.len,fun j v c=>?_,fun j v u w c o p=>?_⟩,?_⟩
 ·rcases d j v c with ⟨g | g,rfl⟩ | ⟨_,_,E⟩
  ·omega
  ·omega
  ·exact h.low j v E
 ·rcases d j v c with ⟨g,rfl⟩ | ⟨_,_,E⟩
  ·have f:Cn (lf tl l) x.cell w.cell∧Cn (lf tl l) y.cell w.cell:=by
    rcases hm with e | e
    ·rw[e] at p;have q:=h.link i a x w m s p;exact⟨q,n.symm.trans q⟩
    ·rw[e] at p;have q:=h.link k b y w hb t p;exact⟨n.trans q,q⟩
   rcases g with rfl | rfl
   ·rw[s] at o; cases o; exact f.1
   ·rw[t] at o; cases o; exact f.2
  ·exact h.link j v u w E o p
 ·rw[vP (a:=b) (by rw[List.getElem?_set_ne A]; exact hb),vP m];omega
theorem Ci {tl:List Cl}{l:List ak}{F:List (Int×Int)}{J:List Int}(h:ze tl l J)(hF:ws tl l F J l.length)(hn:(l.map ak.cell).Nodup) :
  J.any (fun v=>decide (v>0))=false↔∀ x∈l,∀ y∈l,Cn (lf tl l) x.cell y.cell:=by
 have g:∀ {i j:Nat} {x y:ak},l[i]?=some x→l[j]?=some y→x.cell=y.cell→i=j:=fun {i j x y} k u e=>by
  have s:(l.map ak.cell)[i]?=some x.cell:=by rw[zi2,k]; rfl
  have C:(l.map ak.cell)[j]?=some x.cell:=by rw[zi2,u,e]; rfl
  obtain ⟨i1,e1⟩:=zf7.1 s;obtain ⟨j1,e2⟩:=zf7.1 C;have key:∀ {a b:Nat} (Q:a<(l.map ak.cell).length) (hb:b<(l.map ak.cell).length),a<b→(l.map ak.cell)[a]≠(l.map ak.cell)[b]:=fun {a b} Q hb D=>zd1.1 hn a b Q hb D
  rcases Nat.lt_trichotomy i j with p | p | p
  ·exact absurd (e1.trans e2.symm)<|key i1 j1 p
  ·exact p
  ·exact absurd (e2.trans e1.symm)<|key j1 i1 p
 constructor
 ·intro E x G y H;rw[zk7] at E;obtain ⟨i,k,rfl⟩:=zc8 G;obtain ⟨j,u,rfl⟩:=zc8 H;have key:∀ (i:Nat) (k:i<l.length),J[i]?=some 0:=fun i k=>by
   have s:i<J.length:=by rw[h.len]; exact k
   have C:=h.low i J[i] (List.getElem?_eq_getElem s);have p:=E J[i] (gM s);rw[List.getElem?_eq_getElem s];simp at p;exact ze4 some oM
  have o:0<l.length:=oM;have c1:=h.link i 0 l[i] l[0] (key i k) (List.getElem?_eq_getElem k) (List.getElem?_eq_getElem o);have c2:=h.link j 0 l[j] l[0] (key j u) (List.getElem?_eq_getElem u) (List.getElem?_eq_getElem o);exact c1.trans c2.symm
 ·intro z;have one:∀ {a b:Int},lf tl l a b→∃ (i j:Nat) (x y:ak),l[i]?=some x∧l[j]?=some y∧x.cell=a∧y.cell=b∧J[i]?=J[j]?:=by
   rintro a b ⟨x,G,y,H,rfl,rfl,r,p,K⟩;obtain ⟨i,k,rfl⟩:=zc8 G;obtain ⟨j,u,rfl⟩:=zc8 H;obtain ⟨q,R,L⟩:=sV.1 p;obtain ⟨q',M,A⟩:=sV.1 K;obtain ⟨n,n1,n2⟩:=hF i l[i] k (List.getElem?_eq_getElem k) q R;obtain ⟨m,m1,m2⟩:=hF j l[j] u (List.getElem?_eq_getElem u) q' M;rw[L] at n1;rw[A,n1] at m1;injection m1 with m1
   have N:n=m:=oM;subst N;exact⟨i,j,l[i],l[j],List.getElem?_eq_getElem k,List.getElem?_eq_getElem u,I,I,n2.trans m2.symm⟩
  have key:∀ {a b:Int},Cn (lf tl l) a b→a=b∨∃ (i j:Nat) (x y:ak),l[i]?=some x∧l[j]?=some y∧x.cell=a∧y.cell=b∧J[i]?=J[j]?:=by
   intro a b S;induction S with
   | refl _=>exact .inl rfl
   | @step a' b' c' e _ ih =>
    have s:∃ (i j:Nat) (x y:ak),l[i]?=some x∧l[j]?=some y∧x.cell=a'∧y.cell=b'∧J[i]?=J[j]?:=by
     rcases e with e | e
     ·exact one e
     ·obtain ⟨i,j,x,y,a,b,c,d,f⟩:=one e;exact⟨j,i,y,x,b,a,d,c,f.symm⟩
    rcases ih with rfl | ⟨i2,j2,x2,y2,a2,b2,c2,d2,f2⟩
    ·exact .inr s
    ·obtain ⟨i,j,x,y,a,b,c,d,f⟩:=s;have O:=g b a2<|d.trans c2.symm;subst O;exact .inr ⟨i,j2,x,y2,a,b2,c,d2,f.trans f2⟩
  rw[zk7];intro v T;obtain ⟨i,k,rfl⟩:=zc8 T;have w:i<l.length:=by rw[← h.len]; exact k
  have o:0<l.length:=oM;have B:0<J.length:=oM;have E:=h.low 0 J[0] (List.getElem?_eq_getElem B);have P:J[0]=0:=oM;have t:J[i]?=J[0]?:=by
   rcases key (z l[i] (gM w) l[0] (gM o)) with e | ⟨a,b,x,y,s,C,p,K,U⟩
   ·rw[g (List.getElem?_eq_getElem w) (List.getElem?_eq_getElem o) e]
   ·have ea:=g s (List.getElem?_eq_getElem w) p;have eb:=g C (List.getElem?_eq_getElem o) K;subst ea eb;exact U
  rw[List.getElem?_eq_getElem k,List.getElem?_eq_getElem B,P] at t;injection t with t
  rw[t];decide
theorem BW {tl:List Cl}{c:Cl}{F:List (Int×Int)}{J:List Int}(i:0<c.sides.length)(hn:(c.sides.map ak.cell).Nodup)(hb:mP tl c.sides=false)(h:ze tl c.sides J)(hF:ws tl c.sides F J c.sides.length) :
  J.any (fun v=>decide (v>0))=decide (bC tl c≠0):=by
 have a:=kG (tl:=tl) i hn;have b:=(uT tl c.sides).1 hb;have d:=Ci h hF hn;cases f:J.any (fun v=>decide (v>0)) with
 | false=>exact (zf9<|Decidable.not_not.2<|a.2 ⟨b.1,b.2,d.1 f⟩).symm
 | true =>
  have j:bC tl c≠0:=fun e=>by
   have g:=d.2 (a.1 e).2.2;rw[f] at g;cases g
  exact (zg1 j).symm
theorem Dv {tl:List Cl}{c:Cl}(b:0<c.sides.length)(hn:(c.sides.map ak.cell).Nodup)(hb:mP tl c.sides=true):bC tl c≠0:=fun e=>by
 have a:=(kG (tl:=tl) b hn).1 e;rw[(uT tl c.sides).2 ⟨a.1,a.2.1⟩] at hb;cases hb
end Go.Proofs.YtbbppeihhkhkcaaGreatDoor
namespace Go.Sy
open Go
section
variable {P:Program}{b:Frame}{a:Act}{k:List Item}{cs:List Frame}{w:World}{Q:Exit→Act→World→Prop}
theorem e7 {c:Code}:step P (lone (b.atR a<|.code (.scope c)::k) cs w) = .next (lone (b.atR a<|.code c :: .inScope c::k) cs w) :=
 step_lone_go (by simp[stepG,stepG.exec,Frame.atR])
theorem qB {c:Code}:step P (lone (b.atR a<|.inScope c::k) cs w) = .next (lone (b.atR a k) cs w) :=
 step_lone_go (by simp[stepG,stepG.exec,Frame.atR])
theorem wt {F:Fence}{n:Nat}{c:Code}(h:c.wpIn F n P (Exit.noGoto Q) a w):(Code.scope c).wpIn F n P Q a w:=by
 intro b k cs i hb hr;have f:(lone (b.atR a<|.code (.scope c)::k) cs w).fenced P F:=fenced_calm hb hr rfl;obtain ⟨e,a₁,w₁,g,d⟩:=h b (.inScope c::k) cs i hb hr;cases e with
 | normal=>exact⟨.normal,a₁,w₁,g,.head f e7<|StepsIn.trans d<|.one (fenced_calm hb hr rfl) qB⟩
 | exit id =>
  have o:exitTo id (.inScope c::k)=exitTo id k:=by simp[exitTo]
  exact⟨.exit id,a₁,w₁,g,fun k' j=>.head f e7 (d.1 k' (by rw[o]; exact j)),
   fun m j=>let ⟨k₁,p,q⟩:=d.2 m (by rw[o]; exact j); ⟨k₁,p,.head f e7 q⟩⟩
 | goto l=>exact g.elim
 | ret=>exact⟨_,a₁,w₁,g,.of_steps (.one f e7) d⟩
 | panic ch=>exact⟨_,a₁,w₁,g,.of_steps (.one f e7) d⟩
 | outgrown=>exact⟨_,a₁,w₁,g,.of_steps (.one f e7) d⟩
end
section
variable {P:Program}{M:Md}{N:Nat}{E:World}{Q:Exit→Act→World→Prop}{f:Fr}{g:PH}{s:Own}
theorem XC.scope {c:Code}(h:XC P M N E c (Exit.noGoto Q) f g s):XC P M N E (.scope c) Q f g s:=fun a w b d=>wt (h a w b d)
theorem XT.scopeR (h:XT M N E Q .ret f g s):XT M N E (Exit.noGoto Q) .ret f g s:=h
end
def Ex (P:Program)(E:World)(gf:FuncId)(lb:List Value){α:Type}(encs:α→List Value)(T:List α→α→Prop)(R:List α→Prop)(g0:PH):Prop :=
 ∀ (l:Nat) (ι:Type) (G:ι→PH) (S:ι→Own) (J:List α→ι→Prop) (i0:ι),J [] i0→(∀ pre i,J pre i→Le g0 (G i))→(∀ pre i g',J pre i→Le (G i) g'→∃ i',J pre i'∧G i'=g'∧S i'=S i) →
  (∀ pre x i sx,T pre x→J pre i→wn P E l (encs x).toArray (G i) (S i++sx) (fun v g' s'=>v = .bool true∧∃ j,J (pre++[x]) j∧Le (G i) (G j)∧g'=G j∧s'=S j++sx)) →
  ∀ sx,Ctr P E gf (.func (.yield l) #[] #[]::lb).toArray (G i0) (S i0++sx) (fun _ g' s'=>∃ xs j,R xs∧J xs j∧g'=G j∧s'=S j++sx)
section
variable {P:Program}{M:Md}{N:Nat}{E:World}{Q:Exit→Act→World→Prop}{f:Fr}{g:PH}{s:Own}{dst:Option Tmp}{ty:TypeId}{pos:String}{af:Array Edge}{gd:Option (Nat×Bool)}
theorem XC.rangeFuncP {α ι κ:Type}{gop:Operand}{ps:Array Tmp}{assign body:Code}{gf:FuncId}{lb:List Value}{encs:α→List Value}{T:List α→α→Prop}{R:List α→Prop}{g0:PH}(G:ι→PH)(S:ι→Own)(J:List α→ι→Prop)(i0:ι)(sx0:Own)(fa:α→Fr)(fb:List α→α→ι→κ→Fr)(X:α→κ→Own)
  (a5:M.ro=none) (hg:ev f gop=some (.func (.func gf) #[] lb.toArray)) (eg:∀ args w,(callFunc gf args).run P w = .ok (.enter gf args) w) (a9:∀ x,(encs x).length=ps.size)
  (hG:G i0=g) (hS:S i0++sx0=s) (V:Ex P E gf lb encs T R g0) (z:∀ b i,J b i→Le g0 (G i)) (b0:∀ b i g',J b i→Le (G i) g'→∃ i',J b i'∧G i'=g'∧S i'=S i) (h0:J [] i0)
  (b1:∀ x a,Ok N f (jH a)→Ok N (fa x) { tmps:=(ps.zip (encs x).toArray).foldl (fun t (p,v)=>t.setIfInBounds p v) a.tmps,defers:=[] })
  (o:∀ l b x i sx,J b i→XC P ⟨some l,[]⟩ N E assign (ne (N:=N) E (G i) (S i++sx) (fb b x i)<|X x) (fa x) (G i) (S i++sx))
  (A:∀ l b x i sx q,(∃ (r:Loop) (k:Nat),sx[k]?=some (pt l<|.loop r))→T b x→J b i→XC P ⟨some l,[]⟩ N E body (o4 E G S J b x (G i) sx) (fb b x i q) (G i) (X x q++(S i++sx)))
  (B:∀ D xs j,R xs→J xs j→XT ⟨none,⟨.collected D,#[]⟩::M.ds⟩ N E Q .normal f (G j) (pt D (.deferred<|some [])::(S j++sx0))):XC P M N E (.rangeFunc gop ps assign body) Q f g s:=by
 subst hG hS;intro a w ha hw;rw[a5];refine wpIn_rangeFunc ?_;intro fn _;obtain ⟨c,d⟩:∃ c:LoopState→Option Code→Loop,c=fun st pe=>{ state:=st,pending:=pe,fn,tmps:=a.tmps,params:=ps,assign,body,defers:=w.heap.size }:=⟨_,rfl⟩;obtain ⟨L,hL⟩:∃ L,L=w.heap.size+1:=⟨_,rfl⟩;obtain ⟨D,hD⟩:∃ D,D=w.heap.size:=⟨_,rfl⟩;obtain ⟨W1,Y⟩:∃ W1,(w.alloc<|.deferred<|some []).alloc (.loop<|c .ready none)=W1:=⟨_,rfl⟩;have hA:At E (G i0) (pt L (.loop<|c .ready none)::pt D (.deferred<|some [])::(S i0++sx0)) W1:=by
  rw[← Y,hL,hD];have C:At E (G i0) (pt w.heap.size (.deferred<|some [])::(S i0++sx0)) (w.alloc<|.deferred<|some []):=hw.alloc (e:=pt w.heap.size<|.deferred<|some []) rfl rfl;have F:=C.alloc (e:=pt (w.alloc<|.deferred<|some []).heap.size<|.loop<|c .ready none) rfl rfl;rw[World.size_alloc] at F;exact F
 obtain ⟨S2,y⟩:∃ S2:ι→Own,S2=fun i=>S i++(pt L (.loop<|c .ready none)::pt D (.deferred<|some [])::sx0):=⟨_,rfl⟩;have b2:At E (G i0) (S2 i0++[]) W1:=by
  rw[y,zc7];dsimp only;refine hA.perm ?_;have C:(pt L (.loop<|c .ready none)::pt D (.deferred<|some [])::(S i0++sx0))=[pt L<|.loop<|c .ready none,pt D<|.deferred<|some []]++(S i0++sx0):=rfl;have F:S i0++(pt L (.loop<|c .ready none)::pt D (.deferred<|some [])::sx0)=S i0++([pt L<|.loop<|c .ready none,pt D<|.deferred<|some []]++sx0):=rfl;rw[C,F,← zh1,← zh1];exact List.perm_append_comm.append_right _
 refine⟨L,[{ target:=.collected D,args:=#[] }],W1,{ target:=.fn (.func gf) lb.toArray,args:=#[.func (.yield L) #[] #[]] },W1,gf,(.func (.yield L) #[] #[]::lb).toArray,W1,?_,?_,fun _ _=>trivial,?_,fun h=>(by cases h),?_⟩
 ·rw[← Y,d,hL,hD]; exact run_enterLoop_outer _ _ _ _ _
 ·have C:a.eval gop = .func (.func gf) #[] lb.toArray:=ha.ev hg;simp only[resolve,C];simp[go_sem]
 ·have:(#[.func (.yield L) #[] #[]]++lb.toArray:Array Value)=(.func (.yield L) #[] #[]::lb).toArray:=by simp
  simp[invoke,go_sem,eg]
 ·refine (callsIn_wide (n:=0 - 1)).2<|(V L ι G S2 J i0 h0 z (fun b i g' U hl=>by obtain ⟨i',a1,a2,a3⟩:=b0 b i g' U hl; exact⟨i',a1,a2,by rw[y]; dsimp only; rw[a3]⟩) ?_ [] W1 b2).mono ?_
  ·intro b x i sx b3 U W hW;rw[y] at hW;simp only[zh1,List.cons_append] at hW;have c0:(S i).length=(S i).length:=rfl;have gl:∀ (i:ι) (u u':Ent) (r:Own),(S i++u::u'::r)[(S i).length]?=some u:=fun i u u' r=>by simp
   have hl:=hW.here<|gl i _ _ _;have hy:=run_yield (P:=P) (args:=(encs x).toArray) hl (by rw[d]; simpa using a9 x);rw[d] at hy;refine⟨fn,_,assign,body,hy,roundIn_of_wpIn trivial ?_⟩;refine Code.wpIn_mono (fun e a1 w1 C=>?_)<|o L b x i _ U { tmps:=(ps.zip (encs x).toArray).foldl (fun t (p,v)=>t.setIfInBounds p v) a.tmps,defers:=[] } W ⟨I,b1 x a ha.2⟩ hW;obtain ⟨rfl,q,b4,Z⟩:=C;have glX:∀ (X:Own) (i:ι) (u u':Ent) (r:Own),(X++(S i++u::u'::r))[X.length+(S i).length]?=some u:=fun X i u u' r=>by rw[zh5 oM,Nat.add_sub_cancel_left]; exact gl i u u' r
   have b5:=Z.here<|glX _ i _ _ _;refine⟨_,run_beginRound b5 (by rw[d]),?_⟩;have m:∀ (i:ι) (u u' v:Ent) (r:Own),(S i++u::u'::r).set (S i).length v=S i++v::u'::r:=fun i u u' v r=>by simp
   have H:∀ (X:Own) (i:ι) (u u' v:Ent) (r:Own),(X++(S i++u::u'::r)).set (X.length+(S i).length) v=X++(S i++v::u'::r):=fun X i u u' v r=>by rw[List.set_append_right _ _ oM,Nat.add_sub_cancel_left,m]
   have a0:=Z.obj (o':=.loop { c .ready none with state:=.busy })<|glX _ i _ _ _;rw[H] at a0;refine Code.wpIn_mono (fun e a3 w3 h3=>?_)<|A L b x i _ q ⟨_,0,I⟩ b3 U a1 _ b4 a0;obtain ⟨rfl,j,a4,b6,b7⟩:=h3;have b8:=a4.here<|gl j _ _ _;have he:=run_endRound (P:=P) none b8;have K:=a4.obj (o':=.loop { (c .ready none) with state:=.ready,pending:=none })<|gl j _ _ _;rw[m] at K;refine⟨_,_,he,.bool true,G j,S2 j++sx,I,?_,I,j,b6,b7,I,I⟩;rw[y];simp only[zh1,List.cons_append];rw[d] at K ⊢;exact K
  ·rintro e W2 ⟨v,g',s',rfl,O,xs,j,hR,U,rfl,rfl⟩;rw[y,zc7] at O;have gl:∀ (i:ι) (u u':Ent) (r:Own),(S i++u::u'::r)[(S i).length]?=some u:=fun i u u' r=>by simp
   have hl:=O.here<|gl j _ _ _;have he:=run_endLoop (P:=P) hl (by rw[d]; simp);have F:=O.obj (o':=.loop { (c .ready none) with state:=.exhausted })<|gl j _ _ _;have m:∀ (i:ι) (u u' v:Ent) (r:Own),(S i++u::u'::r).set (S i).length v=S i++v::u'::r:=fun i u u' v r=>by simp
   rw[m] at F;have b9:(c .ready none).pending=none:=by rw[d]
   refine⟨none,_,he.trans<|ze4 (fun p=>Result.ok p _) b9,?_⟩;refine B D xs j hR U _ _ ⟨by rw[← ha.1]; rfl,ha.2⟩ ?_;have h3:=(F.sublist (s':=S j++pt D (.deferred<|some [])::sx0)<|by exact (zc4 _).append<|zj3 _ _).perm List.perm_middle;exact h3
end
section
variable {P:Program}{M:Md}{N:Nat}{E:World}{Q:Exit→Act→World→Prop}{f:Fr}{g:PH}{s:Own}{ops:Array Oper}{b:Nat}{o:Obj}
theorem XL.freeze {l:List Oper}(h:∀ g',Le g g'→g' b=some o→XL P M N E ops Q l f g' s):XL P M N E ops Q l f g (pt b o::s):=fun a w e c=>by
 have d:=c.own (pt b o) (by simp);simp only[pt,Option.bind_some] at d;obtain ⟨i,j⟩:=c.freeze (b:=b) rfl d;exact h _ j (fc _ _ _) a w e i
theorem XC.freeze {c:Code}(h:∀ g',Le g g'→g' b=some o→XC P M N E c Q f g' s):XC P M N E c Q f g (pt b o::s):=fun a w i d=>by
 have e:=d.own (pt b o) (by simp);simp only[pt,Option.bind_some] at e;obtain ⟨j,k⟩:=d.freeze (b:=b) rfl e;exact h _ k (fc _ _ _) a w i j
end
section
variable {P:Program}{M:Md}{N:Nat}{E:World}{ops:Array Oper}{Q:Exit→Act→World→Prop}{g0:PH}{s0:Own}{tail:List Nat}{f:Fr}{g:PH}{s s':Own}{L:Array Bool}{n:Nat}
theorem XC.drawX {id:Nat}(tail:List Nat)(hm:P.follows .mixedOrders=true)(c:Region.noSelect ops=true)(i:oe ops=true)(h:SX P N E ops (Qx M.ds Q) g s tail (Array.replicate ops.size false) ops.size f g s):XC P M N E (.region id ops true) Q f g s:=by
 intro a w j k;have l:a=ext M.ds (jH a):=by
  obtain ⟨t,d⟩:=a;have hd:d=M.ds:=j.1;subst hd;simp[ext,jH]
 rw[l];exact wpIn_region_any hm<|jF i (fun e b w h=>h) _ _ _ _<|iV _ _ _ _ (S:=At E g s) (tail:=tail)<|h (jH a) { w with drawn:=w.drawn+1 } c (jp _) j.2 (k.drew _<|Nat.le_succ _) (fun _=>k.drew _<|Nat.le_succ _)
theorem SX.br4 (i j m p:Nat)(hr:Region.ready .any ops L=[i,j,m,p])(h:SB P N E ops Q g0 s0 tail L n i f g s)(r:SB P N E ops Q g0 s0 tail L n j f g s)(t:SB P N E ops Q g0 s0 tail L n m f g s)(u:SB P N E ops Q g0 s0 tail L n p f g s):SX P N E ops Q g0 s0 tail L (n+1) f g s:=by
 intro a w e b l o hb;refine⟨fun q=>(by rw[hr] at q; cases q),fun k d=>?_⟩;have c:=d;rw[hr] at c;simp only[zf3,zh9,List.not_mem_nil,or_false] at c
 rcases c with rfl | rfl | rfl | rfl
 ·exact h a w e b d l o hb
 ·exact r a w e b d l o hb
 ·exact t a w e b d l o hb
 ·exact u a w e b d l o hb
end
end Go.Sy
namespace Go.Proofs.YtbbppeihhkhkcaaGreatDoor
open _root_.Go.Proofs.Tryz _root_.Go.Proofs.YtbbppeihhkhkcaaGreatDoor.Tryz
open Go Go.Sy Go.Pl Go.Proofs
set_option maxRecDepth 100000
set_option maxHeartbeats 4000000
theorem Tryz.mty126:MTy Tryz.prog 126 3 56 (.agg #[vi 0,vi 0,.slice none 0 0]):=⟨underlying126,underlying3,zl7⟩
theorem Tryz.sty192:STy Tryz.prog 192 126 1 8 (.map none):=⟨underlying192,⟨t126,by kernel_rfl,by kernel_rfl,by kernel_rfl,by kernel_rfl⟩,rfl,by decide⟩
theorem Tryz.sty109:STy Tryz.prog 109 29 1 24 (.agg #[.slice none 0 0]):=⟨underlying109,⟨t29,by kernel_rfl,by kernel_rfl,by kernel_rfl,by kernel_rfl⟩,rfl,by decide⟩
def lT (g:PH)(v:Value)(l:List Cl):Prop:=∃ m rs,v = .map (some m)∧Mp g m (rs.map aq)∧ax (an g) l rs
theorem lT.mono {g g':PH}{v:Value}{l:List Cl}(h:lT g v l)(hl:Le g g'):lT g' v l:=by
 obtain ⟨m,rs,a,b,c⟩:=h;exact⟨m,rs,a,b.mono hl,c.mono fun _ _=>an.mono hl⟩
theorem SU.eqBB {P:Program}{N:Nat}{f:Fr}{dst:Option Tmp}{ty:TypeId}{pos:String}{af:Array Edge}{gd:Option (Nat×Bool)}{x y:Operand}{T U:TypeId}{a b:Bool}(d:P.underlying T=some .bool)(e:ev f x=some (vb a))(g:ev f y=some (vb b)) :
  SU P N ⟨dst,.binOp .eql T x y U,ty,pos,af,gd⟩ f (vb<|a == b):=fun ac w c=>by
 have hg:(eqGuard .eql T x y (.bool a)<|.bool b).run P w = .ok () w:=by simp[eqGuard]
 have hb:=run_eql_bool (P:=P) w T a b d;simp only[execOp,c.ev e,c.ev g,Sem.run_bind,hg,zd2,hb];rfl
theorem FW (E:World)(g:PH)(s:Own)(v:Value)(l:List Cl)(a:ai g v l)(b:aJ l) :
  Ctr Tryz.prog E 144 #[.agg #[v]] g s (fun r g' s'=>r=vb (decide ((ap l).2≠0))∧g=g'∧s=s'):=by
 obtain ⟨q,d,rfl⟩:=a.form;refine zb2 (args:=[.agg #[.slice q l.length d]]) func144 I ntmps144 (bE I)<|rZ (bW (bO I) fun b1=>?_);refine aT I<|rZ<|SL.K (qV 0 aj ae I I I)<|lW (SO.call call14 I<|m7 E g _ _ l a b) ?_;rintro _ _ _ ⟨rfl,rfl,rfl⟩;exact lM I<|yX I<|yX I<|lA I<|aT I<|sW I<|lU (nQ I I)<|aT I<|rE<|dR (s':=s) uR<|za8 (.inl I) results144 I ⟨I,I,I⟩
theorem zY (E:World)(g:PH)(s:Own)(v:Value)(Ls:List (List Cl))(svs:List Sv)(i:SlA dL g v svs)(x:ax (fun l sv=>ai g (.slice sv.p sv.n sv.c) l) Ls svs)(z:∀ l∈Ls,aJ l)(hl:Ls.length<1099511627776) :
  Ctr Tryz.prog E 197 #[v,.func (.func 144) #[] #[]] g s (fun r g' s'=>(∃ n:Int,r=vi n∧decide (n≥0)=Ls.any fun l=>decide ((ap l).2≠0))∧g=g'∧s=s'):=by
 have y:=x.length;obtain ⟨p,c,rfl⟩:=za4 i;refine zb2 (args:=[.slice p svs.length c,.func (.func 144) #[] #[]]) func197 I ntmps197 (bE I)<|rZ<|aT I<|sQ<|sW I<|lU (eN underlying109 I)<|lM I<|tZ<|bK<|oP (ι:=Nat) (fun k=>[(0,.slice p svs.length c),(1,.func (.func 144) #[] #[]),(7,vi svs.length),(8,vi k)]) (fun _=>g) (fun _=>s) (fun k=>k≤Ls.length∧(Ls.take k).any (fun l=>decide ((ap l).2≠0))=false) (fun k=>Ls.length - k) 0
  sB rfl rfl ⟨zf8 _,by simp⟩ ?_
 rintro k ⟨A,b⟩;refine rZ<|yL I<|tZ<|sQ<|iP I (fun j=>?_) (fun j=>?_)
 ·have e:k<svs.length:=oM;have a:k<Ls.length:=oM;have m:=za6 i oM;have o:svs[((k:Nat):Int).toNat]?=some svs[k]:=List.getElem?_eq_getElem e;have t:=x.get (List.getElem?_eq_getElem a)<|List.getElem?_eq_getElem e;generalize svs[k]=sv at *;obtain ⟨q,n,d⟩:=sv;refine kP<|tN<|sQ<|bK<|sW I<|aT I<|sW I<|lM I<|lM I<|lU (iA underlying109 ae I I m oM sL)<|SL.K (SQ.elemA aj ae I (za7 i) o)<|lW (SO.callV I I<|cz.mk (cap:=[]) call144<|FW E g _ _ Ls[k] t (z _<|gM a)) ?_;rintro _ _ _ ⟨rfl,rfl,rfl⟩;refine tZ<|iQ I (fun u=>?_) (fun u=>?_)
  ·refine sW I<|aT I<|rE<|bR<|tR<|tR<|bR<|tR ?_;have f:Ls.any (fun l=>decide ((ap l).2≠0))=true:=zk1.2 ⟨Ls[k],gM a,u⟩;exact za8 (.inl I) results197 I ⟨⟨k,I,by rw[f]; simp⟩,I,I⟩
  ·exact kP<|bN<|tN<|rG<|yD I<|lM I<|SL.nil<|ST.again (k+1) sB I I ⟨oM,by rw[tS a,List.any_append,b]; simpa using u⟩ oM
 ·refine xI<|tX<|tX<|bX<|tN<|rZ<|aT I<|rE ?_;have w:Ls.take k=Ls:=tL oM;rw[w] at b;exact za8 (.inl I) results197 I ⟨⟨-1,I,by rw[b]; rfl⟩,rfl,rfl⟩
theorem tH (E:World)(g:PH)(s:Own)(v:Value)(Ls:List (List Cl))(svs:List Sv)(a:SlA dL g v svs)(b:ax (fun l sv=>ai g (.slice sv.p sv.n sv.c) l) Ls svs)(d:∀ l∈Ls,aJ l)(hl:Ls.length<1099511627776) :
  Ctr Tryz.prog E 143 #[v,.func (.func 144) #[] #[]] g s (fun r g' s'=>r=vb (Ls.any fun l=>decide ((ap l).2≠0))∧g=g'∧s=s'):=by
 refine zb2 (args:=[v,.func (.func 144) #[] #[]]) func143 I ntmps143 (bE I)<|rZ<|aT I<|sW I<|lM I<|lW (SO.call call197 I<|zY E g _ v Ls svs a b d hl) ?_;rintro _ _ _ ⟨⟨n,rfl,hn⟩,rfl,rfl⟩;exact lU (gQ I I)<|aT I<|rE<|za8 (.inl I) results143 I ⟨by rw[hn],I,I⟩
theorem po (E:World)(g:PH)(s:Own)(v:Value)(Ls:List (List Cl))(svs:List Sv)(b:SlA dL g v svs)(d:ax (fun l sv=>ai g (.slice sv.p sv.n sv.c) l) Ls svs)(e:∀ l∈Ls,aJ l)(hl:Ls.length<1099511627776)(hr:∀ l∈Ls,(ap l).2=0) :
  Ctr Tryz.prog E 71 #[v] g s (fun r g' s'=>r=vb true∧g=g'∧s=s'):=by
 have a:Ls.any (fun l=>decide ((ap l).2≠0))=false:=zk7.2 fun l hl=>by simp[hr l hl]
 refine zb2 (args:=[v]) func71 I ntmps71 (bE I)<|rZ<|aT I<|sW I<|lW (SO.call call143 I<|tH E g _ v Ls svs b d e hl) ?_;rintro _ _ _ ⟨rfl,rfl,rfl⟩;rw[a];exact lU (SU.not I)<|aT I<|rE<|za8 (.inl I) results71 I ⟨I,I,I⟩
theorem er (E:World)(g:PH)(s:Own)(v:Value)(l:List Cl)(H:ai g v l)(J:aJ l)(f:((aa l).map Cl.id).Nodup) :
  Ctr Tryz.prog E 72 #[.agg #[v]] g s (fun r g' s'=>s=s'∧Le g g'∧lT g' r (aa l)):=by
 have w:=aA J;obtain ⟨pv,cv,rfl⟩:=H.form;refine zb2 (args:=[.agg #[.slice pv l.length cv]]) func72 I ntmps72 (bE I)<|rZ (bW (bO I) fun b1=>?_);refine aT I<|rZ<|lW (SO.mkMap) ?_;rintro _ _ _ ⟨b6,rfl,rfl,rfl⟩;refine aT I<|sQ<|rZ<|SL.K (qV 1 aj ae I I I)<|lW (SO.call call53 I<|eY E g _ _ l H J) ?_;rintro _ g1 _ ⟨rfl,j,u,rfl,L⟩;obtain ⟨rs,e,a⟩:=L;obtain ⟨q,d,rfl⟩:=za4 e;refine lU (SU.field dn I eh I I)<|lU (eN aB I)<|lM I<|tZ<|bK ?_;generalize aa l=A at *;have M:=a.length;have N:=w.1;have m:rs.map Rc.id=A.map Cl.id:=by
  refine List.ext_getElem? fun i=>?_;rw[zi2,zi2];by_cases t:i<A.length
  ·have n:i<rs.length:=oM;rw[List.getElem?_eq_getElem t,List.getElem?_eq_getElem n];exact ze4 some (a.get (List.getElem?_eq_getElem t)<|List.getElem?_eq_getElem n).1
  ·rw[List.getElem?_eq_none oM,List.getElem?_eq_none oM];rfl
 rw[← m] at f;refine oP (ι:=Nat) (fun i=>[(3,.map<|some b6),(9,.slice q rs.length d),(10,vi rs.length),(11,vi i)]) (fun _=>g1)
  (fun i=>mp b6 ((rs.take i).map aq)::pt b1 (.cells #[.slice pv l.length cv] 29 (0,0))::s)
  (fun i=>i≤rs.length) (fun i=>rs.length - i) 0 sB rfl rfl (zf8 _) ?_
 rintro k Q;refine rZ<|yL I<|tZ<|sQ<|iP I (fun y=>?_) (fun y=>?_)
 ·have o:k<rs.length:=oM;have z:=za6 e oM;have B:rs[((k:Nat):Int).toNat]?=some rs[k]:=List.getElem?_eq_getElem o;have C:rs.take (k+1)=rs.take k++[rs[k]]:=tS o;have p:∀ x∈rs.take k,x.id≠rs[k].id:=fun x O=>by
   obtain ⟨i,t,rfl⟩:=zc8 O;have D:i<k:=by rw[ze6] at t; omega
   rw[List.getElem_take];have P:=zd1.1 (List.nodup_iff_pairwise_ne.1 f) i k (by rw[ze8]; omega) (by rw[ze8]; omega) D;simpa only[List.getElem_map] using P
  have b:=kJ rs[k] (rs.take k);rw[jT p,← C] at b;generalize rs[k]=x at *;obtain ⟨xi,xd,xp,xn,xc⟩:=x;refine kP<|tN<|sQ<|bK<|rZ<|lU (iA aB aw I I z oM (show (k:Int)<((rs.length:Nat):Int) by omega)) ?_;refine SL.K (SQ.elemA dT aw I (za7 e) B) (bW (aL zl7) fun b5=>?_);refine oZ (sK 0 aw I I I I I sB) ?_;refine tZ<|rG<|lM I<|lU (fA ao I zT3 I)<|SL.K (qL (v:=vi xi) iT3 I<|cO 0 I I)<|SL.K (qV 0 dT aw I I I)<|lO (SO.mapUpdate 1 mty126 I I I I) ?_;rintro _ _ _ ⟨rfl,rfl⟩;refine SL.nil<|bN<|tN<|rG<|yD I<|lM I<|SL.nil<|dR (s':=mp b6 (gr ((rs.take k).map aq) xi<|rcv ⟨xi,xd,⟨xp,xn,xc⟩⟩)::pt b1 (.cells #[.slice pv l.length cv] 29 (0,0))::s) (.cons _<|.refl _) ?_;rw[b];exact ST.again (k+1) sB I I oM oM
 ·have F:rs.take k=rs:=tL oM;rw[F];refine xI (tX<|tX<|bX<|tN<|sW I<|aT I<|rE<|ST.freezeMap fun g2 c G=>?_);exact dR (s':=s) uR<|za8 (.inl I) results72 I ⟨I,j.trans c,b6,rs,I,G,a.mono fun _ _=>an.mono c⟩
theorem xz {A B:List Cl}{id:Int}:df A B id=((ah A id).isSome == (ah B id).isSome&&decide (((ah A id).getD aH).dim=((ah B id).getD aH).dim)&&decide (((ah A id).getD aH).sides=((ah B id).getD aH).sides)):=by
 unfold df;cases a:ah A id with
 | none =>
  cases hb:ah B id with
  | none=>simp
  | some d=>simp
 | some c =>
  cases hb:ah B id with
  | none=>simp
  | some d =>
   have b:=(aG a).2;have e:=(aG hb).2;rw[Bool.eq_iff_iff];simp[CU,b,e]
theorem bn (E:World)(g:PH)(s:Own)(v u:Value)(A B:List Cl)(id:Int)(H:lT g v A)(J:lT g u B)(hA:aJ A) :
  Ctr Tryz.prog E 74 #[v,u,vi id] g s (fun r g' s'=>r=vb (df A B id)∧g=g'∧s=s'):=by
 obtain ⟨m,rs,rfl,hm,d⟩:=H;obtain ⟨m2,o,rfl,p,a⟩:=J;obtain ⟨⟨xi,xd,xp,xn,xc⟩,q,e,-,f,i⟩:=dD d gW id;obtain ⟨⟨yi,yd,yp,yn,yc⟩,t,j,-,k,l⟩:=dD a gW id;have w:=xz (A:=A) (B:=B) (id:=id);have x:((ah A id).getD aH).sides.length<1099511627776:=by
  cases h:ah A id with
  | none=>simp[aH]
  | some c=>exact hA.2 c (aG h).1
 have y:(ex (rs.map aq) id).isSome=(ah A id).isSome:=e;have z:(ex (o.map aq) id).isSome=(ah B id).isSome:=j;have C:xd=((ah A id).getD aH).dim:=f;have D:yd=((ah B id).getD aH).dim:=k;have F:SlA encSide g (.slice xp xn xc) ((ah A id).getD aH).sides:=i;have G:SlA encSide g (.slice yp yn yc) ((ah B id).getD aH).sides:=l;rw[w];clear e f i j k l;generalize (ah A id).isSome=a1 at *;generalize (ah B id).isSome=b1 at *;generalize (ah A id).getD aH=X at *;generalize (ah B id).getD aH=Y at *;subst C D;refine zb2 (args:=[.map<|some m,.map<|some m2,vi id]) func74 I ntmps74 (bE I)<|rZ<|aT I<|sW I<|lM I<|SL.K (SQ.eq (v':=.tuple #[.agg #[vi xi,vi X.dim,.slice xp xn xc],vb a1]) (SQ.lookupOk mty126 I I<|bh.known hm) (by rw[q,y]; rfl)) ?_;refine lM I (yX I<|yX I<|bW (aL zl7) fun b7=>?_);refine oZ (sK 0 aw I I I I I sB)<|aT I<|sW I<|lM I<|SL.K (SQ.eq (v':=.tuple #[.agg #[vi yi,vi Y.dim,.slice yp yn yc],vb b1]) (SQ.lookupOk mty126 I I<|bh.known p) (by rw[t,z]; rfl)) ?_;refine lM I (yX I<|yX I<|bW (aL zl7) fun b9=>?_);refine oZ (sK 0 aw I I I I I sB)<|aT I ?_
 rcases Bool.eq_false_or_eq_true (a1 == b1) with b | b
 ·rcases Bool.eq_false_or_eq_true (decide (X.dim=Y.dim)) with n | n
  ·refine sW I<|lM I<|lU (SU.eq (v':=vb true) (SU.eqBB uT4 I I)<|ze4 vb b)<|lM I<|lY I I I (fA ao I zT3 I)<|SL.gq (gT I I I dC) (qL (v:=vi X.dim) iT3 I<|cO 1 I I) dC<|lY I I I (fA ao I zT3 I)<|SL.gq (gT I I I dC) (qL (v:=vi Y.dim) iT3 I<|cO 0 I I) dC<|lY I I I (SU.eq (v':=vb true) (eQ I I)<|ze4 vb n)<|yP I<|lM I<|lY I I I (fA ao I aM I)<|SL.gq (gT I I I dC) (qL (v:=.slice xp xn xc) br I<|cO 1 I I) dC<|lY I I I (fA ao I aM I)<|SL.gq (gT I I I dC) (qL (v:=.slice yp yn yc) br I<|cO 0 I I) dC<|ze3 (gT I I I dC) (SO.call call148 I<|rD E g _ _ _ X.sides Y.sides F G x) dC ?_;rintro _ _ _ ⟨rfl,rfl,rfl⟩;exact yP I<|aT I<|rE<|dR (s':=s) uR<|za8 (.inl I) results74 I ⟨by rw[b,n]; rfl,rfl,rfl⟩
  ·exact sW I<|lM I<|lU (SU.eq (v':=vb true) (SU.eqBB uT4 I I)<|ze4 vb b)<|lM I<|lY I I I (fA ao I zT3 I)<|SL.gq (gT I I I dC) (qL (v:=vi X.dim) iT3 I<|cO 1 I I) dC<|lY I I I (fA ao I zT3 I)<|SL.gq (gT I I I dC) (qL (v:=vi Y.dim) iT3 I<|cO 0 I I) dC<|lY I I I (SU.eq (v':=vb false) (eQ I I)<|ze4 vb n)<|yP I<|lM I<|yA I<|yA I<|yA I<|yA I<|yA I<|yF I<|aT I<|rE<|dR (s':=s) uR<|za8 (.inl I) results74 I ⟨by rw[b,n]; rfl,rfl,rfl⟩
 ·exact sW I<|lM I<|lU (SU.eq (v':=vb false) (SU.eqBB uT4 I I)<|ze4 vb b)<|lM I<|yA I<|yA I<|yA I<|yA I<|yA I<|yF I<|lM I<|yA I<|yA I<|yA I<|yA I<|yA I<|yF I<|aT I<|rE<|dR (s':=s) uR<|za8 (.inl I) results74 I ⟨by rw[b]; rfl,rfl,rfl⟩
theorem XC.freezeMap {P:Program}{M:Md}{N:Nat}{E:World}{Q:Exit→Act→World→Prop}{f:Fr}{g:PH}{s:Own}{c:Code}{b:Nat}{l:List (Int×Value)}(h:∀ g',Le g g'→Mp g' b l→XC P M N E c Q f g' s):XC P M N E c Q f g (mp b l::s):=fun a w d e=>by
 obtain ⟨g',i,j,k⟩:=e.freezeMap;exact h g' i k a w d j
def CS:Enc Nat 1:=⟨fun m=>[.map<|some m],fun _=>rfl,fun _ u hu=>by simp at hu; subst hu; rfl,by decide⟩
def CP (K:List Int)(x:Int):List Int:=if K.contains x then K else K++[x]
theorem DK {K:List Int}{x y:Int}:y∈CP K x↔y∈K∨y=x:=by
 unfold CP;split
 ·rename_i h;rw[List.contains_iff_mem] at h;exact⟨.inl,fun a=>a.elim id fun e=>e ▸ h⟩
 ·simp
theorem zW {K:List Int}(h:K.Nodup)(x:Int):(CP K x).Nodup:=by
 unfold CP;split
 ·exact h
 ·rename_i c;exact List.nodup_append.2 ⟨h,by simp,fun a d b hb e=>by simp at hb; subst hb; subst e; exact c (by simpa using d)⟩
theorem Dk {K:List Int}(x:Int):gr (iu K) x (vb true)=iu (CP K x):=by
 unfold CP;by_cases h:K.contains x=true
 ·rw[zg3 h];induction K with
  | nil=>simp at h
  | cons a K ih =>
   show (if x=a then (x,vb true)::iu K else (a,vb true)::gr (iu K) x (vb true))=_;by_cases e:x=a
   ·rw[zg3 e,e]; rfl
   ·rw[zg2 e,ih (by simpa [e] using h)]; rfl
 ·rw[zg2 h];exact sn (by simpa using h)
theorem oA (K:List Int):(iu K).map Prod.fst=K:=by
 unfold iu;rw[zi7];exact List.map_id K
theorem qZ:∀ {l m:List Int},l.Nodup→(∀ x∈l,x∈m)→l.length≤m.length
 | [],_,_,_=>zf8 _
 | x::l,m,hn,h=>by
  rw[zk4] at hn;have b:=qZ (l:=l) (m:=m.erase x) hn.2 fun y a=>(List.mem_erase_of_ne<|fun e=>hn.1 (by rw[← e]; exact a)).2 (h y<|by simp[a]);rw[List.length_erase_of_mem (h x<|by simp)] at b;have:0<m.length:=List.length_pos_of_mem (h x<|by simp);rw[zf1];omega
theorem Bq {a b:List Int}(f:a.Pairwise (· < ·))(hb:b.Pairwise (· < ·))(h:∀ x,x∈a↔x∈b):a=b:=by
 have c:a.Nodup:=f.imp fun h e=>by omega
 have d:b.Nodup:=hb.imp fun h e=>by omega
 exact ((List.perm_ext_iff_of_nodup c d).2 h).eq_of_pairwise (fun a b _ _ g i=>by omega) f hb
theorem zy {Ls:List (List Cl)}{K:List Int}(hn:K.Nodup)(h:∀ x,x∈K↔∃ A∈Ls,∃ c∈A,c.id=x):eU K=gV Ls:=by
 have a:=qQ K;refine Bq (((j9 K).and<|a.symm.nodup hn).imp fun h=>by have:=h.1; have:=h.2; omega) (lG Ls) fun x=>?_;rw[a.mem_iff,h,s7]
theorem xV {g:PH}{A:List Cl}{rs:List Rc}(h:ax (an g) A rs):(rs.map aq).map Prod.fst=A.map Cl.id:=by
 rw[zi7];refine List.ext_getElem? fun i=>?_;rw[zi2,zi2];have hl:=h.length;by_cases b:i<A.length
 ·have a:i<rs.length:=oM;rw[List.getElem?_eq_getElem b,List.getElem?_eq_getElem a];exact ze4 some (h.get (List.getElem?_eq_getElem b)<|List.getElem?_eq_getElem a).1
 ·rw[List.getElem?_eq_none oM,List.getElem?_eq_none oM];rfl
theorem oY (E:World)(g:PH)(s:Own)(p:Option Addr)(n c:Nat) :
  Ctr Tryz.prog E 73 #[.slice p n c] g s (fun r g' s'=>s=s'∧Le g g'∧∃ b,r = .func (.func 145) #[] #[pp b 0]∧g' b=some (.cells #[.slice p n c] 192 (0,0))):=by
 refine zb2 (args:=[.slice p n c]) func73 I ntmps73 (bE I)<|rZ (bW (bO I) fun b1=>?_);refine aT I (rZ<|lU (SU.mkFunc I)<|aT I<|rE<|ST.freeze fun g1 a hb=>?_);exact za8 (.inl I) results73 I ⟨I,a,_,I,hb⟩
theorem m9 (E:World)(hE:E.drawn=0)(g0:PH)(b:Nat)(p:Option Addr)(c:Nat)(ms:List Nat)(Ls:List (List Cl))(hb:g0 b=some (.cells #[.slice p ms.length c] 192 (0,0)))(hv:SlA CS g0 (.slice p ms.length c) ms)(ha:ax (fun L m=>lT g0 (.map<|some m) L) Ls ms)
  (hi:∀ L∈Ls,∀ x∈L,a7 x.id) (hl:Ls.flatten.length<1000000) (d5:ms.length<1000) :
  Ey Tryz.prog E 145 [pp b 0] (fun k:Int=>[vi k]) (gV Ls) g0:=by
 intro y ι G S J i0 h0 F a4 hY sx;have d6:=ha.length;have H:=F _ _ h0;have a5:=H _ _ hb;have U:=za5 hv H;refine Ctr.ofX (args:=[.func (.yield y) #[] #[],pp b 0]) func145 I ntmps145 (bE I)<|XC.seq<|XC.region<|XL.o (SO.mkMap) dC ?_;rintro _ _ _ ⟨b9,rfl,rfl,rfl⟩;refine XL.u (aS I) dC<|XL.nil<|XT.thenN<|XC.seq<|XC.seq<|XC.region<|XL.q (qL (v:=.slice p ms.length c) isAgg192 I<|cK a5 I) dC<|XL.u (eN underlying192 I) dC<|XL.u (mV I) dC<|XL.nil<|XT.thenN<|XC.block<|XC.loop (ι:=Nat×List Int) (fun z=>[(0,.func (.yield y) #[] #[]),(3,.map<|some b9),(10,.slice p ms.length c),(11,vi ms.length),(12,vi z.1)]) (fun _=>G i0) (fun z=>mp b9 (iu z.2)::(S i0++sx)) (fun z=>z.1≤Ls.length∧z.2.Nodup∧∀ x,x∈z.2↔∃ A∈Ls.take z.1,∃ c∈A,c.id=x) (fun z=>Ls.length - z.1) (0,[])
  sB rfl rfl ⟨zf8 _,by simp,by simp⟩ ?_
 rintro ⟨k,K⟩ ⟨hk,t,a⟩;dsimp only at hk t a ⊢;refine XC.seq<|XC.region<|XL.u (lS I I) dC<|XL.nil<|XT.thenN<|XC.seq<|XC.ifP I (fun a9=>?_) (fun a9=>?_)
 ·have V:k<ms.length:=oM;have W:k<Ls.length:=oM;have b0:=za6 U oM;have b1:ms[((k:Nat):Int).toNat]?=some ms[k]:=List.getElem?_eq_getElem V;have hT:=(ha.get (List.getElem?_eq_getElem W)<|List.getElem?_eq_getElem V).mono H;have b2:Ls.take (k+1)=Ls.take k++[Ls[k]]:=tS W;generalize Ls[k]=A at *;generalize ms[k]=m at *;obtain ⟨m',rs,b3,hm,g⟩:=hT;obtain rfl:m=m':=by injection b3 with h; injection h
  obtain ⟨es,clk,M,w⟩:=hm;refine XC.skip<|XT.thenN<|XC.seq<|XC.block<|XC.seq<|XC.region<|XL.u (iA underlying192 sizeOf126 I I b0 oM sL) dC<|XL.q (eB bl I (za7 U) b1 I) dC<|XL.u (aS I) dC<|XL.nil<|XT.thenN<|XC.seq<|XC.region<|XL.u (mV I) dC<|XL.o (SO.range underlying126 I M) dC ?_;rintro _ _ _ ⟨it,rfl,rfl,rfl⟩;refine XL.nil<|XT.thenN<|XC.block<|XC.loop (ι:=List MapEntry×List (Int×Value)×List Int) (fun z=>[(0,.func (.yield y) #[] #[]),(3,.map<|some b9),(10,.slice p ms.length c),(11,vi ms.length),(12,vi k),(17,pp it 0)]) (fun _=>G i0) (fun z=>iter it m es clk z.1::mp b9 (iu z.2.2)::(S i0++sx)) (fun z=>lV (rs.map aq) es z.1 z.2.1∧z.2.2.Nodup∧∀ x,x∈z.2.2↔(∃ A∈Ls.take k,∃ c∈A,c.id=x)∨x∈z.2.1.map Prod.fst) (fun z=>rs.length - z.2.1.length) ([],[],K)
   sB rfl rfl ⟨lV.nil _ _,t,fun x=>by simpa using a x⟩ ?_
  rintro ⟨vis,vl,K2⟩ ⟨N,r,d⟩;dsimp only at N r d ⊢;have X:=N.len w;simp only[ze8] at X;refine XC.seq<|XC.region<|XL.o (SO.nextP 0 I I M w N) dC ?_;rintro _ _ _ ⟨rfl,O⟩
  rcases O with ⟨rfl,rfl,P⟩ | ⟨e,pr,he,b4,b5,b6,C,rfl,rfl⟩
  ·have Q:∀ x,x∈K2↔∃ A∈Ls.take (k+1),∃ c∈A,c.id=x:=fun x=>by
    rw[d,b2,(P.map Prod.fst).mem_iff,xV g];constructor
    ·rintro (⟨A',n,h2⟩ | h)
     ·exact⟨A',by simp[n],h2⟩
     ·obtain ⟨c,R,e⟩:=zf4.1 h;exact⟨A,by simp,c,R,e⟩
    ·rintro ⟨A',n,h2⟩
     rcases zf5.1 n with n | n
     ·exact .inl ⟨A',n,h2⟩
     ·simp at n;subst n;obtain ⟨c,R,e⟩:=h2;exact .inr<|zf4.2 ⟨c,R,e⟩
   exact XL.u (xT I I) dC<|XL.nil<|XT.thenN<|XC.seq<|XC.condF I<|XC.exit<|XT.thenX<|XT.thenX<|XT.blockX<|XT.blockN<|XT.thenN<|XC.region<|XL.u (aD I I oM) dC<|XL.u (mV I) dC<|XL.nil<|XT.drop (.cons _<|.refl _)<|XT.again (k+1,K2) sB I I ⟨by dsimp only; omega,r,Q⟩ (by dsimp only; omega)
  ·obtain ⟨x,hx,rfl⟩:=zf4.1 b4;obtain ⟨xi,xd,xv⟩:=x;have b7:=C.len w;simp only[ze8,ze7,ze9] at b7;have Y:=Dk (K:=K2) xi;refine XL.u (xT I I) dC<|XL.nil<|XT.thenN<|XC.seq<|XC.condT I<|XC.skip<|XT.thenN<|XC.block<|XC.seq<|XC.region<|XL.q (SQ.entryP 0 I I M w he b5 b6) dC<|XL.u (xT I I) dC<|XL.u (aS I) dC<|XL.nil<|XT.thenN<|XC.region<|XL.u (mV I) dC<|XL.u (mV I) dC<|XL.on (SO.mapUpdate 1 mty143 I I I I) ?_;rintro _ _ _ ⟨rfl,rfl⟩;rw[show gr (iu K2) (aq ⟨xi,xd,xv⟩).1 (vb true)=iu (CP K2 xi) from Y];refine XL.nil<|XT.blockN ?_;exact XT.again (vis++[e],vl++[aq ⟨xi,xd,xv⟩],CP K2 xi) sB I I ⟨C,zW r xi,fun z=>by
    dsimp only;rw[DK,d,zg7,zf5];simp only[zg6,List.map_nil,zh9,aq];exact or_assoc⟩ (by dsimp only; simp only[ze7,ze9]; omega)
 ·have b8:Ls.take k=Ls:=tL oM;rw[b8] at a;have Z:K.length<1099511627776:=by
   have n:=qZ (m:=Ls.flatten.map Cl.id) (l:=K) t fun x hx=>by
    obtain ⟨A,hA,c,R,e⟩:=(a x).1 hx;exact zf4.2 ⟨c,List.mem_flatten.2 ⟨A,hA,R⟩,e⟩
   rw[ze8] at n;omega
  have g:=zy t a;refine XC.exit<|XT.thenX<|XT.thenX<|XT.blockX<|XT.thenN<|XC.seq<|XC.freezeMap fun g1 a0 c0=>?_;refine XC.region<|XL.u (mV I) dC<|XL.o (SO.call call147 I<|Cg E g1 _ b9) dC ?_;rintro _ g2 _ ⟨rfl,D,bk,rfl,c1⟩;refine XL.o (SO.call call146 I<|wz E hE g2 _ bk b9 (iu K) c1 (c0.mono D) (by rw[← ze8 (f:=Prod.fst),oA]; exact Z) (fun q hq=>by have n:q.1∈(iu K).map Prod.fst:=zf4.2 ⟨q,hq,I⟩; rw[oA] at n; obtain ⟨A,hA,c,R,e⟩:=(a q.1).1 n; rw[← e]; exact hi A hA c R)) dC ?_;rintro _ g3 _ ⟨rfl,a1,B⟩;rw[oA,g] at B;obtain ⟨q3,c3,rfl⟩:=za4 B;refine XL.u (eN az I) dC ?_;refine XL.u (mV I) dC ?_;refine XL.nil ?_;refine XT.thenN ?_;refine XC.block ?_;have T:=a0.trans<|D.trans a1;obtain ⟨i1,c2,a2,c5⟩:=a4 _ _ _ h0 T;refine XC.loop (ι:=ι×Nat) (fun z=>[(0,.func (.yield y) #[] #[]),(27,.slice q3 (gV Ls).length c3),(28,vi (gV Ls).length),(29,vi z.2)]) (fun z=>G z.1) (fun z=>S z.1++sx) (fun z=>z.2≤(gV Ls).length∧Le g3 (G z.1)∧J ((gV Ls).take z.2) z.1) (fun z=>(gV Ls).length - z.2) (i1,0)
   sB a2 (by dsimp only; rw[c5]) ⟨zf8 _,by dsimp only; rw[a2]; exact zb9 _,c2⟩ ?_
  rintro ⟨i,j⟩ ⟨hj,s,hJ⟩;dsimp only at hj s hJ ⊢;have d7:(gV Ls).length<1099511627776:=by rw[← g,gj]; exact Z
  refine XC.seq<|XC.region<|XL.u (lS I I) dC<|XL.nil<|XT.thenN<|XC.seq<|XC.ifP I (fun c6=>?_) (fun c6=>?_)
  ·have a3:j<(gV Ls).length:=oM;have c7:=za6 B oM;have c9:(gV Ls)[((j:Nat):Int).toNat]?=some (gV Ls)[j]:=List.getElem?_eq_getElem a3;have d0:(gV Ls).take (j+1)=(gV Ls).take j++[(gV Ls)[j]]:=tS a3;have d1:gV Ls=(gV Ls).take j++(gV Ls)[j]::(gV Ls).drop (j+1):=by rw[List.getElem_cons_drop,zj4]
   have hy:=hY _ _ _ i sx d1 hJ;refine XC.skip<|XT.thenN<|XC.seq<|XC.block<|XC.seq<|XC.region<|XL.u (iA az zT3 I I c7 oM sL) dC<|XL.q (eB iT3 I (za7<|za5 B s) c9 I) dC<|XL.u (aS I) dC<|XL.nil<|XT.thenN<|XC.seq<|XC.region<|XL.u (mV I) dC<|XL.u (mV I) dC<|XL.x (XO.yield I I hy) dC ?_;rintro _ _ _ ⟨rfl,j',d2,d3,rfl,rfl⟩;exact XL.u (SU.not I) dC<|XL.nil<|XT.thenN<|XC.condF I<|XC.skip<|XT.blockN<|XT.thenN<|XC.region<|XL.u (aD I I oM) dC<|XL.u (mV I) dC<|XL.nil<|XT.again (j',j+1) sB I I ⟨by dsimp only; omega,s.trans d3,by dsimp only; rw[d0]; exact d2⟩ (by dsimp only; omega)
  ·have d4:(gV Ls).take j=gV Ls:=tL oM;rw[d4] at hJ;exact XC.exit<|XT.thenX<|XT.thenX<|XT.blockX<|XT.leave0 (.inr I)<|ST.ret0 (.inr I) results145 ⟨i,hJ,I,I⟩
end Go.Proofs.YtbbppeihhkhkcaaGreatDoor
