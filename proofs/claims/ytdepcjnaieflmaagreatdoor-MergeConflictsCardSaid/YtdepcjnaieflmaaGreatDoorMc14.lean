/- 14 -/
import Derived.Test.YtdepcjnaieflmaaGreatDoorMc13
set_option linter.unusedSimpArgs false
set_option linter.unusedVariables false
namespace Go.Proofs.YtdepcjnaieflmaaGreatDoor
open _root_.Go.Proofs.Tryz _root_.Go.Proofs.YtdepcjnaieflmaaGreatDoor.Tryz
open Go Go.Sy Go.Pl Go.Proofs
set_option maxRecDepth 100000
set_option maxHeartbeats 8000000
theorem uD {l:List Cl}(a:aM l)(id:Int):((findC l id).getD aA).sides.length<1099511627776:=by
 unfold findC;cases h:(am l).find? (fun c=>decide (c.id=id)) with
 | none=>simp[aA]
 | some c=>exact (bU a).2 c<|zk8 h
theorem Tryz.bA58 (a:Int)(b:Int)  (w:World):(Instr.build 58 #[(0,vi a),(1,vi b)]).run Tryz.prog w = .ok (.agg #[vi a,vi b,vi 0,vi 0,vi 0,.slice none 0 0,.slice none 0 0]) w:=by
 have c:(vi a).cells = #[vi a]:=rfl;have d:(vi b).cells = #[vi b]:=rfl;simp[Instr.build,Instr.fill,c,d];rfl
theorem Tryz.bB58 (a:Int)(b:Int)(d:Int)(q:Option Addr)(c e:Nat)(w:World):(Instr.build 58 #[(0,vi a),(1,vi b),(2,vi d),(5,.slice q c e)]).run Tryz.prog w = .ok (.agg #[vi a,vi b,vi d,vi 0,vi 0,.slice q c e,.slice none 0 0]) w:=by
 have f:(vi a).cells = #[vi a]:=rfl;have g:(vi b).cells = #[vi b]:=rfl;have i:(vi d).cells = #[vi d]:=rfl;have j:(Value.slice q c e).cells = #[.slice q c e]:=rfl;simp[Instr.build,Instr.fill,f,g,i,j];rfl
theorem Tryz.bC58 (a:Int)(b:Int)(d:Int)(e:Int)  (w:World):(Instr.build 58 #[(0,vi a),(1,vi b),(3,vi d),(4,vi e)]).run Tryz.prog w = .ok (.agg #[vi a,vi b,vi 0,vi d,vi e,.slice none 0 0,.slice none 0 0]) w:=by
 have c:(vi a).cells = #[vi a]:=rfl;have f:(vi b).cells = #[vi b]:=rfl;have g:(vi d).cells = #[vi d]:=rfl;have i:(vi e).cells = #[vi e]:=rfl;simp[Instr.build,Instr.fill,c,f,g,i];rfl
theorem Tryz.bD58 (a:Int)(q:Option Addr)(b c:Nat)(w:World):(Instr.build 58 #[(0,vi a),(6,.slice q b c)]).run Tryz.prog w = .ok (.agg #[vi a,vi 0,vi 0,vi 0,vi 0,.slice none 0 0,.slice q b c]) w:=by
 have d:(vi a).cells = #[vi a]:=rfl;have e:(Value.slice q b c).cells = #[.slice q b c]:=rfl;simp[Instr.build,Instr.fill,d,e];rfl
theorem Tryz.bE58 (a:Int)(b:Int)(d:Int)  (w:World):(Instr.build 58 #[(0,vi a),(1,vi b),(4,vi d)]).run Tryz.prog w = .ok (.agg #[vi a,vi b,vi 0,vi 0,vi d,.slice none 0 0,.slice none 0 0]) w:=by
 have c:(vi a).cells = #[vi a]:=rfl;have e:(vi b).cells = #[vi b]:=rfl;have f:(vi d).cells = #[vi d]:=rfl;simp[Instr.build,Instr.fill,c,e,f];rfl
theorem Tryz.bF58 (a:Int)(b:Int)(d:Int)(e:Int)(h:Int)(q:Option Addr)(c f:Nat)(r:Option Addr)(g rc:Nat)(w:World):(Instr.build 58 #[(0,vi a),(1,vi b),(2,vi d),(3,vi e),(4,vi h),(5,.slice q c f),(6,.slice r g rc)]).run Tryz.prog w = .ok (.agg #[vi a,vi b,vi d,vi e,vi h,.slice q c f,.slice r g rc]) w:=by
 have i:(vi a).cells = #[vi a]:=rfl;have j:(vi b).cells = #[vi b]:=rfl;have k:(vi d).cells = #[vi d]:=rfl;have l:(vi e).cells = #[vi e]:=rfl;have m:(vi h).cells = #[vi h]:=rfl;have n:(Value.slice q c f).cells = #[.slice q c f]:=rfl;have o:(Value.slice r g rc).cells = #[.slice r g rc]:=rfl;simp[Instr.build,Instr.fill,i,j,k,l,m,n,o];rfl
theorem mw (E:World)(g:PH)(s:Own)(v:Value)(l:List Cl)(k0 f t F:Int)(hv:ai g v l)(hf:aM l) :
  Ctr Tryz.prog E 79 #[.agg #[vi k0,vi f,vi t,vi F],.agg #[v]] g s (fun r g' s'=>s=s'∧Le g g'∧∃ e,EdR g' r e∧e.sides.length<1099511627776∧e.pairs.length≤3∧((bV k0 10=0∨bV k0 10=1∨bV k0 10=2)→e.kind=1)∧((∀ c∈l,a8 c.id)→a8 f→a8 t→a8 F→(e.kind=1→a8 e.cell)∧(e.kind=3→a8 e.new∧a8 e.other))):=by
 have q3:=hv;obtain ⟨rs,b0,b1⟩:=hv;have d5:=b1.length;have q4:=hf.1;obtain ⟨p,c,rfl⟩:=za4 b0;have d9:∀ d,(CZ l d).length<1099511627776:=fun d=>by
  have y:(CZ l d).length≤(am l).length:=by unfold CZ;rw[ze8];exact zc6 _ _
  have h2:=(bU hf).1;omega
 have l4:(wy l).length<1099511627776:=by
  have y:(wy l).length≤(am l).length:=by unfold wy;rw[ze8];exact zc6 _ _
  have h2:=(bU hf).1;omega
 have c2:=d9 0;have c9:=d9 1;rw[← d5] at b0 ⊢;have m2:ai g (.slice p l.length c) l:=⟨rs,b0,b1⟩;refine zb2 (args:=[.agg #[vi k0,vi f,vi t,vi F],.agg #[.slice p l.length c]]) func79 I ntmps79 (bE I)<|rZ (bW (bO I) fun J=>?_);refine bW (bO I) fun N=>bW (aL zm3) fun C=>tZ<|rZ<|aT I<|sQ<|rZ<|aT I<|bK<|zb6 3 1<|oP (ι:=Nat×Value×List Int) (fun i=>[(2,pp J 0),(3,pp N 0),(4,pp C 0),(5,i.2.1),(6,vi i.1)]) (fun _=>g) (fun i=>rowA encInt 3 i.2.1 i.2.2::pt C (bY #[vi 0,vi 0,vi 0,vi 0,vi 0,.slice none 0 0,.slice none 0 0] 58)::pt N (bY #[.slice p l.length c] 29)::pt J (bY #[vi k0,vi f,vi t,vi F] 117)::s)
  (fun i=>i.1≤l.length∧i.2.2.length=i.1∧∀ z∈i.2.2,∃ c∈l,c.id=z) (fun i=>l.length - i.1) (0,.slice none 0 0,[]) sB rfl rfl ⟨zf8 _,rfl,by simp⟩ ?_
 rintro ⟨k,ov,acc⟩ ⟨hk,e0,b5⟩;dsimp only at hk e0 b5 ⊢;refine sQ<|sW I<|lU (fA dA I cq I)<|lK (qL (v:=.slice p l.length c) eG I<|cO 2 I I)<|lU (eN aF I)<|yL I<|tZ<|iP I (fun e4=>?_) (fun e4=>?_)
 ·have e9:k<rs.length:=oM;have f7:=za6 b0 oM;have m3:rs[((k:Nat):Int).toNat]?=some rs[k]:=List.getElem?_eq_getElem e9;have m4:∃ c∈l,c.id=rs[k].id:=⟨l[k]'oM,gM _,((b1.get (List.getElem?_eq_getElem oM) (List.getElem?_eq_getElem e9)).1).symm⟩;generalize rs[k]=x at *;refine kP (tN (sQ (bK (rG (lM I (lU (fA dA I cq I) (lK (qL (v:=.slice p l.length c) eG I (cO 2 I I)) (lM I (lU (iA aF ar I I f7 oM sL) (lU (fC ao I zT3 I f7) (lK (aZ (e:=encCell) (o:=0) (u:=vi x.id) iT3 I (za7 b0) m3 I) (lW (bS sty32 I I I (ab ⟨I,trivial⟩) dC) ?_))))))))))));rintro _ _ _ ⟨q5,rfl,rfl,rfl⟩;refine lW (aP (e:=encInt) (l:=acc) 0 x.id sty32 I I I I I oM oM) ?_;rintro ov' _ _ ⟨rfl,rfl⟩;refine lA I (SL.nil (bN (tN (rG (lM I (yD I (lA I (SL.nil ?_))))))));exact ST.again (k+1,ov',acc++[x.id]) sB I I ⟨by dsimp only;omega,by dsimp only;rw[ze7,ze9];omega,fun z hz=>by
   dsimp only at hz
   rcases zf5.1 hz with h | h
   ·exact b5 z h
   ·simp at h;rw[h];exact m4⟩ (by dsimp only;omega)
 clear e4;have b6:acc.length<1099511627776:=oM;clear hk e0;refine xI (tX<|tX<|bX<|tN<|sQ<|fS fun g1 c5 hI=>?_);obtain ⟨qI,dI,rfl⟩:=zc3 hI;have hI:dp g1 (.slice qI acc.length dI) acc:=hI;have f8:=m2.mono c5;refine rG<|lK (qV 1 an ae I I I)<|lW (SO.call call125 I<|pw E g1 _ _ l 0 f8 hf) ?_;rintro _ g2 _ ⟨rfl,b7,hV⟩;obtain ⟨pV,cV,rfl⟩:=za4 hV;have g9:=f8.mono b7;have hI:=za5 hI b7;refine aT I<|rZ<|lK (qV 1 an ae I I I)<|lW (SO.call call125 I<|pw E g2 _ _ l 1 g9 hf) ?_;rintro _ g3 _ ⟨rfl,a4,hW⟩;obtain ⟨pW,cW,rfl⟩:=za4 hW;have U:=g9.mono a4;have hI:=za5 hI a4;have hV:=za5 hV a4;generalize CZ l 0=V at *;generalize CZ l 1=W at *;refine aT I<|rZ<|lK (qV 1 an ae I I I)<|lW (SO.call call126 I<|vG E g3 _ _ l U hf) ?_;rintro _ _ _ ⟨rfl,rfl,n0,rfl,n2⟩;have d0:=c5.trans<|b7.trans a4;refine aT I<|SC.cut (ι:=Int) (fun n=>[(2,pp J 0),(3,pp N 0),(4,pp C 0),(5,.slice qI acc.length dI),(7,.slice pV V.length cV),(8,.slice pW W.length cW),(9,vi n)]) (fun _=>g3) (fun _=>pt C (bY #[vi 0,vi 0,vi 0,vi 0,vi 0,.slice none 0 0,.slice none 0 0] 58)::pt N (bY #[.slice p l.length c] 29)::pt J (bY #[vi k0,vi f,vi t,vi F] 117)::s) (fun n=>(∀ c∈l,a8 c.id)→a8 n) ?_ ?_
 ·refine rZ<|lU (fA dY I zT3 I)<|lK (qL (v:=vi F) iT3 I<|cO 2 I I)<|lU (zd9 I I dC)<|yE I<|tZ<|iP I (fun hz=>?_) (fun hz=>?_)
  ·refine rG<|lM I<|lU (fA dY I zT3 I)<|lK (qL (v:=vi F) iT3 I<|cO 2 I I)<|lU (SU.quo I I dC)<|lW (SO.call call127 I<|py E g3 _ _ acc _ hI b6) ?_;rintro _ _ _ ⟨rfl,rfl,n1,rfl,n3⟩;exact lA I<|SL.nil<|za9 n1 sB I I fun h=>by
    rcases n3 with e | e
    ·try dsimp only
     rw[e];unfold a8;omega
    ·obtain ⟨c,hc,e2⟩:=b5 _ e;try dsimp only
     rw[← e2];exact h c hc
  ·exact kP<|za9 n0 sB I I fun _=>n2
 rintro n K;try dsimp only
 refine SC.cut (ι:=Nat×PH×Cl×Rc) (fun i=>[(2,pp J 0),(3,pp N 0),(4,pp C 0),(5,.slice qI acc.length dI),(7,.slice pV V.length cV),(8,.slice pW W.length cW),(9,vi n),(10,pp i.1 0)]) (fun i=>i.2.1) (fun i=>pt i.1 (bY #[vi i.2.2.2.id,vi i.2.2.2.dim,.slice i.2.2.2.sv.p i.2.2.2.sv.n i.2.2.2.sv.c] 37)::pt C (bY #[vi 0,vi 0,vi 0,vi 0,vi 0,.slice none 0 0,.slice none 0 0] 58)::pt N (bY #[.slice p l.length c] 29)::pt J (bY #[vi k0,vi f,vi t,vi F] 117)::s) (fun i=>Le g3 i.2.1∧ak i.2.1 i.2.2.1 i.2.2.2∧i.2.2.1.sides.length<1099511627776) ?_ ?_
 ·refine SC.drawX [10] ze5 kR ?_;refine SX.q (i:=0) I kR (qV 1 an ae I I I) dC<|SX.u (i:=1) I kR (mV I) dC<|SX.u (i:=2) I kR (fA dY I zT3 I) dC<|SX.q (i:=3) I kR (qL (v:=vi f) iT3 I<|cO 2 I I) dC ?_
  repeat' (first
   | (refine SB.o (i:=4) rfl (SO.call call127 rfl<|dX E g3 _ _ acc f hI b6) dC (.inr (by rintro _ _ _ ⟨rfl,rfl,m1,rfl⟩;exact⟨by exact zb9 _,(by exact .cons _<|.refl _)⟩)) ?_;rintro _ _ _ ⟨rfl,rfl,m1,rfl⟩)
   | (refine SB.o (i:=4) rfl (SO.call call127 rfl<|dX E g3 _ _ acc f hI b6) dC (.inr (by rintro _ _ _ ⟨rfl,rfl,m1,rfl⟩;exact⟨by exact zb9 _,(by exact .refl _)⟩)) ?_;rintro _ _ _ ⟨rfl,rfl,m1,rfl⟩)
   | (refine SB.o (i:=5) rfl (SO.call call55 rfl<|bc E g3 _ _ l m1 U hf) dC (.inr (by rintro _ gF _ ⟨rfl,D,rF,rfl,P⟩;exact⟨by assumption,(by exact .cons _<|.refl _)⟩)) ?_;rintro _ gF _ ⟨rfl,D,rF,rfl,P⟩;refine SX.u (i:=6) I kD (mV I) dC ?_;refine SX.u (i:=7) I kD (xT I I) dC ?_;refine SX.u (i:=8) I kD (xT I I) dC ?_)
   | (refine SB.o (i:=5) rfl (SO.call call55 rfl<|bc E g3 _ _ l m1 U hf) dC (.inr (by rintro _ gF _ ⟨rfl,D,rF,rfl,P⟩;exact⟨by assumption,(by exact .refl _)⟩)) ?_;rintro _ gF _ ⟨rfl,D,rF,rfl,P⟩;refine SX.u (i:=6) I kD (mV I) dC ?_;refine SX.u (i:=7) I kD (xT I I) dC ?_;refine SX.u (i:=8) I kD (xT I I) dC ?_)
   | (refine SB.o (i:=9) rfl (aL zm2) dC (.inr (by rintro _ _ _ ⟨bF,rfl,rfl,rfl⟩;exact⟨by exact zb9 _,(by exact .cons _<|.refl _)⟩)) ?_;rintro _ _ _ ⟨bF,rfl,rfl,rfl⟩)
   | (refine SB.o (i:=9) rfl (aL zm2) dC (.inr (by rintro _ _ _ ⟨bF,rfl,rfl,rfl⟩;exact⟨by assumption,(by exact .cons _<|.refl _)⟩)) ?_;rintro _ _ _ ⟨bF,rfl,rfl,rfl⟩)
   | (refine SB.on (i:=10) I (sK 0 ar I I I I I sB) (.inl dC) ?_;rintro _ _ _ ⟨rfl,rfl⟩;refine SX.u (i:=11) I kD (aS I) dC ?_)
   | refine zd8 4 9 kD ?_ ?_
   | refine zd8 5 9 kD ?_ ?_
   | refine zd7 9 kD ?_
   | refine zd7 10 kD ?_
   | refine zd7 5 kD ?_
   | refine zd7 4 kD ?_
   | (refine SX.nil kD ?_;exact za9 (bF,gF,(findC l m1).getD aA,rF) sB I I ⟨D,P,uD hf m1⟩))
 rintro ⟨B,g4,X,⟨M,Q,xp,xn,xc⟩⟩ ⟨a5,⟨-,-,d1⟩,n5⟩;dsimp only at a5 d1 n5 ⊢;have n6:xn=X.sides.length:=zc2 d1;subst n6;have U:=U.mono a5;have hI:=za5 hI a5;refine SC.cut (ι:=Nat×PH×Cl×Rc) (fun i=>[(2,pp J 0),(3,pp N 0),(4,pp C 0),(5,.slice qI acc.length dI),(7,.slice pV V.length cV),(8,.slice pW W.length cW),(9,vi n),(10,pp B 0),(12,pp i.1 0)]) (fun i=>i.2.1) (fun i=>pt i.1 (bY #[vi i.2.2.2.id,vi i.2.2.2.dim,.slice i.2.2.2.sv.p i.2.2.2.sv.n i.2.2.2.sv.c] 37)::pt B (bY #[vi M,vi Q,.slice xp X.sides.length xc] 37)::pt C (bY #[vi 0,vi 0,vi 0,vi 0,vi 0,.slice none 0 0,.slice none 0 0] 58)::pt N (bY #[.slice p l.length c] 29)::pt J (bY #[vi k0,vi f,vi t,vi F] 117)::s) (fun i=>Le g4 i.2.1∧ak i.2.1 i.2.2.1 i.2.2.2∧i.2.2.1.sides.length<1099511627776) ?_ ?_
 ·refine SC.drawX [10] ze5 kR ?_;refine SX.q (i:=0) I kR (qV 2 an ae I I I) dC<|SX.u (i:=1) I kR (mV I) dC<|SX.u (i:=2) I kR (fA dY I zT3 I) dC<|SX.q (i:=3) I kR (qL (v:=vi t) iT3 I<|cO 3 I I) dC ?_
  repeat' (first
   | (refine SB.o (i:=4) rfl (SO.call call127 rfl<|dX E g4 _ _ acc t hI b6) dC (.inr (by rintro _ _ _ ⟨rfl,rfl,m1,rfl⟩;exact⟨by exact zb9 _,(by exact .cons _<|.refl _)⟩)) ?_;rintro _ _ _ ⟨rfl,rfl,m1,rfl⟩)
   | (refine SB.o (i:=4) rfl (SO.call call127 rfl<|dX E g4 _ _ acc t hI b6) dC (.inr (by rintro _ _ _ ⟨rfl,rfl,m1,rfl⟩;exact⟨by exact zb9 _,(by exact .refl _)⟩)) ?_;rintro _ _ _ ⟨rfl,rfl,m1,rfl⟩)
   | (refine SB.o (i:=5) rfl (SO.call call55 rfl<|bc E g4 _ _ l m1 U hf) dC (.inr (by rintro _ gF _ ⟨rfl,D,rF,rfl,P⟩;exact⟨by assumption,(by exact .cons _<|.refl _)⟩)) ?_;rintro _ gF _ ⟨rfl,D,rF,rfl,P⟩;refine SX.u (i:=6) I kD (mV I) dC ?_;refine SX.u (i:=7) I kD (xT I I) dC ?_;refine SX.u (i:=8) I kD (xT I I) dC ?_)
   | (refine SB.o (i:=5) rfl (SO.call call55 rfl<|bc E g4 _ _ l m1 U hf) dC (.inr (by rintro _ gF _ ⟨rfl,D,rF,rfl,P⟩;exact⟨by assumption,(by exact .refl _)⟩)) ?_;rintro _ gF _ ⟨rfl,D,rF,rfl,P⟩;refine SX.u (i:=6) I kD (mV I) dC ?_;refine SX.u (i:=7) I kD (xT I I) dC ?_;refine SX.u (i:=8) I kD (xT I I) dC ?_)
   | (refine SB.o (i:=9) rfl (aL zm2) dC (.inr (by rintro _ _ _ ⟨bF,rfl,rfl,rfl⟩;exact⟨by exact zb9 _,(by exact .cons _<|.refl _)⟩)) ?_;rintro _ _ _ ⟨bF,rfl,rfl,rfl⟩)
   | (refine SB.o (i:=9) rfl (aL zm2) dC (.inr (by rintro _ _ _ ⟨bF,rfl,rfl,rfl⟩;exact⟨by assumption,(by exact .cons _<|.refl _)⟩)) ?_;rintro _ _ _ ⟨bF,rfl,rfl,rfl⟩)
   | (refine SB.on (i:=10) I (sK 0 ar I I I I I sB) (.inl dC) ?_;rintro _ _ _ ⟨rfl,rfl⟩;refine SX.u (i:=11) I kD (aS I) dC ?_)
   | refine zd8 4 9 kD ?_ ?_
   | refine zd8 5 9 kD ?_ ?_
   | refine zd7 9 kD ?_
   | refine zd7 10 kD ?_
   | refine zd7 5 kD ?_
   | refine zd7 4 kD ?_
   | (refine SX.nil kD ?_;exact za9 (bF,gF,(findC l m1).getD aA,rF) sB I I ⟨D,P,uD hf m1⟩))
 rintro ⟨G,g5,Y,⟨R,yd,yp,yn,yc⟩⟩ ⟨Z,⟨-,-,h6⟩,n7⟩;dsimp only at Z h6 n7 ⊢;have n8:yn=Y.sides.length:=zc2 h6;subst n8;have d2:=U.mono Z;have q9:=za5 hI Z;have a0:=a5.trans Z;have b8:=za5 hV a0;have h9:=za5 hW a0;have b9:=za5 d1 Z;have m:=d0.trans a0;refine sQ<|rZ<|lU (fA dY I zT3 I)<|lK (qL (v:=vi k0) iT3 I<|cO 4 I I)<|lW (SO.call lP I<|bB E g5 _ k0 10 dC) ?_;rintro _ _ _ ⟨rfl,rfl,rfl⟩;generalize bV k0 10=kd at *;refine tZ<|bK<|rZ<|yE I<|aT I<|iP I (fun h0=>?_) (fun h0=>?_)
 ·refine sW I<|lU (za3 I<|bA58 _ _)<|oZ (sK 2 eE rfl rfl rfl rfl rfl<|by (repeat' (first | exact trivial | refine⟨by rfl,?_⟩))) ?_;refine tZ<|rE<|bR<|tR ?_;exact ST.retCD 2 s (.inl I) results79 I jX eE I I uR ⟨I,m,⟨1,n,0,0,0,[],[]⟩,⟨_,_,I,zc1 _ _,zc1 _ _⟩,by simp,by simp,fun _=>I,fun h _ _ _=>⟨fun _=>K h,fun y=>absurd (show (1:Int)=3 from y) dC⟩⟩
 ·refine rZ<|yE I<|aT I<|iP I (fun y=>?_) (fun y=>?_)
  ·refine sQ<|dW [13] [(0,2),(1,2),(2,2),(3,1),(6,2),(7,2),(8,1),(4,0),(5,2),(9,0),(10,2),(11,0),(12,2),(13,0)] ze5 kR<|yM I<|yM I<|pU I (fA dY I zT3 I)<|pK I (qL (v:=vi f) iT3 I<|cO 4 I I)<|yM I<|pU I (fA dY I zT3 I)<|pK I (qL (v:=vi t) iT3 I<|cO 4 I I)<|SP.o I (SO.call call127 I<|dX E g5 _ _ V f b8 c2) dC (.inr iR) ?_;rintro _ _ _ ⟨rfl,rfl,T,rfl⟩;refine pU I (za3 I<|buildS80 _ _)<|SP.o I (SO.call call127 I<|dX E g5 _ _ V t b8 c2) dC (.inr iR) ?_;rintro _ _ _ ⟨rfl,rfl,a2,rfl⟩;refine pU I (za3 I<|buildS80 _ _)<|SP.o I (bS sty35 I I I (ab sB) dC) dC (.inr iR) ?_;rintro _ _ _ ⟨d3,rfl,rfl,rfl⟩;refine SP.freeze fun g6 b c0=>?_;have a3:SlA encSide g6 (.slice (some ⟨d3,0,none⟩) 2 2) [⟨T,1⟩,⟨a2,-1⟩]:=SlA.lit c0 rfl rfl;refine pU I (za3 I<|bB58 _ _ _ _ _ _)<|SP.on rfl (sK 2 eE rfl rfl rfl rfl rfl<|by (repeat' (first | exact trivial | refine⟨by rfl,?_⟩))) (.inl dC) ?_;rintro _ _ _ ⟨rfl,rfl⟩;refine pN<|tN<|rE<|bR<|tR ?_;exact ST.retCD 2 s (.inl I) results79 I jX eE I I uR ⟨I,m.trans b,⟨1,n,1,0,0,[⟨T,1⟩,⟨a2,-1⟩],[]⟩,⟨_,_,I,a3,zc1 _ _⟩,by simp,by simp,fun _=>I,fun h _ _ _=>⟨fun _=>K h,fun y=>absurd (show (1:Int)=3 from y) dC⟩⟩
  ·refine rZ<|yE I<|aT I<|iP I (fun h2=>?_) (fun h2=>?_)
   ·refine SC.cut (ι:=Nat×Option Addr×Nat) (fun i=>[(2,pp J 0),(4,pp C 0),(14,pp i.1 0)]) (fun _=>g5) (fun i=>pt i.1 (bY #[vi 1,vi n,vi Q,vi 0,vi 0,.slice i.2.1 X.sides.length i.2.2,.slice none 0 0] 58)::rowA encSide 80 (.slice i.2.1 X.sides.length i.2.2) X.sides::pt G (bY #[vi R,vi yd,.slice yp Y.sides.length yc] 37)::pt B (bY #[vi M,vi Q,.slice xp X.sides.length xc] 37)::pt C (bY #[vi 0,vi 0,vi 0,vi 0,vi 0,.slice none 0 0,.slice none 0 0] 58)::pt N (bY #[.slice p l.length c] 29)::pt J (bY #[vi k0,vi f,vi t,vi F] 117)::s) (fun _=>True) ?_ ?_
    ·refine SC.drawX [9] ze5 kR ?_;refine SX.u (i:=0) I kR (mV I) dC<|SX.u (i:=1) I kR (fA ao I zT3 I) dC<|SX.q (i:=2) I kR (qL (v:=vi Q) iT3 I<|cO (by exact 1) I I) dC ?_;refine SX.u (i:=4) I kR (fA ao I aH I) dC<|SX.q (i:=5) I kR (qL (v:=.slice xp X.sides.length xc) bi I<|cO (by exact 1) I I) dC ?_;refine zd8 3 8 kR ?_ ?_
     ·refine SB.o (i:=3) I (bS sty35 I I I (ab trivial) dC) dC (.inr iR) ?_;rintro _ _ _ ⟨o1,rfl,rfl,rfl⟩;refine SX.drop (zj3 _ _) ?_;refine zd8 6 8 kR ?_ ?_
      ·refine SB.o (i:=6) I (SO.appNewA (e:=encSide) sty35 I I b9 oM oM) dC (.inr iR) ?_;rintro v98 _ _ ⟨rfl,rfl⟩;refine SX.facts fun ⟨w0,A⟩=>?_;obtain ⟨q8,d8,rfl⟩:=ah (e:=encSide) (l:=X.sides) (i:=0) A rfl;clear A w0
       first | refine SX.to (fun w hw=>At.perm hw<|zk3 (pt H _) _ _) ?_ | skip
       refine SX.u (i:=7) I kR (za3 I<|bB58 _ _ _ _ _ _) dC ?_;refine zd7 8 kR ?_
       ·refine SB.o (i:=8) I (aL zm3) dC (.inr iR) ?_;rintro _ _ _ ⟨H,rfl,rfl,rfl⟩;refine zd7 9 kR ?_
        ·refine SB.on (i:=9) rfl (sK 0 eE rfl rfl rfl rfl rfl<|by (repeat' (first | exact trivial | refine⟨by rfl,?_⟩))) (.inl dC) ?_;rintro _ _ _ ⟨rfl,rfl⟩;refine SX.nil kR ?_;exact za9 (H,q8,d8) sB I I trivial
      ·refine SB.o (i:=8) I (aL zm3) dC (.inr iR) ?_;rintro _ _ _ ⟨H,rfl,rfl,rfl⟩;refine zd7 6 kR ?_
       ·refine SB.o (i:=6) I (SO.appNewA (e:=encSide) sty35 I I b9 oM oM) dC (.inr iR) ?_;rintro v98 _ _ ⟨rfl,rfl⟩;refine SX.facts fun ⟨w0,A⟩=>?_;obtain ⟨q8,d8,rfl⟩:=ah (e:=encSide) (l:=X.sides) (i:=0) A rfl;clear A w0
        first | refine SX.to (fun w hw=>At.perm hw<|zk3 (pt H _) _ _) ?_ | skip
        refine SX.u (i:=7) I kR (za3 I<|bB58 _ _ _ _ _ _) dC ?_;refine zd7 9 kR ?_
        ·refine SB.on (i:=9) rfl (sK 0 eE rfl rfl rfl rfl rfl<|by (repeat' (first | exact trivial | refine⟨by rfl,?_⟩))) (.inl dC) ?_;rintro _ _ _ ⟨rfl,rfl⟩;refine SX.nil kR ?_;exact za9 (H,q8,d8) sB I I trivial
     ·refine SB.o (i:=8) I (aL zm3) dC (.inr iR) ?_;rintro _ _ _ ⟨H,rfl,rfl,rfl⟩;refine zd7 3 kR ?_
      ·refine SB.o (i:=3) I (bS sty35 I I I (ab trivial) dC) dC (.inr iR) ?_;rintro _ _ _ ⟨o1,rfl,rfl,rfl⟩;refine SX.drop (zj3 _ _) ?_;refine zd7 6 kR ?_
       ·refine SB.o (i:=6) I (SO.appNewA (e:=encSide) sty35 I I b9 oM oM) dC (.inr iR) ?_;rintro v98 _ _ ⟨rfl,rfl⟩;refine SX.facts fun ⟨w0,A⟩=>?_;obtain ⟨q8,d8,rfl⟩:=ah (e:=encSide) (l:=X.sides) (i:=0) A rfl;clear A w0
        first | refine SX.to (fun w hw=>At.perm hw<|zk3 (pt H _) _ _) ?_ | skip
        refine SX.u (i:=7) I kR (za3 I<|bB58 _ _ _ _ _ _) dC ?_;refine zd7 9 kR ?_
        ·refine SB.on (i:=9) rfl (sK 0 eE rfl rfl rfl rfl rfl<|by (repeat' (first | exact trivial | refine⟨by rfl,?_⟩))) (.inl dC) ?_;rintro _ _ _ ⟨rfl,rfl⟩;refine SX.nil kR ?_;exact za9 (H,q8,d8) sB I I trivial
    rintro ⟨H,q8,d8⟩ -;try dsimp only
    refine SC.cut (ι:=Int) (fun _=>[(2,pp J 0),(4,pp C 0),(14,pp H 0)]) (fun _=>g5) (fun d=>pt H (bY #[vi 1,vi n,vi d,vi 0,vi 0,.slice q8 X.sides.length d8,.slice none 0 0] 58)::rowA encSide 80 (.slice q8 X.sides.length d8) X.sides::pt G (bY #[vi R,vi yd,.slice yp Y.sides.length yc] 37)::pt B (bY #[vi M,vi Q,.slice xp X.sides.length xc] 37)::pt C (bY #[vi 0,vi 0,vi 0,vi 0,vi 0,.slice none 0 0,.slice none 0 0] 58)::pt N (bY #[.slice p l.length c] 29)::pt J (bY #[vi k0,vi f,vi t,vi F] 117)::s) (fun _=>True) ?_ ?_
    ·refine rZ<|lU (fA dY I zT3 I)<|lK (qL (v:=vi t) iT3 I<|cO 6 I I)<|lU (zd9 I I dC)<|yE I<|tZ<|iP I (fun hz=>?_) (fun hz=>?_)
     ·refine rG<|lU (fA a6 rfl zT3 rfl)<|lK (qL (v:=vi Q) iT3 rfl<|cO 0 rfl rfl)<|lU (ze2 rfl rfl)<|lU (fA a6 rfl zT3 rfl)<|oZ (SO.store1 0 zT3 rfl rfl rfl rfl (bE rfl)<|by rfl) ?_;refine SL.nil ?_;exact za9 (IntKind.i64.wrap<|Q+1) sB I I trivial
     ·exact kP<|za9 Q sB I I trivial
    rintro ed -;try dsimp only
    refine SC.cut (ι:=List aj) (fun _=>[(4,pp C 0),(14,pp H 0)]) (fun _=>g5) (fun S=>pt H (bY #[vi 1,vi n,vi ed,vi 0,vi 0,.slice q8 X.sides.length d8,.slice none 0 0] 58)::rowA encSide 80 (.slice q8 X.sides.length d8) S::pt G (bY #[vi R,vi yd,.slice yp Y.sides.length yc] 37)::pt B (bY #[vi M,vi Q,.slice xp X.sides.length xc] 37)::pt C (bY #[vi 0,vi 0,vi 0,vi 0,vi 0,.slice none 0 0,.slice none 0 0] 58)::pt N (bY #[.slice p l.length c] 29)::pt J (bY #[vi k0,vi f,vi t,vi F] 117)::s) (fun S=>S.length=X.sides.length) ?_ ?_
    ·refine SC.cutB 117 (decide (t.tmod 9=4)&&decide (0<X.sides.length)) ?_ ?_
     ·refine rG<|lU (fA dY I zT3 I)<|lK (qL (v:=vi t) iT3 I<|cO 6 I I)<|lU (zd9 I I dC)<|yE I<|lM I<|sP ?_ ?_
      ·intro i0;exact lY I I I (fA a6 I aH I)<|SL.gq (gT I I I dC) (qL (v:=.slice q8 X.sides.length d8) bi I<|cO 0 I I) dC<|lY I I I (eN a7 I)<|lY I I I (gR I I)<|yP I<|SL.nil<|zb1 (by (simp_all[aN];done)) mI
      ·intro i0;exact yA I<|yA I<|yA I<|yA I<|yF I<|SL.nil<|zb1 (by (simp_all[aN];done)) mI
     refine iQ I (fun hq=>?_) (fun hq=>?_)
     ·simp only[zj5,zj8] at hq;have i1:X.sides[0]?=some (X.sides[0]'hq.2):=List.getElem?_eq_getElem hq.2;generalize X.sides[0]'hq.2=x0 at *;refine SC.facts fun ⟨w0,A⟩=>?_;obtain ⟨bu,cap,i2⟩:=bw (e:=encSide) (l:=X.sides) (i:=1) A rfl oM;obtain ⟨rfl,rfl⟩:q8=some ⟨bu,0,none⟩∧d8=cap:=by injection i2 with y _ h2;exact⟨y,h2⟩
      clear A w0 i2;refine dW [10] [(0,2),(1,1),(2,2),(3,1),(4,2),(5,2),(6,1),(7,2),(8,2),(9,2),(10,0)] ze5 kR<|pU I (fA a6 I aH I)<|pK I (qL (v:=.slice (some ⟨bu,0,none⟩) X.sides.length d8) bi I<|cO 0 I I)<|pU I (fA a6 I aH I)<|pK I (qL (v:=.slice (some ⟨bu,0,none⟩) X.sides.length d8) bi I<|cO 0 I I)<|pU I (iA a7 aR I I I oM sL)<|pU I (fA de I zT3 I)<|pK I (aZ (e:=encSide) (a:=x0) (j:=0) (o:=1) (u:=vi x0.sign) iT3 I (zb7 1 I) i1 I)<|pU I (SU.neg I)<|pU I (iA a7 aR I I I oM sL)<|pU I (fA de I zT3 I)<|SP.on I (SO.partA (e:=encSide) (a:=x0) (j:=0) (o:=1) 1 ⟨x0.cell,IntKind.i64.wrap<|0 - x0.sign⟩ zT3 I I I i1 I I dC I) (.inl dC) ?_;rintro _ _ _ ⟨rfl,rfl⟩;exact pN<|za9 (X.sides.set 0 ⟨x0.cell,IntKind.i64.wrap<|0 - x0.sign⟩) sB I I dO
     ·exact kP<|za9 X.sides sB I I I
    rintro S hS;try dsimp only at hS ⊢
    refine rZ<|lK (qV 0 jX eE I I I)<|oZ (sK 4 eE rfl rfl rfl rfl rfl<|by (repeat' (first | exact trivial | refine⟨by rfl,?_⟩))) ?_;refine tZ<|rE<|bR<|tR ?_;rw[← hS];refine ST.perm (zk3 _ _ _) (fT fun g6 b a3=>?_);exact ST.retCD 3 s (.inl I) results79 I jX eE I I uR ⟨I,m.trans b,⟨1,n,ed,0,0,S,[]⟩,⟨_,_,I,a3,zc1 _ _⟩,by dsimp only;omega,by simp,fun _=>I,fun h _ _ _=>⟨fun _=>K h,fun y=>absurd (show (1:Int)=3 from y) dC⟩⟩
   ·refine rZ<|yE I<|aT I<|iP I (fun h3=>?_) (fun h3=>?_)
    ·refine sW I<|lU (fA ao I zT3 I)<|lK (qL (v:=vi Q) iT3 I<|cO 1 I I)<|lU (ze2 I I)<|lU (fA ao I zT3 I)<|lK (qL (v:=vi M) iT3 I<|cO 1 I I)<|lU (za3 I<|buildS80 _ _)<|lU (fA ao I zT3 I)<|lK (qL (v:=vi R) iT3 I<|cO 0 I I)<|lU (za3 I<|buildS80 _ _)<|lW (bS sty35 I I I (ab sB) dC) ?_;rintro _ _ _ ⟨d3,rfl,rfl,rfl⟩;refine zb5 fun g6 b c0=>?_;have a3:SlA encSide g6 (.slice (some ⟨d3,0,none⟩) 2 2) [⟨M,1⟩,⟨R,-1⟩]:=SlA.lit c0 rfl rfl;refine lU (za3 I<|bB58 _ _ _ _ _ _)<|oZ (sK 2 eE rfl rfl rfl rfl rfl<|by (repeat' (first | exact trivial | refine⟨by rfl,?_⟩))) ?_;refine tZ<|rE<|bR<|tR ?_;exact ST.retCD 2 s (.inl I) results79 I jX eE I I uR ⟨I,m.trans b,⟨1,n,IntKind.i64.wrap<|Q+1,0,0,[⟨M,1⟩,⟨R,-1⟩],[]⟩,⟨_,_,I,a3,zc1 _ _⟩,by simp,by simp,fun _=>I,fun h _ _ _=>⟨fun _=>K h,fun y=>absurd (show (1:Int)=3 from y) dC⟩⟩
    ·refine rZ<|yE I<|aT I<|iP I (fun h4=>?_) (fun h4=>?_)
     ·refine sQ<|rZ<|lU (fA dY I zT3 I)<|lK (qL (v:=vi t) iT3 I<|cO 4 I I)<|lU (zd9 I I dC)<|lU (nQ I I)<|tZ<|iP I (fun hz=>?_) (fun hz=>?_)
      ·refine sQ<|dW [6] [(0,1),(2,2),(3,1),(1,0),(4,0),(5,2),(6,0)] ze5 kR<|pK I (qV 3 an ae I I I)<|pU I (fA dY I zT3 I)<|pK I (qL (v:=vi f) iT3 I<|cO 4 I I)<|SP.o I (SO.call call128 I<|vB E g5 _ _ l d2 hf) dC (.inr iR) ?_;rintro _ g6 _ ⟨rfl,b,hT⟩;obtain ⟨pT,cT,rfl⟩:=za4 hT;refine SP.o I (SO.call call127 I<|dX E g6 _ _ (wy l) f hT l4) dC (.inr iR) ?_;rintro _ _ _ ⟨rfl,rfl,T,rfl⟩;refine pU I (za3 I<|bA58 _ _)<|SP.on rfl (sK 2 eE rfl rfl rfl rfl rfl<|by (repeat' (first | exact trivial | refine⟨by rfl,?_⟩))) (.inl dC) ?_;rintro _ _ _ ⟨rfl,rfl⟩;refine pN<|tN<|rE<|tR<|bR<|tR ?_;exact ST.retCD 2 s (.inl I) results79 I jX eE I I uR ⟨I,m.trans b,⟨2,T,0,0,0,[],[]⟩,⟨_,_,I,zc1 _ _,zc1 _ _⟩,by simp,by simp,(by intro a9;exfalso;omega),fun _ _ _ _=>⟨fun y=>absurd (show (2:Int)=1 from y) dC,fun y=>absurd (show (2:Int)=3 from y) dC⟩⟩
      ·refine kP<|tN<|rZ<|lU (fA ao I zT3 I)<|lK (qL (v:=vi M) iT3 I<|cO 1 I I)<|lU (za3 I<|bA58 _ _)<|oZ (sK 2 eE rfl rfl rfl rfl rfl<|by (repeat' (first | exact trivial | refine⟨by rfl,?_⟩))) ?_;refine tZ<|rE<|bR<|tR ?_;exact ST.retCD 2 s (.inl I) results79 I jX eE I I uR ⟨I,m,⟨2,M,0,0,0,[],[]⟩,⟨_,_,I,zc1 _ _,zc1 _ _⟩,by simp,by simp,(by intro a9;exfalso;omega),fun _ _ _ _=>⟨fun y=>absurd (show (2:Int)=1 from y) dC,fun y=>absurd (show (2:Int)=3 from y) dC⟩⟩
     ·refine SC.cut (ι:=Unit) (fun _=>[(2,pp J 0),(3,pp N 0),(4,pp C 0),(7,.slice pV V.length cV),(8,.slice pW W.length cW),(9,vi n),(10,pp B 0),(12,pp G 0),(70,vi kd),(158,vb<|decide (kd=5∨kd=6))]) (fun _=>g5) (fun _=>pt G (bY #[vi R,vi yd,.slice yp Y.sides.length yc] 37)::pt B (bY #[vi M,vi Q,.slice xp X.sides.length xc] 37)::pt C (bY #[vi 0,vi 0,vi 0,vi 0,vi 0,.slice none 0 0,.slice none 0 0] 58)::pt N (bY #[.slice p l.length c] 29)::pt J (bY #[vi k0,vi f,vi t,vi F] 117)::s) (fun _=>True) ?_ ?_
      ·refine rZ<|yE I<|aT I<|iP I (fun h5=>?_) (fun h5=>?_)
       ·exact kP<|za9 () ⟨I,I,I,I,I,I,I,I,I,by rw[decide_eq_decide.2 (show (kd=5∨kd=6)↔kd=5 from ⟨fun _=>h5,.inl⟩)];rfl,trivial⟩ rfl rfl trivial
       ·exact rG<|yE I<|lA I<|SL.nil<|za9 () ⟨I,I,I,I,I,I,I,I,I,by rw[decide_eq_decide.2 (show (kd=5∨kd=6)↔kd=6 from ⟨fun h=>h.resolve_left h5,.inr⟩)];rfl,trivial⟩ rfl rfl trivial
      rintro _ -;try dsimp only
      refine iP I (fun o2=>?_) (fun o2=>?_)
      ·refine SC.cut (ι:=Nat×Int) (fun i=>[(2,pp J 0),(4,pp C 0),(9,vi n),(10,pp B 0),(15,pp i.1 0)]) (fun _=>g5) (fun i=>pt i.1 (bY #[vi 3,vi i.2,vi 0,vi n,vi<|IntKind.i64.wrap<|n+1,.slice none 0 0,.slice none 0 0] 58)::pt G (bY #[vi R,vi yd,.slice yp Y.sides.length yc] 37)::pt B (bY #[vi M,vi Q,.slice xp X.sides.length xc] 37)::pt C (bY #[vi 0,vi 0,vi 0,vi 0,vi 0,.slice none 0 0,.slice none 0 0] 58)::pt N (bY #[.slice p l.length c] 29)::pt J (bY #[vi k0,vi f,vi t,vi F] 117)::s) (fun _=>True) ?_ ?_
       ·refine rG<|lM I<|lU (fA dY I zT3 I)<|lK (qL (v:=vi f) iT3 I<|cO 4 I I)<|lW (SO.call call127 I<|dX E g5 _ _ W f h9 c9) ?_;rintro _ _ _ ⟨rfl,rfl,T,rfl⟩;refine lM I (lM I<|lU (ze2 I I)<|lU (za3 I<|bC58 _ _ _ _)<|bW (aL zm3) fun c3=>?_);refine oZ (sK 0 eE rfl rfl rfl rfl rfl<|by (repeat' (first | exact trivial | refine⟨by rfl,?_⟩))) ?_;refine SL.nil ?_;exact za9 (c3,T) sB I I trivial
       rintro ⟨c3,T⟩ -;try dsimp only
       refine SC.cut (ι:=Int×Int×Int) (fun _=>[(4,pp C 0),(15,pp c3 0)]) (fun _=>g5) (fun i=>pt c3 (bY #[vi 3,vi i.1,vi 0,vi i.2.1,vi i.2.2,.slice none 0 0,.slice none 0 0] 58)::pt G (bY #[vi R,vi yd,.slice yp Y.sides.length yc] 37)::pt B (bY #[vi M,vi Q,.slice xp X.sides.length xc] 37)::pt C (bY #[vi 0,vi 0,vi 0,vi 0,vi 0,.slice none 0 0,.slice none 0 0] 58)::pt N (bY #[.slice p l.length c] 29)::pt J (bY #[vi k0,vi f,vi t,vi F] 117)::s) (fun i=>(∀ c∈l,a8 c.id)→a8 i.2.1∧a8 i.2.2) ?_ ?_
       ·refine rZ<|lU (fA dY I zT3 I)<|lK (qL (v:=vi t) iT3 I<|cO 5 I I)<|lW (SO.call lP I<|bB E g5 _ t 12 dC) ?_;rintro _ _ _ ⟨rfl,rfl,rfl⟩;generalize bV t 12=kt at *;refine tZ<|bK<|rZ<|yE I<|aT I<|iP I (fun k0=>?_) (fun k0=>?_)
        ·refine rG<|lU (fA ao rfl zT3 rfl)<|lK (qL (v:=vi M) iT3 rfl<|cO 2 rfl rfl)<|lU (fA a6 rfl zT3 rfl)<|oZ (SO.store1 0 zT3 rfl rfl rfl rfl (bE rfl)<|by rfl) ?_;refine SL.nil<|bN ?_;exact za9 (M,n,IntKind.i64.wrap<|n+1) sB I I fun h=>⟨K h,je _⟩
        ·refine rZ<|yE I<|aT I<|iP I (fun k1=>?_) (fun k1=>?_)
         ·refine rG<|lU (fA a6 rfl zT3 rfl)<|lK (qL (v:=vi<|IntKind.i64.wrap<|n+1) iT3 rfl<|cO 0 rfl rfl)<|lU (fA a6 rfl zT3 rfl)<|oZ (SO.store1 0 zT3 rfl rfl rfl rfl (bE rfl)<|by rfl) ?_;refine SL.nil<|bN ?_;exact za9 (T,IntKind.i64.wrap<|n+1,IntKind.i64.wrap<|n+1) sB I I fun h=>⟨je _,je _⟩
         ·refine rZ<|yE I<|aT I<|iP I (fun k2=>?_) (fun k2=>?_)
          ·refine rG<|lU (fA dY rfl zT3 rfl)<|lK (qL (v:=vi f) iT3 rfl<|cO 5 rfl rfl)<|lU (SU.neg rfl)<|lU (fA a6 rfl zT3 rfl)<|oZ (SO.store1 0 zT3 rfl rfl rfl rfl (bE rfl)<|by rfl) ?_;refine SL.nil<|bN ?_;exact za9 (T,n,IntKind.i64.wrap<|0 - f) sB I I fun h=>⟨K h,je _⟩
          ·refine rZ<|yE I<|aT I<|iP I (fun k3=>?_) (fun k3=>?_)
           ·refine sW rfl<|lU (ze2 rfl rfl)<|lU (fA a6 rfl zT3 rfl)<|oZ (SO.store1 0 zT3 rfl rfl rfl rfl (bE rfl)<|by rfl) ?_;refine tZ<|rG<|lM rfl<|lU (fA a6 rfl zT3 rfl)<|oZ (SO.store1 0 zT3 rfl rfl rfl rfl (bE rfl)<|by rfl) ?_;refine SL.nil<|bN ?_;exact za9 (T,IntKind.i64.wrap<|n+1,n) sB I I fun h=>⟨je _,K h⟩
           ·exact kP<|bN<|za9 (T,n,IntKind.i64.wrap<|n+1) sB I I fun h=>⟨K h,je _⟩
       rintro ⟨e1,e2,e3⟩ c6;try dsimp only at c6 ⊢
       refine rZ<|lK (qV 0 jX eE I I I)<|oZ (sK 3 eE rfl rfl rfl rfl rfl<|by (repeat' (first | exact trivial | refine⟨by rfl,?_⟩))) ?_;refine tZ<|rE<|bR<|tR ?_;exact ST.retCD 3 s (.inl I) results79 I jX eE I I uR ⟨I,m,⟨3,e1,0,e2,e3,[],[]⟩,⟨_,_,I,zc1 _ _,zc1 _ _⟩,by simp,by simp,(by intro a9;exfalso;omega),fun h ha _ _=>⟨fun y=>absurd (show (3:Int)=1 from y) dC,fun _=>c6 h⟩⟩
      ·refine rZ<|yE I<|aT I<|iP I (fun h7=>?_) (fun h7=>?_)
       ·refine SC.cut (ι:=Nat×Option Addr×Nat×List Pr) (fun i=>[(2,pp J 0),(3,pp N 0),(4,pp C 0),(7,.slice pV V.length cV),(8,.slice pW W.length cW),(16,pp i.1 0)]) (fun _=>g5) (fun i=>pt i.1 (bY #[vi 4,vi 0,vi 0,vi 0,vi 0,.slice none 0 0,.slice i.2.1 i.2.2.2.length i.2.2.1] 58)::rowA ei 99 (.slice i.2.1 i.2.2.2.length i.2.2.1) i.2.2.2::pt G (bY #[vi R,vi yd,.slice yp Y.sides.length yc] 37)::pt B (bY #[vi M,vi Q,.slice xp X.sides.length xc] 37)::pt C (bY #[vi 0,vi 0,vi 0,vi 0,vi 0,.slice none 0 0,.slice none 0 0] 58)::pt N (bY #[.slice p l.length c] 29)::pt J (bY #[vi k0,vi f,vi t,vi F] 117)::s) (fun i=>i.2.2.2.length≤1) ?_ ?_
        ·refine rG<|lU (fA ao I zT3 I)<|lK (qL (v:=vi M) iT3 I<|cO 1 I I)<|lU (fA ao I zT3 I)<|lK (qL (v:=vi R) iT3 I<|cO 0 I I)<|lU (za3 I<|build99 _ _)<|lW (bS sty56 I I I (ab ⟨I,trivial⟩) dC) ?_;rintro _ _ _ ⟨i3,rfl,rfl,rfl⟩;refine SL.to (fun w hw=>At.litRow (e:=ei) (l:=[(M,R)]) (n:=0) hw I I dC) ?_;refine lU (za3 I<|bD58 _ _ _ _) (bW (aL zm3) fun O=>?_);refine oZ (sK 0 eE rfl rfl rfl rfl rfl<|by (repeat' (first | exact trivial | refine⟨by rfl,?_⟩))) ?_;refine SL.nil ?_;exact za9 (O,some ⟨i3,0,none⟩,1,[(M,R)]) sB I I<|Nat.le_refl 1
        rintro ⟨O,q6,d6,P6⟩ L;dsimp only at L ⊢;refine SC.cut (ι:=Option Addr×Nat×List Pr) (fun _=>[(2,pp J 0),(3,pp N 0),(4,pp C 0),(7,.slice pV V.length cV),(8,.slice pW W.length cW),(16,pp O 0)]) (fun i=>g5) (fun i=>pt O (bY #[vi 4,vi 0,vi 0,vi 0,vi 0,.slice none 0 0,.slice i.1 i.2.2.length i.2.1] 58)::rowA ei 99 (.slice i.1 i.2.2.length i.2.1) i.2.2::pt G (bY #[vi R,vi yd,.slice yp Y.sides.length yc] 37)::pt B (bY #[vi M,vi Q,.slice xp X.sides.length xc] 37)::pt C (bY #[vi 0,vi 0,vi 0,vi 0,vi 0,.slice none 0 0,.slice none 0 0] 58)::pt N (bY #[.slice p l.length c] 29)::pt J (bY #[vi k0,vi f,vi t,vi F] 117)::s) (fun i=>i.2.2.length≤1) ?_ ?_
        ·refine rZ<|lU (fA dY I zT3 I)<|lK (qL (v:=vi t) iT3 I<|cO 6 I I)<|lU (zd9 I I dC)<|yE I<|tZ<|iP I (fun hz=>?_) (fun hz=>?_)
         ·refine dW [12] [(0,2),(1,2),(2,1),(4,2),(5,2),(6,1),(7,2),(3,0),(8,0),(9,2),(10,0),(11,2),(12,0)] ze5 kR<|yM I<|pU I (fA dY I zT3 I)<|pK I (qL (v:=vi f) iT3 I<|cO 6 I I)<|yM I<|pU I (fA dY I zT3 I)<|pK I (qL (v:=vi t) iT3 I<|cO 6 I I)<|pU I (SU.quo I I dC)<|SP.o I (SO.call call127 I<|dX E g5 _ _ V f b8 c2) dC (.inr iR) ?_;rintro _ _ _ ⟨rfl,rfl,T,rfl⟩;refine SP.o I (SO.call call127 I<|dX E g5 _ _ V _ b8 c2) dC (.inr iR) ?_;rintro _ _ _ ⟨rfl,rfl,a2,rfl⟩;refine pU I (za3 I<|build99 _ _)<|SP.o I (bS sty56 I I I (ab ⟨I,trivial⟩) dC) dC (.inr iR) ?_;rintro _ _ _ ⟨j0,rfl,rfl,rfl⟩;refine SP.to (fun w hw=>At.litRow (e:=ei) (l:=[(T,a2)]) (n:=0) hw I I dC) ?_;refine SP.drop (.cons_cons _<|.cons_cons _<|.cons _<|.refl _) ?_;refine SP.to (fun w hw=>At.perm hw<|zk3 (pt O _) _ _) ?_;refine pU rfl (fA a6 rfl kF rfl)<|SP.on rfl (SO.store1 0 kF rfl rfl rfl rfl (bE rfl)<|by rfl) (.inl dC) ?_;rintro _ _ _ ⟨rfl,rfl⟩;refine pN ?_;exact za9 (some ⟨j0,0,none⟩,1,[(T,a2)]) sB I I<|Nat.le_refl 1
         ·exact kP<|za9 (q6,d6,P6) sB I I L
        clear L;rintro ⟨q6,d6,P6⟩ L;dsimp only at L ⊢;refine SC.cut (ι:=PH×Option Addr×Nat×List Pr) (fun _=>[(2,pp J 0),(3,pp N 0),(4,pp C 0),(7,.slice pV V.length cV),(8,.slice pW W.length cW),(16,pp O 0)]) (fun i=>i.1) (fun i=>pt O (bY #[vi 4,vi 0,vi 0,vi 0,vi 0,.slice none 0 0,.slice i.2.1 i.2.2.2.length i.2.2.1] 58)::rowA ei 99 (.slice i.2.1 i.2.2.2.length i.2.2.1) i.2.2.2::pt G (bY #[vi R,vi yd,.slice yp Y.sides.length yc] 37)::pt B (bY #[vi M,vi Q,.slice xp X.sides.length xc] 37)::pt C (bY #[vi 0,vi 0,vi 0,vi 0,vi 0,.slice none 0 0,.slice none 0 0] 58)::pt N (bY #[.slice p l.length c] 29)::pt J (bY #[vi k0,vi f,vi t,vi F] 117)::s) (fun i=>Le g5 i.1∧i.2.2.2.length≤1) ?_ ?_
        ·refine rZ<|lU (fA dY I zT3 I)<|lK (qL (v:=vi t) iT3 I<|cO 6 I I)<|lU (zd9 I I dC)<|yE I<|tZ<|iP I (fun hz=>?_) (fun hz=>?_)
         ·refine rG<|lK (qV 5 an ae I I I)<|lU (fA dY I zT3 I)<|lK (qL (v:=vi f) iT3 I<|cO 6 I I)<|lW (SO.call call129 I<|Av E g5 _ _ l f d2 hf) ?_;rintro v228 g6 _ ⟨Q6,rfl,b,p0⟩;refine zd4 fun ⟨w0,A⟩=>?_;obtain ⟨q7,d7,rfl⟩:=ah (e:=ei) (l:=Q6) (i:=0) A rfl;clear A w0;refine SL.drop (.cons_cons _<|.cons_cons _<|.cons _<|.refl _) ?_;refine SL.to (fun w hw=>At.perm hw<|zk3 (pt O _) _ _) ?_;refine lU (fA a6 rfl kF rfl)<|oZ (SO.store1 0 kF rfl rfl rfl rfl (bE rfl)<|by rfl) ?_;refine SL.nil ?_;exact za9 (g6,q7,d7,Q6) sB I I ⟨b,p0⟩
         ·exact kP<|za9 (g5,q6,d6,P6) sB I I ⟨zb9 _,L⟩
        clear L;rintro ⟨g6,q6,d6,P6⟩ ⟨b,L⟩;dsimp only at b L ⊢;have r0:=za5 b8 b;have j1:=za5 h9 b;refine SC.cut (ι:=PH×Option Addr×Nat×List Pr) (fun _=>[(4,pp C 0),(16,pp O 0)]) (fun i=>i.1) (fun i=>pt O (bY #[vi 4,vi 0,vi 0,vi 0,vi 0,.slice none 0 0,.slice i.2.1 i.2.2.2.length i.2.2.1] 58)::rowA ei 99 (.slice i.2.1 i.2.2.2.length i.2.2.1) i.2.2.2::pt G (bY #[vi R,vi yd,.slice yp Y.sides.length yc] 37)::pt B (bY #[vi M,vi Q,.slice xp X.sides.length xc] 37)::pt C (bY #[vi 0,vi 0,vi 0,vi 0,vi 0,.slice none 0 0,.slice none 0 0] 58)::pt N (bY #[.slice p l.length c] 29)::pt J (bY #[vi k0,vi f,vi t,vi F] 117)::s) (fun i=>i.1=g6∧i.2.2.2.length≤2) ?_ ?_
        ·refine rZ<|lU (fA dY I zT3 I)<|lK (qL (v:=vi F) iT3 I<|cO 6 I I)<|lU (zd9 I I dC)<|yE I<|tZ<|iP I (fun hz=>?_) (fun hz=>?_)
         ·refine dW [12,14] [(0,2),(1,1),(2,2),(3,2),(4,1),(6,2),(7,2),(8,1),(5,0),(9,0),(10,2),(11,0),(12,0),(13,2),(14,0)] ze5 kR<|pU I (fA a6 I kF I)<|pK I (qL (v:=.slice q6 P6.length d6) nx I<|cO 0 I I)<|yM I<|pU I (fA dY I zT3 I)<|pK I (qL (v:=vi f) iT3 I<|cO 6 I I)<|yM I<|pU I (fA dY I zT3 I)<|pK I (qL (v:=vi t) iT3 I<|cO 6 I I)<|SP.o I (SO.call call127 I<|dX E g6 _ _ W f j1 c9) dC (.inr iR) ?_;rintro _ _ _ ⟨rfl,rfl,T,rfl⟩;refine SP.o I (SO.call call127 I<|dX E g6 _ _ W t j1 c9) dC (.inr iR) ?_;rintro _ _ _ ⟨rfl,rfl,a2,rfl⟩;refine pU I (za3 I<|build99 _ _)<|SP.o I (bS sty56 I I I (ab ⟨I,trivial⟩) dC) dC (.inr iR) ?_;rintro _ _ _ ⟨q2,rfl,rfl,rfl⟩;refine SP.o I (aP (e:=ei) (l:=P6) 1 (T,a2) sty56 I I I I I oM oM) dC (.inl dC) ?_;rintro v246 _ _ ⟨rfl,rfl⟩;refine zd3 fun ⟨w0,A⟩=>?_;obtain ⟨q7,d7,rfl⟩:=ah (e:=ei) (l:=P6++[(T,a2)]) (i:=1) A rfl;clear A w0;refine pU rfl (fA a6 rfl kF rfl)<|SP.on rfl (SO.store1 0 kF rfl rfl rfl rfl (bE rfl)<|by rfl) (.inl dC) ?_;rintro _ _ _ ⟨rfl,rfl⟩;refine pN ?_;exact za9 (g6,q7,d7,P6++[(T,a2)]) sB I I ⟨I,by dsimp only;rw[ze7,ze9];omega⟩
         ·exact kP<|za9 (g6,q6,d6,P6) sB I I ⟨I,by dsimp only;omega⟩
        clear L;rintro ⟨g7,q6,d6,P6⟩ ⟨j2,L⟩;dsimp only at j2 L ⊢;subst j2;refine rZ<|lK (qV 0 jX eE I I I)<|oZ (sK 4 eE rfl rfl rfl rfl rfl<|by (repeat' (first | exact trivial | refine⟨by rfl,?_⟩))) ?_;refine tZ (rE<|bR<|tR<|ST.perm (zk3 _ _ _)<|fT fun g8 l0 p3=>?_);exact ST.retCD 3 s (.inl I) results79 I jX eE I I uR ⟨I,m.trans<|b.trans l0,⟨4,0,0,0,0,[],P6⟩,⟨_,_,I,zc1 _ _,p3⟩,by simp,by dsimp only;omega,(by intro a9;exfalso;omega),fun _ _ _ _=>⟨fun y=>absurd (show (4:Int)=1 from y) dC,fun y=>absurd (show (4:Int)=3 from y) dC⟩⟩
       ·refine rZ<|yE I<|aT I<|iP I (fun h8=>?_) (fun h8=>?_)
        ·refine rZ<|lK (qV 3 an ae I I I)<|lW (SO.call call130 I<|xg E g5 _ _ l d2 hf) ?_;rintro v252 g6 _ ⟨rfl,b,F8,d4,r1⟩;obtain ⟨pF,cF,rfl⟩:=za4 d4;have c1:=m.trans b;refine aT I<|SC.cut (ι:=Unit) (fun _=>[(4,pp C 0),(10,pp B 0),(12,pp G 0)]) (fun _=>g6) (fun _=>pt G (bY #[vi R,vi yd,.slice yp Y.sides.length yc] 37)::pt B (bY #[vi M,vi Q,.slice xp X.sides.length xc] 37)::pt C (bY #[vi 0,vi 0,vi 0,vi 0,vi 0,.slice none 0 0,.slice none 0 0] 58)::pt N (bY #[.slice p l.length c] 29)::pt J (bY #[vi k0,vi f,vi t,vi F] 117)::s) (fun _=>True) ?_ ?_
         ·refine SC.cutB 261 (decide (0<F8.length)&&decide (t.tmod 5≠0)) ?_ ?_
          ·refine rG<|lM I<|lU (eN mG I)<|lU (gR I I)<|lM I<|sP ?_ ?_
           ·intro l1;exact lY I I I (fA dY I zT3 I)<|SL.gq (gT I I I dC) (qL (v:=vi t) iT3 I<|cO 4 I I) dC<|lY I I I (zd9 I I dC)<|lY I I I (nQ I I)<|yP I<|SL.nil<|zb1 (by (simp_all[aN];done)) mI
           ·intro l1;exact yA I<|yA I<|yA I<|yA I<|yF I<|SL.nil<|zb1 (by (simp_all[aN];done)) mI
          refine iQ I (fun hq=>?_) (fun hq=>?_)
          ·simp only[zj5,zj8] at hq;obtain ⟨p5,p6⟩:=sO f F8.length oM oM;have p7:=za6 d4 hq.1;have p9:F8[(bV f F8.length).toNat]?=some F8[(bV f F8.length).toNat]:=List.getElem?_eq_getElem p6;generalize F8[(bV f F8.length).toNat]=pr at *;obtain ⟨p1,p2⟩:=pr;refine sW I<|lU (fA dY I zT3 I)<|lK (qL (v:=vi f) iT3 I<|cO 4 I I)<|lM I<|lU (eN mG I)<|lW (SO.call lP I<|bB E g6 _ f F8.length oM) ?_;rintro _ _ _ ⟨rfl,rfl,rfl⟩;rw[p5];refine lU (iA mG p4 I I p7 oM sL) (lK (SQ.elemA isAgg99 p4 I (za7 d4) p9)<|bW (aL zeroValue99) fun r2=>?_);refine oZ (sK 0 p4 I I I I I sB)<|tZ<|rZ<|lU (iB qx zT3 I I dC dC)<|lK (qL (v:=vi p1) iT3 I<|cO 0 I I)<|lU (iB qx zT3 I I dC dC)<|lK (qL (v:=vi p2) iT3 I<|cO 0 I I)<|lU (za3 I<|bE58 _ _ _)<|oZ (sK 3 eE rfl rfl rfl rfl rfl<|by (repeat' (first | exact trivial | refine⟨by rfl,?_⟩))) ?_;refine tZ<|rE<|tR<|bR<|tR ?_;exact ST.retCD 3 s (.inl I) results79 I jX eE I I uR ⟨I,c1,⟨5,p1,0,0,p2,[],[]⟩,⟨_,_,I,zc1 _ _,zc1 _ _⟩,by simp,by simp,(by intro a9;exfalso;omega),fun _ _ _ _=>⟨fun y=>absurd (show (5:Int)=1 from y) dC,fun y=>absurd (show (5:Int)=3 from y) dC⟩⟩
          ·exact kP<|za9 () sB I I trivial
         rintro _ -;try dsimp only
         refine rZ<|lU (fA ao I zT3 I)<|lK (qL (v:=vi M) iT3 I<|cO 1 I I)<|lU (fA ao I zT3 I)<|lK (qL (v:=vi R) iT3 I<|cO 0 I I)<|lU (za3 I<|bE58 _ _ _)<|oZ (sK 2 eE rfl rfl rfl rfl rfl<|by (repeat' (first | exact trivial | refine⟨by rfl,?_⟩))) ?_;refine tZ<|rE<|bR<|tR ?_;exact ST.retCD 2 s (.inl I) results79 I jX eE I I uR ⟨I,c1,⟨5,M,0,0,R,[],[]⟩,⟨_,_,I,zc1 _ _,zc1 _ _⟩,by simp,by simp,(by intro a9;exfalso;omega),fun _ _ _ _=>⟨fun y=>absurd (show (5:Int)=1 from y) dC,fun y=>absurd (show (5:Int)=3 from y) dC⟩⟩
        ·refine kP<|bN<|tN<|rZ<|lU (fA dY I zT3 I)<|lK (qL (v:=vi f) iT3 I<|cO 4 I I)<|lU (zd9 I I dC)<|lU (SU.subW I I)<|lU (fA dY I zT3 I)<|lK (qL (v:=vi t) iT3 I<|cO 4 I I)<|lU (fA dY I zT3 I)<|lK (qL (v:=vi F) iT3 I<|cO 4 I I)<|lU (zd9 I I dC)<|lU (fA dY I zT3 I)<|lK (qL (v:=vi f) iT3 I<|cO 4 I I)<|lU (fA dY I zT3 I)<|lK (qL (v:=vi F) iT3 I<|cO 4 I I)<|lU (fA dY I zT3 I)<|lK (qL (v:=vi t) iT3 I<|cO 4 I I)<|lU (za3 I<|buildS80 _ _)<|lW (bS sty35 I I I (ab ⟨I,trivial⟩) dC) ?_;rintro _ _ _ ⟨l2,rfl,rfl,rfl⟩;refine zb5 fun g6 b c0=>?_;have a3:SlA encSide g6 (.slice (some ⟨l2,0,none⟩) 1 1) [⟨t,1⟩]:=SlA.lit c0 rfl rfl;refine lU (fA dY I zT3 I)<|lK (qL (v:=vi f) iT3 I<|cO 4 I I)<|lU (fA dY I zT3 I)<|lK (qL (v:=vi F) iT3 I<|cO 4 I I)<|lU (za3 I<|build99 _ _)<|lW (bS sty56 I I I (ab ⟨I,trivial⟩) dC) ?_;rintro _ _ _ ⟨l3,rfl,rfl,rfl⟩;refine zb5 fun g7 c7 q0=>?_;have q1:SlA ei g7 (.slice (some ⟨l3,0,none⟩) 1 1) [(f,F)]:=SlA.lit q0 rfl rfl;refine lU (za3 I<|bF58 _ _ _ _ _ _ _ _ _ _ _)<|oZ (sK 2 eE rfl rfl rfl rfl rfl<|by (repeat' (first | exact trivial | refine⟨by rfl,?_⟩))) ?_;refine tZ<|rE ?_;exact ST.retCD 2 s (.inl I) results79 I jX eE I I uR ⟨I,m.trans<|b.trans c7,⟨_,t,_,f,F,[⟨t,1⟩],[(f,F)]⟩,⟨_,_,I,za5 a3 c7,q1⟩,by simp,by simp,(by intro a9;exfalso;omega),fun _ ha hb hc=>⟨fun _=>hb,fun _=>⟨ha,hc⟩⟩⟩
set_option maxHeartbeats 1000000
def incS (S:List aj)(r:Int):Int:=(S.map fun y=>if y.cell=r then y.sign else 0).sum
def inc (A:List Cl)(id r:Int):Int:=incS ((ag A id).getD aA).sides r
def cf (ts:List Tm)(r:Int):Int:=(ts.map fun t=>if t.1=r then t.2 else 0).sum
def chL (D:List Cl)(ts:List Tm)(r:Int):Int:=(ts.map fun t=>t.2 * inc D t.1 r).sum
def chR (img:Int→List Tm)(S:List aj)(r:Int):Int:=(S.map fun y=>y.sign * cf (img y.cell) r).sum
def Fu (A D:List Cl)(img:Int→List Tm):Prop:=∀ x∈A,∀ r,chL D (img x.id) r=chR img x.sides r
theorem F3 (e:Ed)(a:Int)(y:Cl):(bI e a y).id=y.id:=by unfold bI;split <;> rfl
theorem o9 {A:List Cl}{e:Ed}(h:Rt A)(hc:eO A e=0):∃ c,c∈A∧c.id=e.cell∧ag A e.cell=some c∧c.dim=1 ∧
  dP A e=[⟨e.new,0,[]⟩,⟨e.other,1,[⟨e.new,-1⟩,⟨(kJ c.sides true).cell,1⟩]⟩]++A.map (bI e (kJ c.sides false).cell):=by
 unfold eO at hc;cases a:ag A e.cell with
 | none=>rw[a] at hc;cases hc
 | some c =>
  rw[a] at hc;dsimp only at hc;obtain ⟨b,d⟩:=aJ a;have hd:c.dim=1:=by
   by_cases hd:c.dim=1
   ·exact hd
   ·rw[zg3 hd] at hc;cases hc
  exact⟨c,b,d,I,hd,by unfold dP;rw[h.findC,a];rfl⟩
theorem sI {A:List Cl}{a:List Int}{c:Cl}:c∈cJ A a↔c∈A∧c.id ∉ a:=by
 unfold cJ;rw[zh6];simp
theorem rK {A:List Cl}{e:Ed}(h:bH A e=0):e.kind=1∨e.kind=2∨e.kind=3∨e.kind=4∨e.kind=5:=by
 unfold bH at h;split at h
 ·omega
 split at h
 ·omega
 split at h
 ·omega
 split at h
 ·omega
 split at h
 ·omega
 cases h
def Gr (D:List Cl)(d:Int)(ts:List Tm):Prop:=(ts.Pairwise fun a b=>a.1<b.1)∧(∀ t∈ts,t.2=1∨t.2 = -1)∧(∀ t∈ts,∃ c,ag D t.1=some c∧c.dim=d)∧ts.length≤64
structure GP (l m:List Cl)(img:Int→List Tm):Prop where
 cl:(aq l).2=0
 cm:(aq m).2=0
 fit:∀ x∈aa l,Gr (aa m) x.dim<|img x.id
 chain:Fu (aa l) (aa m) img
section
variable {l m:List Cl}{img:Int→List Tm}(h:GP l m img)
include h
end
theorem Eg (acc:List Cl)(c:Cl):∃ d∈gn acc c,d.id=c.id:=by
 unfold gn;split
 ·rename_i h;obtain ⟨x,a,b⟩:=zk1.1 h;exact⟨x,a,by simpa using b⟩
 ·exact⟨c,by simp,I⟩
theorem CO {acc:List Cl}{x:Cl}(h:x∈acc)(c:Cl):x∈gn acc c:=by
 unfold gn;split
 ·exact h
 ·simp[h]
theorem rv:∀ (l:List Cl) {acc:List Cl} {x:Cl},x∈acc→x∈l.foldl gn acc
 | [],_,_,h=>h
 | c::l,_,_,h=>rv l<|CO h c
theorem uA:∀ (l acc:List Cl) {x:Cl},x∈l→∃ d∈l.foldl gn acc,d.id=x.id
 | c::l,acc,x,h=>by
  rcases zf3.1 h with rfl | h
  ·obtain ⟨d,a,b⟩:=Eg acc x;exact⟨d,rv l a,b⟩
  ·exact uA l _ h
theorem Dc {l:List Cl}{c:Cl}(h:c∈l):∃ d∈am l,d.id=c.id:=by
 have a:cj c∈aa l:=by
  unfold aa;exact zf4.2 ⟨c,(fE (key:=Cl.id) l).mem_iff.2 h,I⟩
 have b:=uA _ [] a;exact b
def gH (Ls:List (List Cl)):List Int:=(am Ls.flatten).map Cl.id
theorem lF (Ls:List (List Cl)):(gH Ls).Pairwise (· < ·):=by
 have a:=fD Ls.flatten;have b:=iX Ls.flatten;exact (a.and b).imp fun h=>by have:=h.1;have:=h.2;omega
theorem yU {Ls:List (List Cl)}{id:Int}:id∈gH Ls↔∃ A∈Ls,∃ c∈A,c.id=id:=by
 unfold gH;constructor
 ·intro h;obtain ⟨c,hc,rfl⟩:=zf4.1 h;obtain ⟨d,hd,a⟩:=EQ hc;obtain ⟨A,hA,b⟩:=List.mem_flatten.1 hd;exact⟨A,hA,d,b,a⟩
 ·rintro ⟨A,hA,c,hc,rfl⟩;obtain ⟨d,hd,a⟩:=Dc<|List.mem_flatten.2 ⟨A,hA,hc⟩;exact zf4.2 ⟨d,hd,a⟩
def bo (A B:List Cl)(id:Int):Bool:=decide (ag A id=ag B id)
def pickT (B L R:List Cl)(id:Int):Option (Option Cl) :=
 if bo L R id||bo R B id then some (ag L id) else if bo L B id then some (ag R id) else none
def fN (B L R:List Cl):List Int:=(gH [B,L,R]).filter fun id=>(pickT B L R id).isNone
def gy (B L R:List Cl):List Cl:=(gH [B,L,R]).filterMap fun id=>(pickT B L R id).join
def kh (S:List Cl)(x:Cl):Bool:=x.sides.any fun s=>match ag S s.cell with
 | none=>true
 | some y=>decide (y.dim≠x.dim - 1)
def lf (S:List Cl)(x:Cl):Bool:=decide (x.dim>1)&&decide (bD S x≠0)
def bC (w:Cl→Bool)(S:List Cl):List Int:=(S.filter w).map Cl.id
def dG (B L R:List Cl):List Cl×List Int :=
 if fN B L R≠[] then ([],fN B L R)
 else if bC (kh<|gy B L R) (gy B L R)≠[] then ([],bC (kh<|gy B L R)<|gy B L R)
 else if bC (lf<|gy B L R) (gy B L R)≠[] then ([],bC (lf<|gy B L R)<|gy B L R)
 else if 4000<(gy B L R).length then ([],bC (fun x=>(ag B x.id).isNone)<|gy B L R)
 else (gy B L R,[])
theorem Ae {w:Cl→Bool}{S:List Cl}(h:S.Pairwise fun a b=>a.id<b.id):(bC w S).Pairwise (· < ·):=by
 unfold bC;rw[zk6];exact h.sublist List.filter_sublist
theorem sn {B L R:List Cl}{x:Cl}(h:x∈gy B L R):(ag L x.id=some x∧(bo L R x.id||bo R B x.id)=true)∨(ag R x.id=some x∧bo L B x.id=true):=by
 unfold gy at h;obtain ⟨id,_,a⟩:=List.mem_filterMap.1 h;unfold pickT at a;split at a
 ·rename_i b;have a:ag L id=some x:=a;have c:=(aJ a).2;rw[← c] at a b;exact .inl ⟨a,b⟩
 ·split at a
  ·rename_i b;have a:ag R id=some x:=a;have c:=(aJ a).2;rw[← c] at a b;exact .inr ⟨a,b⟩
  ·cases a
theorem sr (B L R:List Cl):(gy B L R).Pairwise fun a b=>a.id<b.id:=by
 unfold gy;rw[List.pairwise_filterMap];refine (lF [B,L,R]).imp fun {a b} f c hc d hd=>?_;have key:∀ {id:Int} {y:Cl},y∈(pickT B L R id).join→y.id=id:=fun {id y} e=>by
  have e:(pickT B L R id).join=some y:=e;unfold pickT at e;split at e
  ·exact (aJ (show ag L id=some y from e)).2
  ·split at e
   ·exact (aJ (show ag R id=some y from e)).2
   ·cases e
 rw[key hc,key hd];exact f
theorem mR (B L R:List Cl):(dG B L R).2.Pairwise (· < ·) ∧
  ((∀ id∈(dG B L R).2,(ag L id).isSome||(ag R id).isSome) ∧
  ((∀ id∈(dG B L R).2,bo L B id=false∧bo R B id=false∧bo L R id=false)∨∀ id∈(dG B L R).2,bo L B id=true∨bo R B id=true∨bo L R id=true)):=by
 have a:∀ (w:Cl→Bool),((bC w<|gy B L R).Pairwise (· < ·))∧(∀ id∈bC w (gy B L R),(ag L id).isSome||(ag R id).isSome)∧∀ id∈bC w (gy B L R),bo L B id=true∨bo R B id=true∨bo L R id=true:=fun w=>by
  refine⟨Ae<|sr B L R,fun id b=>?_,fun id b=>?_⟩
  ·obtain ⟨x,e,rfl⟩:=zf4.1 b
   rcases sn (zh6.1 e).1 with ⟨h,_⟩ | ⟨h,_⟩ <;> rw[h] <;> simp
  ·obtain ⟨x,e,rfl⟩:=zf4.1 b
   rcases sn (zh6.1 e).1 with ⟨_,h⟩ | ⟨_,h⟩
   ·rcases zj6 _ _ ▸ h with h | h
    ·exact .inr<|.inr h
    ·exact .inr<|.inl h
   ·exact .inl h
 unfold dG;split
 ·refine⟨(lF _).sublist List.filter_sublist,fun id b=>?_,.inl fun id b=>?_⟩
  ·obtain ⟨g,c⟩:=zh6.1 b;try dsimp only at c
   unfold pickT at c;split at c
   ·cases c
   ·rename_i d;cases hl:ag L id with
    | some _=>rfl
    | none =>
     cases hr:ag R id with
     | some _=>rfl
     | none=>exact absurd (show (bo L R id||bo R B id)=true by simp[bo,hl,hr]) d
  ·obtain ⟨g,c⟩:=zh6.1 b;try dsimp only at c
   unfold pickT at c;split at c
   ·cases c
   ·rename_i d;split at c
    ·cases c
    ·rename_i f;simp only[zj6,not_or,zj9] at d f;exact⟨f,d.2,d.1⟩
 ·split
  ·exact⟨(a _).1,(a _).2.1,.inr (a _).2.2⟩
  ·split
   ·exact⟨(a _).1,(a _).2.1,.inr (a _).2.2⟩
   ·split
    ·exact⟨(a _).1,(a _).2.1,.inr (a _).2.2⟩
    ·exact⟨by simp,by simp,.inr dO⟩
section
variable {z0 z1:aj}(hz:(z0.sign=1∧z1.sign = -1)∨(z0.sign = -1∧z1.sign=1))
include hz
end
section
variable {A:List Cl}(h:Rt A){e:Ed}
include h
end
theorem Fd {B L R:List Cl}{id:Int}{y:Cl}(h:(pickT B L R id).join=some y):y.id=id:=by
 unfold pickT at h;split at h
 ·exact (aJ (show ag L id=some y from h)).2
 ·split at h
  ·exact (aJ (show ag R id=some y from h)).2
  ·cases h
theorem nB {B L R:List Cl}{x:Cl}(h:x∈gy B L R):x∈L∨x∈R:=by
 rcases sn h with ⟨h,_⟩ | ⟨h,_⟩
 ·exact .inl (aJ h).1
 ·exact .inr (aJ h).1
theorem AW (B L R:List Cl):(gy B L R).length≤B.length+(L.length+R.length):=by
 have a:(gy B L R).length≤(gH [B,L,R]).length:=List.length_filterMap_le ..;have b:=ib [B,L,R].flatten;unfold gH at a;rw[ze8] at a;have c:[B,L,R].flatten.length=B.length+(L.length+R.length):=by simp
 omega
theorem uH {w:Cl→Bool}{S:List Cl}(h:bC w S=[]){x:Cl}(a:x∈S):w x=false:=by
 unfold bC at h;rw[List.map_eq_nil_iff,List.filter_eq_nil_iff] at h;simpa using h x a
theorem F0 {B L R:List Cl}(f:Rt L)(g:Rt R)(hl:bC (kh<|gy B L R) (gy B L R)=[])(i:bC (lf<|gy B L R) (gy B L R)=[])(hn:(gy B L R).length≤4000):Rt (gy B L R):=by
 refine⟨hn,sr B L R,fun x c=>?_,fun x c=>?_,fun x c hd=>?_⟩
 ·rcases nB c with h | h
  ·exact f.pos x h
  ·exact g.pos x h
 ·have a:∃ A,Fm A x:=by
   rcases nB c with h | h
   ·exact⟨L,f.form x h⟩
   ·exact⟨R,g.form x h⟩
  obtain ⟨A,a⟩:=a;refine⟨a.dim,a.cnt,fun s j=>?_,a.asc,a.sg,a.one⟩;have b:=uH hl c;unfold kh at b;rw[zk7] at b;have e:=b s j;cases hd:ag (gy B L R) s.cell with
  | none=>rw[hd] at e;simp at e
  | some d=>rw[hd] at e;simp at e;exact⟨d,I,e⟩
 ·have b:=uH i c;unfold lf at b;rw[zg1 hd,Bool.true_and] at b;simpa using b
def Ek (A B:List Cl)(id:Int):Bool:=(ag (mA A B) id).isSome
theorem DB (A B:List Cl):(mA A B).Sublist A:=List.filter_sublist
section
variable {A B:List Cl}(hA:Rt A)(hB:Rt B)
include hA
include hB
end
def GG (A B:List Cl):List Cl:=sortBy (fun c:Cl=>-c.dim) (A.filter fun c=>!Ek A B c.id)
def newL (A B:List Cl):List Cl:=sortBy Cl.dim (B.filter fun c=>!Ek A B c.id)
def Fw (x:Cl):Ed:=⟨2,x.id,0,0,0,[],[]⟩
def FV (x:Cl):Ed:=⟨1,x.id,x.dim,0,0,x.sides,[]⟩
def wo (A B:List Cl):List Ed:=(GG A B).map Fw++(newL A B).map FV
def oe (ml:List (Int×Int))(q:aj):List (Int×Int):=fw ml q.cell 1
def jN (tl:List Cl)(l:List aj):List (Int×Int):=l.foldl (fun ml x=>(ay tl x).foldl oe ml) []
theorem rm (r:Int):∀ (l:List aj) (b:List (Int×Int)),eU (l.foldl oe b) r=eU b r+((l.filter fun q=>decide (q.cell=r)).length:Int)
 | [],b=>by simp
 | q::l,b=>by
  rw[zj1,rm r l,oe,ux];by_cases h:r=q.cell
  ·rw[zg3 h,List.filter_cons_of_pos (by simpa using h.symm),zf1];omega
  ·rw[zg2 h,List.filter_cons_of_neg (by simpa using fun e:q.cell=r=>h e.symm)];omega
theorem Cq (tl:List Cl)(l:List aj)(r:Int):eU (jN tl l) r=(cntR tl l r:Int):=by
 have:∀ (l:List aj) (a:List (Int×Int)),eU (l.foldl (fun ml x=>(ay tl x).foldl oe ml) a) r=eU a r+(cntR tl l r:Int):=by
  intro l;induction l with
  | nil=>intro a;simp[cntR]
  | cons x q ih =>
   intro a;rw[zj1,ih,rm];unfold cntR kI;rw[zg6,List.sum_cons];omega
 have h:=this l [];unfold jN;rw[h];show 0+_=_;omega
theorem Ax {b ml:List (Int×Int)}(h:ml.map Prod.fst=b.map Prod.fst)(k x y:Int):(fw ml k y).map Prod.fst=(fw b k x).map Prod.fst:=by
 have c:∀ b:List (Int×Int),b.any (fun p=>decide (p.1=k))=(b.map Prod.fst).any (fun a=>decide (a=k)):=fun b=>by rw[List.any_map];rfl
 rw[oY,oY,c,c,h]
theorem uq (tl:List Cl)(l:List aj):(jN tl l).map Prod.fst=(fx tl l).map Prod.fst:=by
 have inner:∀ (x:aj) (l:List aj) (a ml:List (Int×Int)),ml.map Prod.fst=a.map Prod.fst→(l.foldl oe ml).map Prod.fst=(l.foldl (jM x) a).map Prod.fst:=by
  intro x l;induction l with
  | nil=>intro _ _ h;exact h
  | cons q l ih=>intro a ml h;exact ih _ _<|Ax h _ _ _
 have outer:∀ (l:List aj) (a ml:List (Int×Int)),ml.map Prod.fst=a.map Prod.fst→(l.foldl (fun ml x=>(ay tl x).foldl oe ml) ml).map Prod.fst=(l.foldl (fun a x=>(ay tl x).foldl (jM x) a) a).map Prod.fst:=by
  intro l;induction l with
  | nil=>intro _ _ h;exact h
  | cons x l ih=>intro a ml h;exact ih _ _<|inner x _ _ _ h
 exact outer l [] [] I
theorem y7:∀ {ml:List (Int×Int)} {k:Int},(∀ p∈ml,1≤p.2)→∀ p∈fw ml k 1,1≤p.2
 | [],k,_=>fun p hp=>by simp[fw] at hp;subst hp;exact Int.le_refl _
 | (a,z)::r,k,h=>by
  have b:=h (a,z) dO;have c:∀ p∈r,1≤p.2:=fun p hp=>h p<|List.mem_cons_of_mem _ hp;simp only[fw];split
  ·intro p hp
   rcases zf3.1 hp with rfl | hp
   ·dsimp only at b ⊢;omega
   ·exact c p hp
  ·intro p hp
   rcases zf3.1 hp with rfl | hp
   ·exact b
   ·exact y7 c p hp
theorem DF (tl:List Cl)(l:List aj):∀ p∈jN tl l,1≤p.2:=by
 have inner:∀ (l:List aj) (ml:List (Int×Int)),(∀ p∈ml,1≤p.2)→∀ p∈l.foldl oe ml,1≤p.2:=by
  intro l;induction l with
  | nil=>intro _ h;exact h
  | cons q l ih=>intro ml h;exact ih _<|y7 h
 have outer:∀ (l:List aj) (ml:List (Int×Int)),(∀ p∈ml,1≤p.2)→∀ p∈l.foldl (fun ml x=>(ay tl x).foldl oe ml) ml,1≤p.2:=by
  intro l;induction l with
  | nil=>intro _ h;exact h
  | cons x l ih=>intro ml h;exact ih _<|inner _ _ h
 exact outer l [] dO
theorem zU (tl:List Cl)(l:List aj):((jN tl l).map Prod.fst).Nodup:=by rw[uq];exact kW tl l
def mN (tl:List Cl)(l:List aj):Bool:=(fx tl l).any fun p=>decide (p.2≠0)||decide (eU (jN tl l) p.1≠2)
theorem uW (tl:List Cl)(l:List aj):mN tl l=false↔(∀ r,xF tl l r=0)∧∀ r,cntR tl l r=0∨cntR tl l r=2:=by
 have hz:=ot tl l;have hm:=Cq tl l;have g:=uq tl l;unfold mN;constructor
 ·intro h;rw[zk7] at h;refine⟨hz.1 (zk7.2 fun p hp=>?_),fun r=>?_⟩
  ·have:=h p hp;simp at this ⊢;exact this.1
  ·by_cases i:cntR tl l r=0
   ·exact .inl i
   ·have b:eU (jN tl l) r≠0:=by rw[hm];omega
    obtain ⟨q,hq,c,_⟩:=oH b;have d:r∈(fx tl l).map Prod.fst:=by rw[← g];exact zf4.2 ⟨q,hq,c⟩
    obtain ⟨p,hp,rfl⟩:=zf4.1 d;have a:=h p hp;simp at a;have e:=a.2;rw[hm] at e;right;omega
 ·rintro ⟨b,d⟩;rw[zk7];intro p hp;have a:=zk7.1 (hz.2 b) p hp;have e:p.1∈(jN tl l).map Prod.fst:=by rw[g];exact zf4.2 ⟨p,hp,I⟩
  obtain ⟨q,hq,f⟩:=zf4.1 e;have m:=DF tl l q hq;have j:=nM (zU tl l) q hq;rw[f,hm] at j;have n:=d p.1;have k:eU (jN tl l) p.1=2:=by rw[hm];omega
  simp at a ⊢;exact⟨a,k⟩
def qy:List (Int×Int)→Int→Option Int
 | [],_=>none
 | (a,z)::r,k=>if k=a then some z else qy r k
theorem ym {k i:Int}(r:Int):∀ {F:List (Int×Int)},qy F k=none→qy (F++[(k,i)]) r=if r=k then some i else qy F r
 | [],_=>rfl
 | (a,z)::F,h=>by
  simp only[qy] at h;split at h
  ·cases h
  ·rename_i b;rw[List.cons_append];simp only[qy];by_cases hr:r=a
   ·rw[zg3 hr,zg2 oM];rw[zg3 hr]
   ·rw[zg2 hr,zg2 hr,ym r h]
structure zj (tl:List Cl)(l:List aj)(J:List Int):Prop where
 len:J.length=l.length
 low:∀ (i:Nat) (v:Int),J[i]?=some v→0≤v∧v≤i
 link:∀ (i:Nat) (v:Int) (x y:aj),J[i]?=some v→l[i]?=some x→l[v.toNat]?=some y→Cn (kZ tl l) x.cell y.cell
def Gz (tl:List Cl)(l:List aj)(F:List (Int×Int)):Prop:=∀ r k,qy F r=some k→∃ n:Nat,k=n∧∃ x,l[n]?=some x∧0<kI tl x r
def wv (tl:List Cl)(l:List aj)(F:List (Int×Int))(J:List Int)(m:Nat):Prop:=∀ (i:Nat) (x:aj),i<m→l[i]?=some x→∀ q∈ay tl x,∃ n:Nat,qy F q.cell=some (n:Int)∧J[i]?=J[n]?
theorem sZ {tl:List Cl}{x:aj}{r:Int}:0<kI tl x r↔∃ q∈ay tl x,q.cell=r:=by
 unfold kI;rw[List.length_pos_iff_exists_mem];constructor
 ·rintro ⟨q,hq⟩;obtain ⟨a,b⟩:=zh6.1 hq;exact⟨q,a,zg5 b⟩
 ·rintro ⟨q,a,b⟩;exact⟨q,zh6.2 ⟨a,zg1 b⟩⟩
theorem zj.start (tl:List Cl)(l:List aj):zj tl l ((List.range l.length).map fun i:Nat=>(i:Int)):=by
 have hg:∀ (i:Nat) (v:Int),((List.range l.length).map fun i:Nat=>(i:Int))[i]?=some v→v=i:=fun i v h=>by
  rw[zi2] at h;by_cases a:i<l.length
  ·rw[List.getElem?_range a] at h;simp at h;exact h.symm
  ·rw[List.getElem?_eq_none (by simpa using a)] at h;cases h
 refine⟨by simp,fun i v h=>by rw[hg i v h];omega,fun i v x y h c b=>?_⟩;rw[hg i v h,Int.toNat_natCast,c] at b;cases b;exact .refl _
theorem vS {v a:Int}:∀ {J:List Int} {i:Nat},J[i]?=some a→(J.set i v).sum=J.sum+(v - a)
 | [],_,h=>by simp at h
 | b::J,0,h=>by
  simp at h;subst h;simp only[List.set_cons_zero,List.sum_cons];omega
 | b::J,i+1,h=>by
  have ih:=vS (J:=J) (i:=i) (v:=v) (a:=a) (by simpa using h);simp only[List.set_cons_succ,List.sum_cons];omega
theorem AV {J:List Int}(h:∀ (i:Nat) (v:Int),J[i]?=some v→0≤v):0≤J.sum:=by
 induction J with
 | nil=>exact Int.le_refl _
 | cons a J ih =>
  have c:=h 0 a rfl;have d:=ih fun i v b=>h (i+1) v (by simpa using b);rw[List.sum_cons];omega
theorem zj.upd {tl:List Cl}{l:List aj}{J:List Int}(h:zj tl l J){i k:Nat}{x y:aj}{a b r:Int}(s:l[i]?=some x)(t:l[k]?=some y)(hr:0<kI tl x r)(z:0<kI tl y r)(m:J[i]?=some a)(hb:J[k]?=some b)(F:min a b<max a b) :
  zj tl l ((J.set i<|min a b).set k<|min a b)∧((J.set i<|min a b).set k<|min a b).sum<J.sum:=by
 have A:i≠k:=fun e=>by subst e;rw[m] at hb;cases hb;omega
 have B:i<J.length:=(zf7.1 m).1;have C:k<J.length:=(zf7.1 hb).1;have n:Cn (kZ tl l) x.cell y.cell:=.one ⟨x,zg4 s,y,zg4 t,rfl,rfl,r,hr,z⟩;have G:=h.low i a m;have H:=h.low k b hb;have hm:min a b=a∨min a b=b:=oM;have d:∀ (j:Nat) (v:Int),((J.set i<|min a b).set k<|min a b)[j]?=some v→((j=i∨j=k)∧v=min a b)∨(j≠i∧j≠k∧J[j]?=some v):=fun j v c=>by
  by_cases g:j=k
  ·subst g;rw[List.getElem?_set_self (by rw[zi5];exact C)] at c;exact .inl ⟨.inr I,by injection c with c;exact c.symm⟩
  ·rw[List.getElem?_set_ne (fun e=>g e.symm)] at c;by_cases D:j=i
   ·subst D;rw[List.getElem?_set_self B] at c;exact .inl ⟨.inl I,by injection c with c;exact c.symm⟩
   ·rw[List.getElem?_set_ne (fun e=>D e.symm)] at c;exact .inr ⟨D,g,c⟩
 refine⟨⟨by rw[zi5,zi5];exact h.len,fun j v c=>?_,fun j v u w c o p=>?_⟩,?_⟩
 ·rcases d j v c with ⟨g | g,rfl⟩ | ⟨_,_,E⟩
  ·omega
  ·omega
  ·exact h.low j v E
 ·rcases d j v c with ⟨g,rfl⟩ | ⟨_,_,E⟩
  ·have f:Cn (kZ tl l) x.cell w.cell∧Cn (kZ tl l) y.cell w.cell:=by
    rcases hm with e | e
    ·rw[e] at p;have q:=h.link i a x w m s p;exact⟨q,n.symm.trans q⟩
    ·rw[e] at p;have q:=h.link k b y w hb t p;exact⟨n.trans q,q⟩
   rcases g with rfl | rfl
   ·rw[s] at o;cases o;exact f.1
   ·rw[t] at o;cases o;exact f.2
  ·exact h.link j v u w E o p
 ·rw[vS (a:=b) (by rw[List.getElem?_set_ne A];exact hb),vS m];omega
theorem Ck {tl:List Cl}{l:List aj}{F:List (Int×Int)}{J:List Int}(h:zj tl l J)(hF:wv tl l F J l.length)(hn:(l.map aj.cell).Nodup) :
  J.any (fun v=>decide (v>0))=false↔∀ x∈l,∀ y∈l,Cn (kZ tl l) x.cell y.cell:=by
 have g:∀ {i j:Nat} {x y:aj},l[i]?=some x→l[j]?=some y→x.cell=y.cell→i=j:=fun {i j x y} k u e=>by
  have s:(l.map aj.cell)[i]?=some x.cell:=by rw[zi2,k];rfl
  have C:(l.map aj.cell)[j]?=some x.cell:=by rw[zi2,u,e];rfl
  obtain ⟨i1,Q⟩:=zf7.1 s;obtain ⟨R,S⟩:=zf7.1 C;have key:∀ {a b:Nat} (T:a<(l.map aj.cell).length) (hb:b<(l.map aj.cell).length),a<b→(l.map aj.cell)[a]≠(l.map aj.cell)[b]:=fun {a b} T hb D=>zd1.1 hn a b T hb D
  rcases Nat.lt_trichotomy i j with p | p | p
  ·exact absurd (Q.trans S.symm)<|key i1 R p
  ·exact p
  ·exact absurd (S.trans Q.symm)<|key R i1 p
 constructor
 ·intro E x G y H;rw[zk7] at E;obtain ⟨i,k,rfl⟩:=zc8 G;obtain ⟨j,u,rfl⟩:=zc8 H;have key:∀ (i:Nat) (k:i<l.length),J[i]?=some 0:=fun i k=>by
   have s:i<J.length:=by rw[h.len];exact k
   have C:=h.low i J[i] (List.getElem?_eq_getElem s);have p:=E J[i] (gM s);rw[List.getElem?_eq_getElem s];simp at p;exact ze4 some oM
  have o:0<l.length:=oM;have c1:=h.link i 0 l[i] l[0] (key i k) (List.getElem?_eq_getElem k) (List.getElem?_eq_getElem o);have c2:=h.link j 0 l[j] l[0] (key j u) (List.getElem?_eq_getElem u) (List.getElem?_eq_getElem o);exact c1.trans c2.symm
 ·intro z;have one:∀ {a b:Int},kZ tl l a b→∃ (i j:Nat) (x y:aj),l[i]?=some x∧l[j]?=some y∧x.cell=a∧y.cell=b∧J[i]?=J[j]?:=by
   rintro a b ⟨x,G,y,H,rfl,rfl,r,p,K⟩;obtain ⟨i,k,rfl⟩:=zc8 G;obtain ⟨j,u,rfl⟩:=zc8 H;obtain ⟨q,hq,L⟩:=sZ.1 p;obtain ⟨V,M,A⟩:=sZ.1 K;obtain ⟨n,U,W⟩:=hF i l[i] k (List.getElem?_eq_getElem k) q hq;obtain ⟨m,m1,m2⟩:=hF j l[j] u (List.getElem?_eq_getElem u) V M;rw[L] at U;rw[A,U] at m1;injection m1 with m1
   have N:n=m:=oM;subst N;exact⟨i,j,l[i],l[j],List.getElem?_eq_getElem k,List.getElem?_eq_getElem u,I,I,W.trans m2.symm⟩
  have key:∀ {a b:Int},Cn (kZ tl l) a b→a=b∨∃ (i j:Nat) (x y:aj),l[i]?=some x∧l[j]?=some y∧x.cell=a∧y.cell=b∧J[i]?=J[j]?:=by
   intro a b hc;induction hc with
   | refl _=>exact .inl rfl
   | @step a' b' c' e _ ih =>
    have s:∃ (i j:Nat) (x y:aj),l[i]?=some x∧l[j]?=some y∧x.cell=a'∧y.cell=b'∧J[i]?=J[j]?:=by
     rcases e with e | e
     ·exact one e
     ·obtain ⟨i,j,x,y,a,b,c,d,f⟩:=one e;exact⟨j,i,y,x,b,a,d,c,f.symm⟩
    rcases ih with rfl | ⟨i2,X,x2,Y,a2,Z,c2,d2,f2⟩
    ·exact .inr s
    ·obtain ⟨i,j,x,y,a,b,c,d,f⟩:=s;have O:=g b a2<|d.trans c2.symm;subst O;exact .inr ⟨i,X,x,Y,a,Z,c,d2,f.trans f2⟩
  rw[zk7];intro v hv;obtain ⟨i,k,rfl⟩:=zc8 hv;have w:i<l.length:=by rw[← h.len];exact k
  have o:0<l.length:=oM;have B:0<J.length:=oM;have E:=h.low 0 J[0] (List.getElem?_eq_getElem B);have P:J[0]=0:=oM;have t:J[i]?=J[0]?:=by
   rcases key (z l[i] (gM w) l[0] (gM o)) with e | ⟨a,b,x,y,s,C,p,K,h5⟩
   ·rw[g (List.getElem?_eq_getElem w) (List.getElem?_eq_getElem o) e]
   ·have ea:=g s (List.getElem?_eq_getElem w) p;have eb:=g C (List.getElem?_eq_getElem o) K;subst ea eb;exact h5
  rw[List.getElem?_eq_getElem k,List.getElem?_eq_getElem B,P] at t;injection t with t
  rw[t];decide
theorem BZ {tl:List Cl}{c:Cl}{F:List (Int×Int)}{J:List Int}(i:0<c.sides.length)(hn:(c.sides.map aj.cell).Nodup)(hb:mN tl c.sides=false)(h:zj tl c.sides J)(hF:wv tl c.sides F J c.sides.length) :
  J.any (fun v=>decide (v>0))=decide (bD tl c≠0):=by
 have a:=kE (tl:=tl) i hn;have b:=(uW tl c.sides).1 hb;have d:=Ck h hF hn;cases f:J.any (fun v=>decide (v>0)) with
 | false=>exact (zf9<|Decidable.not_not.2<|a.2 ⟨b.1,b.2,d.1 f⟩).symm
 | true =>
  have j:bD tl c≠0:=fun e=>by
   have g:=d.2 (a.1 e).2.2;rw[f] at g;cases g
  exact (zg1 j).symm
theorem Dv {tl:List Cl}{c:Cl}(b:0<c.sides.length)(hn:(c.sides.map aj.cell).Nodup)(hb:mN tl c.sides=true):bD tl c≠0:=fun e=>by
 have a:=(kE (tl:=tl) b hn).1 e;rw[(uW tl c.sides).2 ⟨a.1,a.2.1⟩] at hb;cases hb
section
variable {W:List Cl}(hW:Rt W){p q:Int→Bool}(hp:si W p)(hq:si W q)(hc:∀ c∈W,(p c.id||q c.id)=true)
include hW hp hq hc
end
structure Grown (A:List Cl)(lo:Int)(m:Nat)(G:List Cl):Prop where
 rt:Rt G
 more:∃ N,G=A++N∧N.length≤m∧∀ n∈N,lo≤n.id∧n.id<lo+m
def nA (M L R:List Cl)(id:Int):Bool:=!bo L M id && !bo R M id && !bo L R id
theorem DX (B L R:List Cl):(dG B L R).2.filter (nA B L R)=[]∨(dG B L R).2.filter (nA B L R)=(dG B L R).2:=by
 rcases (mR B L R).2.2 with h | h
 ·refine .inr (List.filter_eq_self.2 fun id a=>?_);obtain ⟨b,c,d⟩:=h id a;unfold nA;rw[b,c,d];rfl
 ·refine .inl (List.filter_eq_nil_iff.2 fun id a=>?_);unfold nA
  rcases h id a with h | h | h <;> rw[h] <;> simp
end Go.Proofs.YtdepcjnaieflmaaGreatDoor
namespace Go.Sy
open Go
section
variable {P:Program}{b:Frame}{a:Act}{k:List Item}{cs:List Frame}{w:World}{Q:Exit→Act→World→Prop}
theorem e7 {c:Code}:step P (lone (b.atR a<|.code (.scope c)::k) cs w) = .next (lone (b.atR a<|.code c :: .inScope c::k) cs w) :=
 step_lone_go (by simp[stepG,stepG.exec,Frame.atR])
theorem qC {c:Code}:step P (lone (b.atR a<|.inScope c::k) cs w) = .next (lone (b.atR a k) cs w) :=
 step_lone_go (by simp[stepG,stepG.exec,Frame.atR])
theorem ww {F:Fence}{n:Nat}{c:Code}(h:c.wpIn F n P (Exit.noGoto Q) a w):(Code.scope c).wpIn F n P Q a w:=by
 intro b k cs j hb hr;have f:(lone (b.atR a<|.code (.scope c)::k) cs w).fenced P F:=fenced_calm hb hr rfl;obtain ⟨e,g,i,hq,d⟩:=h b (.inScope c::k) cs j hb hr;cases e with
 | normal=>exact⟨.normal,g,i,hq,.head f e7<|StepsIn.trans d<|.one (fenced_calm hb hr rfl) qC⟩
 | exit id =>
  have p:exitTo id (.inScope c::k)=exitTo id k:=by simp[exitTo]
  exact⟨.exit id,g,i,hq,fun q m=>.head f e7 (d.1 q (by rw[p];exact m)),
   fun o m=>let ⟨k₁,r,s⟩:=d.2 o (by rw[p];exact m);⟨k₁,r,.head f e7 s⟩⟩
 | goto l=>exact hq.elim
 | ret=>exact⟨_,g,i,hq,.of_steps (.one f e7) d⟩
 | panic ch=>exact⟨_,g,i,hq,.of_steps (.one f e7) d⟩
 | outgrown=>exact⟨_,g,i,hq,.of_steps (.one f e7) d⟩
end
section
variable {P:Program}{M:Md}{N:Nat}{E:World}{Q:Exit→Act→World→Prop}{f:Fr}{g:PH}{s:Own}
theorem XC.scope {c:Code}(h:XC P M N E c (Exit.noGoto Q) f g s):XC P M N E (.scope c) Q f g s:=fun a w b d=>ww (h a w b d)
theorem XT.scopeR (h:XT M N E Q .ret f g s):XT M N E (Exit.noGoto Q) .ret f g s:=h
end
def Ez (P:Program)(E:World)(gf:FuncId)(lb:List Value){α:Type}(encs:α→List Value)(T:List α→α→Prop)(R:List α→Prop)(g0:PH):Prop :=
 ∀ (l:Nat) (ι:Type) (G:ι→PH) (S:ι→Own) (J:List α→ι→Prop) (i0:ι),J [] i0→(∀ pre i,J pre i→Le g0 (G i))→(∀ pre i g',J pre i→Le (G i) g'→∃ i',J pre i'∧G i'=g'∧S i'=S i) →
  (∀ pre x i sx,T pre x→J pre i→wt P E l (encs x).toArray (G i) (S i++sx) (fun v g' s'=>v = .bool true∧∃ j,J (pre++[x]) j∧Le (G i) (G j)∧g'=G j∧s'=S j++sx)) →
  ∀ sx,Ctr P E gf (.func (.yield l) #[] #[]::lb).toArray (G i0) (S i0++sx) (fun _ g' s'=>∃ xs j,R xs∧J xs j∧g'=G j∧s'=S j++sx)
section
variable {P:Program}{M:Md}{N:Nat}{E:World}{Q:Exit→Act→World→Prop}{f:Fr}{g:PH}{s:Own}{dst:Option Tmp}{ty:TypeId}{pos:String}{af:Array Edge}{gd:Option (Nat×Bool)}
theorem XC.rangeFuncP {α ι κ:Type}{A:Operand}{ps:Array Tmp}{assign body:Code}{B:FuncId}{C:List Value}{encs:α→List Value}{T:List α→α→Prop}{R:List α→Prop}{g0:PH}(G:ι→PH)(S:ι→Own)(J:List α→ι→Prop)(i0:ι)(c:Own)(fa:α→Fr)(fb:List α→α→ι→κ→Fr)(X:α→κ→Own)
  (b1:M.ro=none) (hg:ev f A=some (.func (.func B) #[] C.toArray)) (eg:∀ args w,(callFunc B args).run P w = .ok (.enter B args) w) (b2:∀ x,(encs x).length=ps.size)
  (hG:G i0=g) (hS:S i0++c=s) (a0:Ez P E B C encs T R g0) (F:∀ pre i,J pre i→Le g0 (G i)) (b3:∀ pre i g',J pre i→Le (G i) g'→∃ i',J pre i'∧G i'=g'∧S i'=S i) (h0:J [] i0)
  (b4:∀ x a,Ok N f (jE a)→Ok N (fa x) { tmps:=(ps.zip (encs x).toArray).foldl (fun t (p,v)=>t.setIfInBounds p v) a.tmps,defers:=[] })
  (o:∀ l pre x i z,J pre i→XC P ⟨some l,[]⟩ N E assign (m9 (N:=N) E (G i) (S i++z) (fb pre x i)<|X x) (fa x) (G i) (S i++z))
  (H:∀ l pre x i z q,(∃ (r:Loop) (k:Nat),z[k]?=some (pt l<|.loop r))→T pre x→J pre i→XC P ⟨some l,[]⟩ N E body (o0 E G S J pre x (G i) z) (fb pre x i q) (G i) (X x q++(S i++z)))
  (K:∀ D xs j,R xs→J xs j→XT ⟨none,⟨.collected D,#[]⟩::M.ds⟩ N E Q .normal f (G j) (pt D (.deferred<|some [])::(S j++c))):XC P M N E (.rangeFunc A ps assign body) Q f g s:=by
 subst hG hS;intro a w ha hw;rw[b1];refine wpIn_rangeFunc ?_;intro fn _;obtain ⟨rec,b⟩:∃ rec:LoopState→Option Code→Loop,rec=fun st pe=>{ state:=st,pending:=pe,fn,tmps:=a.tmps,params:=ps,assign,body,defers:=w.heap.size }:=⟨_,rfl⟩;obtain ⟨L,hL⟩:∃ L,L=w.heap.size+1:=⟨_,rfl⟩;obtain ⟨D,hD⟩:∃ D,D=w.heap.size:=⟨_,rfl⟩;obtain ⟨W1,a4⟩:∃ W1,(w.alloc<|.deferred<|some []).alloc (.loop<|rec .ready none)=W1:=⟨_,rfl⟩;have hA:At E (G i0) (pt L (.loop<|rec .ready none)::pt D (.deferred<|some [])::(S i0++c)) W1:=by
  rw[← a4,hL,hD];have O:At E (G i0) (pt w.heap.size (.deferred<|some [])::(S i0++c)) (w.alloc<|.deferred<|some []):=hw.alloc (e:=pt w.heap.size<|.deferred<|some []) rfl rfl;have U:=O.alloc (e:=pt (w.alloc<|.deferred<|some []).heap.size<|.loop<|rec .ready none) rfl rfl;rw[World.size_alloc] at U;exact U
 obtain ⟨S2,y⟩:∃ S2:ι→Own,S2=fun i=>S i++(pt L (.loop<|rec .ready none)::pt D (.deferred<|some [])::c):=⟨_,rfl⟩;have b5:At E (G i0) (S2 i0++[]) W1:=by
  rw[y,zc7];dsimp only;refine hA.perm ?_;have O:(pt L (.loop<|rec .ready none)::pt D (.deferred<|some [])::(S i0++c))=[pt L<|.loop<|rec .ready none,pt D<|.deferred<|some []]++(S i0++c):=rfl;have U:S i0++(pt L (.loop<|rec .ready none)::pt D (.deferred<|some [])::c)=S i0++([pt L<|.loop<|rec .ready none,pt D<|.deferred<|some []]++c):=rfl;rw[O,U,← zh1,← zh1];exact List.perm_append_comm.append_right _
 refine⟨L,[{ target:=.collected D,args:=#[] }],W1,{ target:=.fn (.func B) C.toArray,args:=#[.func (.yield L) #[] #[]] },W1,B,(.func (.yield L) #[] #[]::C).toArray,W1,?_,?_,fun _ _=>trivial,?_,fun h=>(by cases h),?_⟩
 ·rw[← a4,b,hL,hD];exact run_enterLoop_outer _ _ _ _ _
 ·have O:a.eval A = .func (.func B) #[] C.toArray:=ha.ev hg;simp only[resolve,O];simp[go_sem]
 ·have:(#[.func (.yield L) #[] #[]]++C.toArray:Array Value)=(.func (.yield L) #[] #[]::C).toArray:=by simp
  simp[invoke,go_sem,eg]
 ·refine (callsIn_wide (n:=0 - 1)).2<|(a0 L ι G S2 J i0 h0 F (fun pre i g' hJ hl=>by obtain ⟨i',a1,a2,a3⟩:=b3 pre i g' hJ hl;exact⟨i',a1,a2,by rw[y];dsimp only;rw[a3]⟩) ?_ [] W1 b5).mono ?_
  ·intro pre x i z b6 hJ W hW;rw[y] at hW;simp only[zh1,List.cons_append] at hW;have c3:(S i).length=(S i).length:=rfl;have gl:∀ (i:ι) (u d:Ent) (r:Own),(S i++u::d::r)[(S i).length]?=some u:=fun i u d r=>by simp
   have hl:=hW.here<|gl i _ _ _;have hy:=run_yield (P:=P) (args:=(encs x).toArray) hl (by rw[b];simpa using b2 x);rw[b] at hy;refine⟨fn,_,assign,body,hy,roundIn_of_wpIn trivial ?_⟩;refine Code.wpIn_mono (fun e a1 w1 O=>?_)<|o L pre x i _ hJ { tmps:=(ps.zip (encs x).toArray).foldl (fun t (p,v)=>t.setIfInBounds p v) a.tmps,defers:=[] } W ⟨I,b4 x a ha.2⟩ hW;obtain ⟨rfl,q,b7,a5⟩:=O;have glX:∀ (X:Own) (i:ι) (u d:Ent) (r:Own),(X++(S i++u::d::r))[X.length+(S i).length]?=some u:=fun X i u d r=>by rw[zh5 oM,Nat.add_sub_cancel_left];exact gl i u d r
   have b8:=a5.here<|glX _ i _ _ _;refine⟨_,run_beginRound b8 (by rw[b]),?_⟩;have m:∀ (i:ι) (u d v:Ent) (r:Own),(S i++u::d::r).set (S i).length v=S i++v::d::r:=fun i u d v r=>by simp
   have V:∀ (X:Own) (i:ι) (u d v:Ent) (r:Own),(X++(S i++u::d::r)).set (X.length+(S i).length) v=X++(S i++v::d::r):=fun X i u d v r=>by rw[List.set_append_right _ _ oM,Nat.add_sub_cancel_left,m]
   have a9:=a5.obj (o':=.loop { rec .ready none with state:=.busy })<|glX _ i _ _ _;rw[V] at a9;refine Code.wpIn_mono (fun e a3 w3 h3=>?_)<|H L pre x i _ q ⟨_,0,I⟩ b6 hJ a1 _ b7 a9;obtain ⟨rfl,j,b0,b9,c0⟩:=h3;have c1:=b0.here<|gl j _ _ _;have he:=run_endRound (P:=P) none c1;have Y:=b0.obj (o':=.loop { (rec .ready none) with state:=.ready,pending:=none })<|gl j _ _ _;rw[m] at Y;refine⟨_,_,he,.bool true,G j,S2 j++z,I,?_,I,j,b9,c0,I,I⟩;rw[y];simp only[zh1,List.cons_append];rw[b] at Y ⊢;exact Y
  ·rintro e W2 ⟨v,g',s',rfl,Z,xs,j,hR,hJ,rfl,rfl⟩;rw[y,zc7] at Z;have gl:∀ (i:ι) (u d:Ent) (r:Own),(S i++u::d::r)[(S i).length]?=some u:=fun i u d r=>by simp
   have hl:=Z.here<|gl j _ _ _;have he:=run_endLoop (P:=P) hl (by rw[b];simp);have U:=Z.obj (o':=.loop { (rec .ready none) with state:=.exhausted })<|gl j _ _ _;have m:∀ (i:ι) (u d v:Ent) (r:Own),(S i++u::d::r).set (S i).length v=S i++v::d::r:=fun i u d v r=>by simp
   rw[m] at U;have c2:(rec .ready none).pending=none:=by rw[b]
   refine⟨none,_,he.trans<|ze4 (fun p=>Result.ok p _) c2,?_⟩;refine K D xs j hR hJ _ _ ⟨by rw[← ha.1];rfl,ha.2⟩ ?_;have h3:=(U.sublist (s':=S j++pt D (.deferred<|some [])::c)<|by exact (zc4 _).append<|zj3 _ _).perm List.perm_middle;exact h3
end
section
variable {P:Program}{M:Md}{N:Nat}{E:World}{Q:Exit→Act→World→Prop}{f:Fr}{g:PH}{s:Own}{ops:Array Oper}{b:Nat}{o:Obj}
theorem XL.freeze {l:List Oper}(h:∀ g',Le g g'→g' b=some o→XL P M N E ops Q l f g' s):XL P M N E ops Q l f g (pt b o::s):=fun a w e c=>by
 have d:=c.own (pt b o) dO;simp only[pt,Option.bind_some] at d;obtain ⟨i,j⟩:=c.freeze (b:=b) rfl d;exact h _ j (fc _ _ _) a w e i
theorem XC.freeze {c:Code}(h:∀ g',Le g g'→g' b=some o→XC P M N E c Q f g' s):XC P M N E c Q f g (pt b o::s):=fun a w i d=>by
 have e:=d.own (pt b o) dO;simp only[pt,Option.bind_some] at e;obtain ⟨j,k⟩:=d.freeze (b:=b) rfl e;exact h _ k (fc _ _ _) a w i j
end
section
variable {P:Program}{M:Md}{N:Nat}{E:World}{ops:Array Oper}{Q:Exit→Act→World→Prop}{g0:PH}{s0:Own}{tail:List Nat}{f:Fr}{g:PH}{s s':Own}{L:Array Bool}{n:Nat}
theorem XC.drawX {id:Nat}(tail:List Nat)(hm:P.follows .mixedOrders=true)(c:Region.noSelect ops=true)(i:oa ops=true)(h:SX P N E ops (Qx M.ds Q) g s tail (Array.replicate ops.size false) ops.size f g s):XC P M N E (.region id ops true) Q f g s:=by
 intro a w j k;have l:a=ext M.ds (jE a):=by
  obtain ⟨t,d⟩:=a;have hd:d=M.ds:=j.1;subst hd;simp[ext,jE]
 rw[l];exact wpIn_region_any hm<|jC i (fun e b w h=>h) _ _ _ _<|iW _ _ _ _ (S:=At E g s) (tail:=tail)<|h (jE a) { w with drawn:=w.drawn+1 } c (jo _) j.2 (k.drew _<|Nat.le_succ _) (fun _=>k.drew _<|Nat.le_succ _)
theorem SX.br4 (i j m p:Nat)(hr:Region.ready .any ops L=[i,j,m,p])(h:SB P N E ops Q g0 s0 tail L n i f g s)(r:SB P N E ops Q g0 s0 tail L n j f g s)(t:SB P N E ops Q g0 s0 tail L n m f g s)(u:SB P N E ops Q g0 s0 tail L n p f g s):SX P N E ops Q g0 s0 tail L (n+1) f g s:=by
 intro a w e b l o hb;refine⟨fun q=>(by rw[hr] at q;cases q),fun k d=>?_⟩;have c:=d;rw[hr] at c;simp only[zf3,zh9,List.not_mem_nil,or_false] at c
 rcases c with rfl | rfl | rfl | rfl
 ·exact h a w e b d l o hb
 ·exact r a w e b d l o hb
 ·exact t a w e b d l o hb
 ·exact u a w e b d l o hb
end
end Go.Sy
namespace Go.Proofs.YtdepcjnaieflmaaGreatDoor
open _root_.Go.Proofs.Tryz _root_.Go.Proofs.YtdepcjnaieflmaaGreatDoor.Tryz
open Go Go.Sy Go.Pl Go.Proofs
set_option maxRecDepth 100000
set_option maxHeartbeats 4000000
theorem Tryz.mty65:MTy Tryz.prog 65 3 37 (.agg #[vi 0,vi 0,.slice none 0 0]):=⟨underlying65,underlying3,zm2⟩
theorem Tryz.sty121:STy Tryz.prog 121 65 1 8 (.map none):=⟨underlying121,⟨t65,by kernel_rfl,by kernel_rfl,by kernel_rfl,by kernel_rfl⟩,rfl,by decide⟩
theorem Tryz.sty119:STy Tryz.prog 119 29 1 24 (.agg #[.slice none 0 0]):=⟨underlying119,⟨t29,by kernel_rfl,by kernel_rfl,by kernel_rfl,by kernel_rfl⟩,rfl,by decide⟩
def lQ (g:PH)(v:Value)(l:List Cl):Prop:=∃ m rs,v = .map (some m)∧Mp g m (rs.map ap)∧ax (ak g) l rs
theorem lQ.mono {g g':PH}{v:Value}{l:List Cl}(h:lQ g v l)(hl:Le g g'):lQ g' v l:=by
 obtain ⟨m,rs,a,b,c⟩:=h;exact⟨m,rs,a,b.mono hl,c.mono fun _ _=>ak.mono hl⟩
theorem SU.eqBB {P:Program}{N:Nat}{f:Fr}{dst:Option Tmp}{ty:TypeId}{pos:String}{af:Array Edge}{gd:Option (Nat×Bool)}{x y:Operand}{T U:TypeId}{a b:Bool}(d:P.underlying T=some .bool)(e:ev f x=some (vb a))(g:ev f y=some (vb b)) :
  SU P N ⟨dst,.binOp .eql T x y U,ty,pos,af,gd⟩ f (vb<|a == b):=fun ac w c=>by
 have hg:(eqGuard .eql T x y (.bool a)<|.bool b).run P w = .ok () w:=by simp[eqGuard]
 have hb:=run_eql_bool (P:=P) w T a b d;simp only[execOp,c.ev e,c.ev g,Sem.run_bind,hg,zd2,hb];rfl
theorem FX (E:World)(g:PH)(s:Own)(v:Value)(l:List Cl)(a:ai g v l)(b:aM l) :
  Ctr Tryz.prog E 81 #[.agg #[v]] g s (fun r g' s'=>r=vb (decide ((aq l).2≠0))∧g=g'∧s=s'):=by
 obtain ⟨q,d,rfl⟩:=a.form;refine zb2 (args:=[.agg #[.slice q l.length d]]) func81 I ntmps81 (bE I)<|rZ (bW (bO I) fun c=>?_);refine aT I<|rZ<|lK (qV 0 an ae I I I)<|lW (SO.call call17 I<|m0 E g _ _ l a b) ?_;rintro _ _ _ ⟨rfl,rfl,rfl⟩;exact lM I<|yX I<|yX I<|lA I<|aT I<|sW I<|lU (nQ I I)<|aT I<|rE<|dR (s':=s) uR<|za8 (.inl I) results81 I ⟨I,I,I⟩
theorem zZ (E:World)(g:PH)(s:Own)(v:Value)(Ls:List (List Cl))(a:List Sv)(j:SlA dQ g v a)(x:ax (fun l sv=>ai g (.slice sv.p sv.n sv.c) l) Ls a)(z:∀ l∈Ls,aM l)(hl:Ls.length<1099511627776) :
  Ctr Tryz.prog E 131 #[v,.func (.func 81) #[] #[]] g s (fun r g' s'=>(∃ n:Int,r=vi n∧decide (n≥0)=Ls.any fun l=>decide ((aq l).2≠0))∧g=g'∧s=s'):=by
 have y:=x.length;obtain ⟨p,c,rfl⟩:=za4 j;refine zb2 (args:=[.slice p a.length c,.func (.func 81) #[] #[]]) func131 I ntmps131 (bE I)<|rZ<|aT I<|sQ<|sW I<|lU (eN underlying119 I)<|lM I<|tZ<|bK<|oP (ι:=Nat) (fun k=>[(0,.slice p a.length c),(1,.func (.func 81) #[] #[]),(7,vi a.length),(8,vi k)]) (fun _=>g) (fun _=>s) (fun k=>k≤Ls.length∧(Ls.take k).any (fun l=>decide ((aq l).2≠0))=false) (fun k=>Ls.length - k) 0
  sB rfl rfl ⟨zf8 _,by simp⟩ ?_
 rintro k ⟨A,e⟩;refine rZ<|yL I<|tZ<|sQ<|iP I (fun m=>?_) (fun m=>?_)
 ·have f:k<a.length:=oM;have b:k<Ls.length:=oM;have o:=za6 j oM;have t:a[((k:Nat):Int).toNat]?=some a[k]:=List.getElem?_eq_getElem f;have u:=x.get (List.getElem?_eq_getElem b)<|List.getElem?_eq_getElem f;generalize a[k]=sv at *;obtain ⟨q,n,d⟩:=sv;refine kP<|tN<|sQ<|bK<|sW I<|aT I<|sW I<|lM I<|lM I<|lU (iA underlying119 ae I I o oM sL)<|lK (SQ.elemA an ae I (za7 j) t)<|lW (SO.callV I I<|cU.mk (cap:=[]) call81<|FX E g _ _ Ls[k] u (z _<|gM b)) ?_;rintro _ _ _ ⟨rfl,rfl,rfl⟩;refine tZ<|iQ I (fun hq=>?_) (fun hq=>?_)
  ·refine sW I<|aT I<|rE<|bR<|tR<|tR<|bR<|tR ?_;have i:Ls.any (fun l=>decide ((aq l).2≠0))=true:=zk1.2 ⟨Ls[k],gM b,hq⟩;exact za8 (.inl I) results131 I ⟨⟨k,I,by rw[i];simp⟩,I,I⟩
  ·exact kP<|bN<|tN<|rG<|yD I<|lM I<|SL.nil<|ST.again (k+1) sB I I ⟨oM,by rw[tS b,List.any_append,e];simpa using hq⟩ oM
 ·refine xI<|tX<|tX<|bX<|tN<|rZ<|aT I<|rE ?_;have w:Ls.take k=Ls:=tL oM;rw[w] at e;exact za8 (.inl I) results131 I ⟨⟨-1,I,by rw[e];rfl⟩,rfl,rfl⟩
theorem tJ (E:World)(g:PH)(s:Own)(v:Value)(Ls:List (List Cl))(a:List Sv)(b:SlA dQ g v a)(d:ax (fun l sv=>ai g (.slice sv.p sv.n sv.c) l) Ls a)(e:∀ l∈Ls,aM l)(hl:Ls.length<1099511627776) :
  Ctr Tryz.prog E 80 #[v,.func (.func 81) #[] #[]] g s (fun r g' s'=>r=vb (Ls.any fun l=>decide ((aq l).2≠0))∧g=g'∧s=s'):=by
 refine zb2 (args:=[v,.func (.func 81) #[] #[]]) func80 I ntmps80 (bE I)<|rZ<|aT I<|sW I<|lM I<|lW (SO.call call131 I<|zZ E g _ v Ls a b d e hl) ?_;rintro _ _ _ ⟨⟨n,rfl,hn⟩,rfl,rfl⟩;exact lU (gQ I I)<|aT I<|rE<|za8 (.inl I) results80 I ⟨by rw[hn],I,I⟩
theorem pm (E:World)(g:PH)(s:Own)(v:Value)(Ls:List (List Cl))(a:List Sv)(d:SlA dQ g v a)(e:ax (fun l sv=>ai g (.slice sv.p sv.n sv.c) l) Ls a)(f:∀ l∈Ls,aM l)(hl:Ls.length<1099511627776)(hr:∀ l∈Ls,(aq l).2=0) :
  Ctr Tryz.prog E 25 #[v] g s (fun r g' s'=>r=vb true∧g=g'∧s=s'):=by
 have b:Ls.any (fun l=>decide ((aq l).2≠0))=false:=zk7.2 fun l hl=>by simp[hr l hl]
 refine zb2 (args:=[v]) func25 I ntmps25 (bE I)<|rZ<|aT I<|sW I<|lW (SO.call call80 I<|tJ E g _ v Ls a d e f hl) ?_;rintro _ _ _ ⟨rfl,rfl,rfl⟩;rw[b];exact lU (SU.not I)<|aT I<|rE<|za8 (.inl I) results25 I ⟨I,I,I⟩
theorem ez (E:World)(g:PH)(s:Own)(v:Value)(l:List Cl)(L:ai g v l)(M:aM l)(f:((aa l).map Cl.id).Nodup) :
  Ctr Tryz.prog E 26 #[.agg #[v]] g s (fun r g' s'=>s=s'∧Le g g'∧lQ g' r (aa l)):=by
 have y:=aB M;obtain ⟨pv,z,rfl⟩:=L.form;refine zb2 (args:=[.agg #[.slice pv l.length z]]) func26 I ntmps26 (bE I)<|rZ (bW (bO I) fun N=>?_);refine aT I<|rZ<|lW (SO.mkMap) ?_;rintro _ _ _ ⟨t,rfl,rfl,rfl⟩;refine aT I<|sQ<|rZ<|lK (qV 1 an ae I I I)<|lW (SO.call call34 I<|gU E g _ _ l L M) ?_;rintro _ g1 _ ⟨rfl,j,u,rfl,hc⟩;obtain ⟨rs,e,a⟩:=hc;obtain ⟨q,d,rfl⟩:=za4 e;refine lU (SU.field dA I eG I I)<|lU (eN aF I)<|lM I<|tZ<|bK ?_;generalize aa l=A at *;have O:=a.length;have P:=y.1;have m:rs.map Rc.id=A.map Cl.id:=by
  refine List.ext_getElem? fun i=>?_;rw[zi2,zi2];by_cases w:i<A.length
  ·have n:i<rs.length:=oM;rw[List.getElem?_eq_getElem w,List.getElem?_eq_getElem n];exact ze4 some (a.get (List.getElem?_eq_getElem w)<|List.getElem?_eq_getElem n).1
  ·rw[List.getElem?_eq_none oM,List.getElem?_eq_none oM];rfl
 rw[← m] at f;refine oP (ι:=Nat) (fun i=>[(3,.map<|some t),(9,.slice q rs.length d),(10,vi rs.length),(11,vi i)]) (fun _=>g1)
  (fun i=>mp t ((rs.take i).map ap)::pt N (bY #[.slice pv l.length z] 29)::s)
  (fun i=>i≤rs.length) (fun i=>rs.length - i) 0 sB rfl rfl (zf8 _) ?_
 rintro k W;refine rZ<|yL I<|tZ<|sQ<|iP I (fun B=>?_) (fun B=>?_)
 ·have o:k<rs.length:=oM;have C:=za6 e oM;have D:rs[((k:Nat):Int).toNat]?=some rs[k]:=List.getElem?_eq_getElem o;have F:rs.take (k+1)=rs.take k++[rs[k]]:=tS o;have p:∀ x∈rs.take k,x.id≠rs[k].id:=fun x Q=>by
   obtain ⟨i,w,rfl⟩:=zc8 Q;have G:i<k:=by rw[ze6] at w;omega
   rw[List.getElem_take];have R:=zd1.1 (List.nodup_iff_pairwise_ne.1 f) i k (by rw[ze8];omega) (by rw[ze8];omega) G;simpa only[List.getElem_map] using R
  have b:=kG rs[k] (rs.take k);rw[jQ p,← F] at b;generalize rs[k]=x at *;obtain ⟨H,S,T,U,V⟩:=x;refine kP<|tN<|sQ<|bK<|rZ<|lU (iA aF ar I I C oM (show (k:Int)<((rs.length:Nat):Int) by omega)) ?_;refine lK (SQ.elemA dH ar I (za7 e) D) (bW (aL zm2) fun X=>?_);refine oZ (sK 0 ar I I I I I sB) ?_;refine tZ<|rG<|lM I<|lU (fA ao I zT3 I)<|lK (qL (v:=vi H) iT3 I<|cO 0 I I)<|lK (qV 0 dH ar I I I)<|lO (SO.mapUpdate 1 mty65 I I I I) ?_;rintro _ _ _ ⟨rfl,rfl⟩;refine SL.nil<|bN<|tN<|rG<|yD I<|lM I<|SL.nil<|dR (s':=mp t (gj ((rs.take k).map ap) H<|rcv ⟨H,S,⟨T,U,V⟩⟩)::pt N (bY #[.slice pv l.length z] 29)::s) (.cons _<|.refl _) ?_;rw[b];exact ST.again (k+1) sB I I oM oM
 ·have J:rs.take k=rs:=tL oM;rw[J];refine xI (tX<|tX<|bX<|tN<|sW I<|aT I<|rE<|ST.freezeMap fun g2 c K=>?_);exact dR (s':=s) uR<|za8 (.inl I) results26 I ⟨I,j.trans c,t,rs,I,K,a.mono fun _ _=>ak.mono c⟩
theorem xB {A B:List Cl}{id:Int}:bo A B id=((ag A id).isSome == (ag B id).isSome&&decide (((ag A id).getD aA).dim=((ag B id).getD aA).dim)&&decide (((ag A id).getD aA).sides=((ag B id).getD aA).sides)):=by
 unfold bo;cases a:ag A id with
 | none =>
  cases hb:ag B id with
  | none=>simp
  | some d=>simp
 | some c =>
  cases hb:ag B id with
  | none=>simp
  | some d =>
   have b:=(aJ a).2;have e:=(aJ hb).2;rw[Bool.eq_iff_iff];simp[AC,b,e]
theorem bn (E:World)(g:PH)(s:Own)(v u:Value)(A B:List Cl)(id:Int)(N:lQ g v A)(O:lQ g u B)(hA:aM A) :
  Ctr Tryz.prog E 28 #[v,u,vi id] g s (fun r g' s'=>r=vb (bo A B id)∧g=g'∧s=s'):=by
 obtain ⟨m,rs,rfl,hm,d⟩:=N;obtain ⟨m2,o,rfl,p,a⟩:=O;obtain ⟨⟨P,Q,q,t,w⟩,x,e,-,f,i⟩:=dE d gW id;obtain ⟨⟨R,S,y,z,yc⟩,C,j,-,k,l⟩:=dE a gW id;have D:=xB (A:=A) (B:=B) (id:=id);have F:((ag A id).getD aA).sides.length<1099511627776:=by
  cases h:ag A id with
  | none=>simp[aA]
  | some c=>exact hA.2 c (aJ h).1
 have G:(ep (rs.map ap) id).isSome=(ag A id).isSome:=e;have H:(ep (o.map ap) id).isSome=(ag B id).isSome:=j;have J:Q=((ag A id).getD aA).dim:=f;have K:S=((ag B id).getD aA).dim:=k;have L:SlA encSide g (.slice q t w) ((ag A id).getD aA).sides:=i;have M:SlA encSide g (.slice y z yc) ((ag B id).getD aA).sides:=l;rw[D];clear e f i j k l;generalize (ag A id).isSome=a1 at *;generalize (ag B id).isSome=b1 at *;generalize (ag A id).getD aA=X at *;generalize (ag B id).getD aA=Y at *;subst J K;refine zb2 (args:=[.map<|some m,.map<|some m2,vi id]) func28 I ntmps28 (bE I)<|rZ<|aT I<|sW I<|lM I<|lK (SQ.eq (v':=.tuple #[.agg #[vi P,vi X.dim,.slice q t w],vb a1]) (SQ.lookupOk mty65 I I<|bh.known hm) (by rw[x,G];rfl)) ?_;refine lM I (yX I<|yX I<|bW (aL zm2) fun T=>?_);refine oZ (sK 0 ar I I I I I sB)<|aT I<|sW I<|lM I<|lK (SQ.eq (v':=.tuple #[.agg #[vi R,vi Y.dim,.slice y z yc],vb b1]) (SQ.lookupOk mty65 I I<|bh.known p) (by rw[C,H];rfl)) ?_;refine lM I (yX I<|yX I<|bW (aL zm2) fun U=>?_);refine oZ (sK 0 ar I I I I I sB)<|aT I ?_
 rcases Bool.eq_false_or_eq_true (a1 == b1) with b | b
 ·rcases Bool.eq_false_or_eq_true (decide (X.dim=Y.dim)) with n | n
  ·refine sW I<|lM I<|lU (SU.eq (v':=vb true) (SU.eqBB uT4 I I)<|ze4 vb b)<|lM I<|lY I I I (fA ao I zT3 I)<|SL.gq (gT I I I dC) (qL (v:=vi X.dim) iT3 I<|cO 1 I I) dC<|lY I I I (fA ao I zT3 I)<|SL.gq (gT I I I dC) (qL (v:=vi Y.dim) iT3 I<|cO 0 I I) dC<|lY I I I (SU.eq (v':=vb true) (eQ I I)<|ze4 vb n)<|yP I<|lM I<|lY I I I (fA ao I aH I)<|SL.gq (gT I I I dC) (qL (v:=.slice q t w) bi I<|cO 1 I I) dC<|lY I I I (fA ao I aH I)<|SL.gq (gT I I I dC) (qL (v:=.slice y z yc) bi I<|cO 0 I I) dC<|ze3 (gT I I I dC) (SO.call call85 I<|rD E g _ _ _ X.sides Y.sides L M F) dC ?_;rintro _ _ _ ⟨rfl,rfl,rfl⟩;exact yP I<|aT I<|rE<|dR (s':=s) uR<|za8 (.inl I) results28 I ⟨by rw[b,n];rfl,rfl,rfl⟩
  ·exact sW I<|lM I<|lU (SU.eq (v':=vb true) (SU.eqBB uT4 I I)<|ze4 vb b)<|lM I<|lY I I I (fA ao I zT3 I)<|SL.gq (gT I I I dC) (qL (v:=vi X.dim) iT3 I<|cO 1 I I) dC<|lY I I I (fA ao I zT3 I)<|SL.gq (gT I I I dC) (qL (v:=vi Y.dim) iT3 I<|cO 0 I I) dC<|lY I I I (SU.eq (v':=vb false) (eQ I I)<|ze4 vb n)<|yP I<|lM I<|yA I<|yA I<|yA I<|yA I<|yA I<|yF I<|aT I<|rE<|dR (s':=s) uR<|za8 (.inl I) results28 I ⟨by rw[b,n];rfl,rfl,rfl⟩
 ·exact sW I<|lM I<|lU (SU.eq (v':=vb false) (SU.eqBB uT4 I I)<|ze4 vb b)<|lM I<|yA I<|yA I<|yA I<|yA I<|yA I<|yF I<|lM I<|yA I<|yA I<|yA I<|yA I<|yA I<|yF I<|aT I<|rE<|dR (s':=s) uR<|za8 (.inl I) results28 I ⟨by rw[b];rfl,rfl,rfl⟩
theorem XC.freezeMap {P:Program}{M:Md}{N:Nat}{E:World}{Q:Exit→Act→World→Prop}{f:Fr}{g:PH}{s:Own}{c:Code}{b:Nat}{l:List (Int×Value)}(h:∀ g',Le g g'→Mp g' b l→XC P M N E c Q f g' s):XC P M N E c Q f g (mp b l::s):=fun a w d e=>by
 obtain ⟨g',i,j,k⟩:=e.freezeMap;exact h g' i k a w d j
def CT:Enc Nat 1:=⟨fun m=>[.map<|some m],fun _=>rfl,fun _ u hu=>by simp at hu;subst hu;rfl,by decide⟩
def CR (K:List Int)(x:Int):List Int:=if K.contains x then K else K++[x]
theorem DJ {K:List Int}{x y:Int}:y∈CR K x↔y∈K∨y=x:=by
 unfold CR;split
 ·rename_i h;rw[List.contains_iff_mem] at h;exact⟨.inl,fun a=>a.elim id fun e=>e ▸ h⟩
 ·simp
theorem zX {K:List Int}(h:K.Nodup)(x:Int):(CR K x).Nodup:=by
 unfold CR;split
 ·exact h
 ·rename_i c;exact List.nodup_append.2 ⟨h,by simp,fun a d b hb e=>by simp at hb;subst hb;subst e;exact c (by simpa using d)⟩
theorem Dk {K:List Int}(x:Int):gj (iw K) x (vb true)=iw (CR K x):=by
 unfold CR;by_cases h:K.contains x=true
 ·rw[zg3 h];induction K with
  | nil=>simp at h
  | cons a K ih =>
   show (if x=a then (x,vb true)::iw K else (a,vb true)::gj (iw K) x (vb true))=_;by_cases e:x=a
   ·rw[zg3 e,e];rfl
   ·rw[zg2 e,ih (by simpa [e] using h)];rfl
 ·rw[zg2 h];exact sz (by simpa using h)
theorem ox (K:List Int):(iw K).map Prod.fst=K:=by
 unfold iw;rw[zi7];exact List.map_id K
theorem qY:∀ {l m:List Int},l.Nodup→(∀ x∈l,x∈m)→l.length≤m.length
 | [],_,_,_=>zf8 _
 | x::l,m,hn,h=>by
  rw[zk4] at hn;have b:=qY (l:=l) (m:=m.erase x) hn.2 fun y a=>(List.mem_erase_of_ne<|fun e=>hn.1 (by rw[← e];exact a)).2 (h y<|by simp[a]);rw[List.length_erase_of_mem (h x<|by simp)] at b;have:0<m.length:=List.length_pos_of_mem (h x<|by simp);rw[zf1];omega
theorem Bs {a b:List Int}(f:a.Pairwise (· < ·))(hb:b.Pairwise (· < ·))(h:∀ x,x∈a↔x∈b):a=b:=by
 have c:a.Nodup:=f.imp fun h e=>by omega
 have d:b.Nodup:=hb.imp fun h e=>by omega
 exact ((List.perm_ext_iff_of_nodup c d).2 h).eq_of_pairwise (fun a b _ _ g i=>by omega) f hb
theorem zz {Ls:List (List Cl)}{K:List Int}(hn:K.Nodup)(h:∀ x,x∈K↔∃ A∈Ls,∃ c∈A,c.id=x):eW K=gH Ls:=by
 have hp:=qQ K;refine Bs (((j6 K).and<|hp.symm.nodup hn).imp fun h=>by have:=h.1;have:=h.2;omega) (lF Ls) fun x=>?_;rw[hp.mem_iff,h,yU]
theorem xX {g:PH}{A:List Cl}{rs:List Rc}(h:ax (ak g) A rs):(rs.map ap).map Prod.fst=A.map Cl.id:=by
 rw[zi7];refine List.ext_getElem? fun i=>?_;rw[zi2,zi2];have hl:=h.length;by_cases b:i<A.length
 ·have a:i<rs.length:=oM;rw[List.getElem?_eq_getElem b,List.getElem?_eq_getElem a];exact ze4 some (h.get (List.getElem?_eq_getElem b)<|List.getElem?_eq_getElem a).1
 ·rw[List.getElem?_eq_none oM,List.getElem?_eq_none oM];rfl
theorem oW (E:World)(g:PH)(s:Own)(p:Option Addr)(n c:Nat) :
  Ctr Tryz.prog E 27 #[.slice p n c] g s (fun r g' s'=>s=s'∧Le g g'∧∃ b,r = .func (.func 82) #[] #[pp b 0]∧g' b=some (bY #[.slice p n c] 121)):=by
 refine zb2 (args:=[.slice p n c]) func27 I ntmps27 (bE I)<|rZ (bW (bO I) fun d=>?_);refine aT I (rZ<|lU (SU.mkFunc I)<|aT I<|rE<|ST.freeze fun g1 a hb=>?_);exact za8 (.inl I) results27 I ⟨I,a,_,I,hb⟩
theorem m6 (E:World)(hE:E.drawn=0)(g0:PH)(b:Nat)(p:Option Addr)(c:Nat)(ms:List Nat)(Ls:List (List Cl))(hb:g0 b=some (bY #[.slice p ms.length c] 121))(hv:SlA CT g0 (.slice p ms.length c) ms)(ha:ax (fun L m=>lQ g0 (.map<|some m) L) Ls ms)
  (hi:∀ L∈Ls,∀ x∈L,a8 x.id) (hl:Ls.flatten.length<1000000) (d6:ms.length<1000) :
  EA Tryz.prog E 82 [pp b 0] (fun k:Int=>[vi k]) (gH Ls) g0:=by
 intro y ι G S J i0 h0 F a5 hY sx;have d7:=ha.length;have H:=F _ _ h0;have a9:=H _ _ hb;have V:=za5 hv H;refine Ctr.ofX (args:=[.func (.yield y) #[] #[],pp b 0]) func82 I ntmps82 (bE I)<|XC.seq<|XC.region<|XL.o (SO.mkMap) dC ?_;rintro _ _ _ ⟨T,rfl,rfl,rfl⟩;refine XL.u (aS I) dC<|XL.nil<|XT.thenN<|XC.seq<|XC.seq<|XC.region<|XL.q (qL (v:=.slice p ms.length c) isAgg121 I<|cK a9 I) dC<|XL.u (eN underlying121 I) dC<|XL.u (mV I) dC<|XL.nil<|XT.thenN<|XC.block<|XC.loop (ι:=Nat×List Int) (fun z=>[(0,.func (.yield y) #[] #[]),(3,.map<|some T),(10,.slice p ms.length c),(11,vi ms.length),(12,vi z.1)]) (fun _=>G i0) (fun z=>mp T (iw z.2)::(S i0++sx)) (fun z=>z.1≤Ls.length∧z.2.Nodup∧∀ x,x∈z.2↔∃ A∈Ls.take z.1,∃ c∈A,c.id=x) (fun z=>Ls.length - z.1) (0,[])
  sB rfl rfl ⟨zf8 _,by simp,by simp⟩ ?_
 rintro ⟨k,K⟩ ⟨hk,t,a⟩;dsimp only at hk t a ⊢;refine XC.seq<|XC.region<|XL.u (lS I I) dC<|XL.nil<|XT.thenN<|XC.seq<|XC.ifP I (fun b0=>?_) (fun b0=>?_)
 ·have W:k<ms.length:=oM;have X:k<Ls.length:=oM;have b1:=za6 V oM;have b2:ms[((k:Nat):Int).toNat]?=some ms[k]:=List.getElem?_eq_getElem W;have hT:=(ha.get (List.getElem?_eq_getElem X)<|List.getElem?_eq_getElem W).mono H;have b3:Ls.take (k+1)=Ls.take k++[Ls[k]]:=tS X;generalize Ls[k]=A at *;generalize ms[k]=m at *;obtain ⟨m',rs,b4,hm,g⟩:=hT;obtain rfl:m=m':=by injection b4 with h;injection h
  obtain ⟨es,clk,M,w⟩:=hm;refine XC.skip<|XT.thenN<|XC.seq<|XC.block<|XC.seq<|XC.region<|XL.u (iA underlying121 vP I I b1 oM sL) dC<|XL.q (eB em I (za7 V) b2 I) dC<|XL.u (aS I) dC<|XL.nil<|XT.thenN<|XC.seq<|XC.region<|XL.u (mV I) dC<|XL.o (SO.range underlying65 I M) dC ?_;rintro _ _ _ ⟨it,rfl,rfl,rfl⟩;refine XL.nil<|XT.thenN<|XC.block<|XC.loop (ι:=List MapEntry×List (Int×Value)×List Int) (fun z=>[(0,.func (.yield y) #[] #[]),(3,.map<|some T),(10,.slice p ms.length c),(11,vi ms.length),(12,vi k),(17,pp it 0)]) (fun _=>G i0) (fun z=>iter it m es clk z.1::mp T (iw z.2.2)::(S i0++sx)) (fun z=>lT (rs.map ap) es z.1 z.2.1∧z.2.2.Nodup∧∀ x,x∈z.2.2↔(∃ A∈Ls.take k,∃ c∈A,c.id=x)∨x∈z.2.1.map Prod.fst) (fun z=>rs.length - z.2.1.length) ([],[],K)
   sB rfl rfl ⟨lT.nil _ _,t,fun x=>by simpa using a x⟩ ?_
  rintro ⟨vis,vl,K2⟩ ⟨N,r,d⟩;dsimp only at N r d ⊢;have Y:=N.len w;simp only[ze8] at Y;refine XC.seq<|XC.region<|XL.o (SO.nextP 0 I I M w N) dC ?_;rintro _ _ _ ⟨rfl,O⟩
  rcases O with ⟨rfl,rfl,P⟩ | ⟨e,pr,he,b5,b6,b7,C,rfl,rfl⟩
  ·have Q:∀ x,x∈K2↔∃ A∈Ls.take (k+1),∃ c∈A,c.id=x:=fun x=>by
    rw[d,b3,(P.map Prod.fst).mem_iff,xX g];constructor
    ·rintro (⟨A',n,h2⟩ | h)
     ·exact⟨A',by simp[n],h2⟩
     ·obtain ⟨c,hc,e⟩:=zf4.1 h;exact⟨A,by simp,c,hc,e⟩
    ·rintro ⟨A',n,h2⟩
     rcases zf5.1 n with n | n
     ·exact .inl ⟨A',n,h2⟩
     ·simp at n;subst n;obtain ⟨c,hc,e⟩:=h2;exact .inr<|zf4.2 ⟨c,hc,e⟩
   exact XL.u (xT I I) dC<|XL.nil<|XT.thenN<|XC.seq<|XC.condF I<|XC.exit<|XT.thenX<|XT.thenX<|XT.blockX<|XT.blockN<|XT.thenN<|XC.region<|XL.u (aD I I oM) dC<|XL.u (mV I) dC<|XL.nil<|XT.drop (.cons _<|.refl _)<|XT.again (k+1,K2) sB I I ⟨by dsimp only;omega,r,Q⟩ (by dsimp only;omega)
  ·obtain ⟨x,hx,rfl⟩:=zf4.1 b5;obtain ⟨U,xd,xv⟩:=x;have b8:=C.len w;simp only[ze8,ze7,ze9] at b8;have Z:=Dk (K:=K2) U;refine XL.u (xT I I) dC<|XL.nil<|XT.thenN<|XC.seq<|XC.condT I<|XC.skip<|XT.thenN<|XC.block<|XC.seq<|XC.region<|XL.q (SQ.entryP 0 I I M w he b6 b7) dC<|XL.u (xT I I) dC<|XL.u (aS I) dC<|XL.nil<|XT.thenN<|XC.region<|XL.u (mV I) dC<|XL.u (mV I) dC<|XL.on (SO.mapUpdate 1 mty96 I I I I) ?_;rintro _ _ _ ⟨rfl,rfl⟩;rw[show gj (iw K2) (ap ⟨U,xd,xv⟩).1 (vb true)=iw (CR K2 U) from Z];refine XL.nil<|XT.blockN ?_;exact XT.again (vis++[e],vl++[ap ⟨U,xd,xv⟩],CR K2 U) sB I I ⟨C,zX r U,fun z=>by
    dsimp only;rw[DJ,d,zg7,zf5];simp only[zg6,List.map_nil,zh9,ap];exact or_assoc⟩ (by dsimp only;simp only[ze7,ze9];omega)
 ·have c0:Ls.take k=Ls:=tL oM;rw[c0] at a;have a0:K.length<1099511627776:=by
   have n:=qY (m:=Ls.flatten.map Cl.id) (l:=K) t fun x hx=>by
    obtain ⟨A,hA,c,hc,e⟩:=(a x).1 hx;exact zf4.2 ⟨c,List.mem_flatten.2 ⟨A,hA,hc⟩,e⟩
   rw[ze8] at n;omega
  have g:=zz t a;refine XC.exit<|XT.thenX<|XT.thenX<|XT.blockX<|XT.thenN<|XC.seq<|XC.freezeMap fun g1 a1 c1=>?_;refine XC.region<|XL.u (mV I) dC<|XL.o (SO.call call84 I<|Ci E g1 _ T) dC ?_;rintro _ g2 _ ⟨rfl,D,bk,rfl,c2⟩;refine XL.o (SO.call call83 I<|wB E hE g2 _ bk T (iw K) c2 (c1.mono D) (by rw[← ze8 (f:=Prod.fst),ox];exact a0) (fun q hq=>by have n:q.1∈(iw K).map Prod.fst:=zf4.2 ⟨q,hq,I⟩;rw[ox] at n;obtain ⟨A,hA,c,hc,e⟩:=(a q.1).1 n;rw[← e];exact hi A hA c hc)) dC ?_;rintro _ g3 _ ⟨rfl,a2,B⟩;rw[ox,g] at B;obtain ⟨q3,c3,rfl⟩:=za4 B;refine XL.u (eN az I) dC ?_;refine XL.u (mV I) dC ?_;refine XL.nil ?_;refine XT.thenN ?_;refine XC.block ?_;have R:=a1.trans<|D.trans a2;obtain ⟨i1,c5,a3,c6⟩:=a5 _ _ _ h0 R;refine XC.loop (ι:=ι×Nat) (fun z=>[(0,.func (.yield y) #[] #[]),(27,.slice q3 (gH Ls).length c3),(28,vi (gH Ls).length),(29,vi z.2)]) (fun z=>G z.1) (fun z=>S z.1++sx) (fun z=>z.2≤(gH Ls).length∧Le g3 (G z.1)∧J ((gH Ls).take z.2) z.1) (fun z=>(gH Ls).length - z.2) (i1,0)
   sB a3 (by dsimp only;rw[c6]) ⟨zf8 _,by dsimp only;rw[a3];exact zb9 _,c5⟩ ?_
  rintro ⟨i,j⟩ ⟨hj,s,hJ⟩;dsimp only at hj s hJ ⊢;have d8:(gH Ls).length<1099511627776:=by rw[← g,ge];exact a0
  refine XC.seq<|XC.region<|XL.u (lS I I) dC<|XL.nil<|XT.thenN<|XC.seq<|XC.ifP I (fun c7=>?_) (fun c7=>?_)
  ·have a4:j<(gH Ls).length:=oM;have c9:=za6 B oM;have d0:(gH Ls)[((j:Nat):Int).toNat]?=some (gH Ls)[j]:=List.getElem?_eq_getElem a4;have d1:(gH Ls).take (j+1)=(gH Ls).take j++[(gH Ls)[j]]:=tS a4;have d2:gH Ls=(gH Ls).take j++(gH Ls)[j]::(gH Ls).drop (j+1):=by rw[List.getElem_cons_drop,zj4]
   have hy:=hY _ _ _ i sx d2 hJ;refine XC.skip<|XT.thenN<|XC.seq<|XC.block<|XC.seq<|XC.region<|XL.u (iA az zT3 I I c9 oM sL) dC<|XL.q (eB iT3 I (za7<|za5 B s) d0 I) dC<|XL.u (aS I) dC<|XL.nil<|XT.thenN<|XC.seq<|XC.region<|XL.u (mV I) dC<|XL.u (mV I) dC<|XL.x (XO.yield I I hy) dC ?_;rintro _ _ _ ⟨rfl,j',d3,d4,rfl,rfl⟩;exact XL.u (SU.not I) dC<|XL.nil<|XT.thenN<|XC.condF I<|XC.skip<|XT.blockN<|XT.thenN<|XC.region<|XL.u (aD I I oM) dC<|XL.u (mV I) dC<|XL.nil<|XT.again (j',j+1) sB I I ⟨by dsimp only;omega,s.trans d4,by dsimp only;rw[d1];exact d3⟩ (by dsimp only;omega)
  ·have d5:(gH Ls).take j=gH Ls:=tL oM;rw[d5] at hJ;exact XC.exit<|XT.thenX<|XT.thenX<|XT.blockX<|XT.leave0 (.inr I)<|ST.ret0 (.inr I) results82 ⟨i,hJ,I,I⟩
end Go.Proofs.YtdepcjnaieflmaaGreatDoor
