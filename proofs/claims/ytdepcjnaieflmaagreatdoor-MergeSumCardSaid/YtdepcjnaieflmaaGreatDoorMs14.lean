/- 14 -/
import Derived.Test.YtdepcjnaieflmaaGreatDoorMs13
set_option linter.unusedSimpArgs false
set_option linter.unusedVariables false
namespace Go.Proofs.YtdepcjnaieflmaaGreatDoor
open _root_.Go.Proofs.Tryz _root_.Go.Proofs.YtdepcjnaieflmaaGreatDoor.Tryz
open Go Go.Sy Go.Pl Go.Proofs
set_option maxRecDepth 100000
set_option maxHeartbeats 8000000
theorem uU {l:List Cl}(a:aK l)(id:Int):((findC l id).getD aA).sides.length<1099511627776:=by
 unfold findC;cases h:(an l).find? (fun c=>decide (c.id=id)) with
 | none=>simp[aA]
 | some c=>exact (bU a).2 c<|zk9 h
theorem Tryz.bA58 (a:Int)(b:Int)  (w:World):(Instr.build 58 #[(0,vi a),(1,vi b)]).run Tryz.prog w = .ok (.agg #[vi a,vi b,vi 0,vi 0,vi 0,.slice none 0 0,.slice none 0 0]) w:=by
 have c:(vi a).cells = #[vi a]:=rfl;have d:(vi b).cells = #[vi b]:=rfl;simp[Instr.build,Instr.fill,c,d];rfl
theorem Tryz.bB58 (a:Int)(b:Int)(d:Int)(q:Option Addr)(c e:Nat)(w:World):(Instr.build 58 #[(0,vi a),(1,vi b),(2,vi d),(5,.slice q c e)]).run Tryz.prog w = .ok (.agg #[vi a,vi b,vi d,vi 0,vi 0,.slice q c e,.slice none 0 0]) w:=by
 have f:(vi a).cells = #[vi a]:=rfl;have g:(vi b).cells = #[vi b]:=rfl;have i:(vi d).cells = #[vi d]:=rfl;have j:(Value.slice q c e).cells = #[.slice q c e]:=rfl;simp[Instr.build,Instr.fill,f,g,i,j];rfl
theorem Tryz.bC58 (a:Int)(b:Int)(d:Int)(e:Int)  (w:World):(Instr.build 58 #[(0,vi a),(1,vi b),(3,vi d),(4,vi e)]).run Tryz.prog w = .ok (.agg #[vi a,vi b,vi 0,vi d,vi e,.slice none 0 0,.slice none 0 0]) w:=by
 have c:(vi a).cells = #[vi a]:=rfl;have f:(vi b).cells = #[vi b]:=rfl;have g:(vi d).cells = #[vi d]:=rfl;have i:(vi e).cells = #[vi e]:=rfl;simp[Instr.build,Instr.fill,c,f,g,i];rfl
theorem Tryz.bD58 (a:Int)(q:Option Addr)(b c:Nat)(w:World):(Instr.build 58 #[(0,vi a),(6,.slice q b c)]).run Tryz.prog w = .ok (.agg #[vi a,vi 0,vi 0,vi 0,vi 0,.slice none 0 0,.slice q b c]) w:=by
 have d:(vi a).cells = #[vi a]:=rfl;have e:(Value.slice q b c).cells = #[.slice q b c]:=rfl;simp[Instr.build,Instr.fill,d,e];rfl
theorem Tryz.bE58 (a:Int)(b:Int)(d:Int)  (w:World):(Instr.build 58 #[(0,vi a),(1,vi b),(4,vi d)]).run Tryz.prog w = .ok (.agg #[vi a,vi b,vi 0,vi 0,vi d,.slice none 0 0,.slice none 0 0]) w:=by
 have c:(vi a).cells = #[vi a]:=rfl;have e:(vi b).cells = #[vi b]:=rfl;have f:(vi d).cells = #[vi d]:=rfl;simp[Instr.build,Instr.fill,c,e,f];rfl
theorem Tryz.bF58 (a:Int)(b:Int)(d:Int)(e:Int)(h:Int)(q:Option Addr)(c f:Nat)(r:Option Addr)(g rc:Nat)(w:World):(Instr.build 58 #[(0,vi a),(1,vi b),(2,vi d),(3,vi e),(4,vi h),(5,.slice q c f),(6,.slice r g rc)]).run Tryz.prog w = .ok (.agg #[vi a,vi b,vi d,vi e,vi h,.slice q c f,.slice r g rc]) w:=by
 have i:(vi a).cells = #[vi a]:=rfl;have j:(vi b).cells = #[vi b]:=rfl;have k:(vi d).cells = #[vi d]:=rfl;have l:(vi e).cells = #[vi e]:=rfl;have m:(vi h).cells = #[vi h]:=rfl;have n:(Value.slice q c f).cells = #[.slice q c f]:=rfl;have o:(Value.slice r g rc).cells = #[.slice r g rc]:=rfl;simp[Instr.build,Instr.fill,i,j,k,l,m,n,o];rfl
theorem mB (E:World)(g:PH)(s:Own)(v:Value)(l:List Cl)(k0 f t F:Int)(hv:ai g v l)(hf:aK l) :
  Ctr Tryz.prog E 79 #[.agg #[vi k0,vi f,vi t,vi F],.agg #[v]] g s (fun r g' s'=>s=s'∧Le g g'∧∃ e,EdR g' r e∧e.sides.length<1099511627776∧e.pairs.length≤3∧((bV k0 10=0∨bV k0 10=1∨bV k0 10=2)→e.kind=1)∧((∀ c∈l,a8 c.id)→a8 f→a8 t→a8 F→(e.kind=1→a8 e.cell)∧(e.kind=3→a8 e.new∧a8 e.other))):=by
 have q0:=hv;obtain ⟨rs,b0,b1⟩:=hv;have d4:=b1.length;have q1:=hf.1;obtain ⟨p,c,rfl⟩:=za4 b0;have d5:∀ d,(Dk l d).length<1099511627776:=fun d=>by
  have y:(Dk l d).length≤(an l).length:=by unfold Dk;rw[ze9];exact zc6 _ _
  have h2:=(bU hf).1;omega
 have l3:(wL l).length<1099511627776:=by
  have y:(wL l).length≤(an l).length:=by unfold wL;rw[ze9];exact zc6 _ _
  have h2:=(bU hf).1;omega
 have c2:=d5 0;have c7:=d5 1;rw[← d4] at b0 ⊢;have l4:ai g (.slice p l.length c) l:=⟨rs,b0,b1⟩;refine zb2 (args:=[.agg #[vi k0,vi f,vi t,vi F],.agg #[.slice p l.length c]]) func79 I ntmps79 (bE I)<|rZ (bW (bO I) fun J=>?_);refine bW (bO I) fun N=>bW (aL zl4) fun C=>tZ<|rZ<|aT I<|sQ<|rZ<|aT I<|bK<|zb6 3 1<|oP (ι:=Nat×Value×List Int) (fun i=>[(2,pp J 0),(3,pp N 0),(4,pp C 0),(5,i.2.1),(6,vi i.1)]) (fun _=>g) (fun i=>rowA encInt 3 i.2.1 i.2.2::pt C (bY #[vi 0,vi 0,vi 0,vi 0,vi 0,.slice none 0 0,.slice none 0 0] 58)::pt N (bY #[.slice p l.length c] 29)::pt J (bY #[vi k0,vi f,vi t,vi F] 117)::s)
  (fun i=>i.1≤l.length∧i.2.2.length=i.1∧∀ z∈i.2.2,∃ c∈l,c.id=z) (fun i=>l.length - i.1) (0,.slice none 0 0,[]) sB rfl rfl ⟨zf9 _,rfl,by simp⟩ ?_
 rintro ⟨k,ov,acc⟩ ⟨hk,d9,b5⟩;dsimp only at hk d9 b5 ⊢;refine sQ<|sW I<|lU (fA dj I cj I)<|lK (qL (v:=.slice p l.length c) ef I<|cO 2 I I)<|lU (eN aC I)<|yL I<|tZ<|iP I (fun e0=>?_) (fun e0=>?_)
 ·have e4:k<rs.length:=oM;have e9:=za6 b0 oM;have m2:rs[((k:Nat):Int).toNat]?=some rs[k]:=List.getElem?_eq_getElem e4;have m3:∃ c∈l,c.id=rs[k].id:=⟨l[k]'oM,gM _,((b1.get (List.getElem?_eq_getElem oM) (List.getElem?_eq_getElem e4)).1).symm⟩;generalize rs[k]=x at *;refine kP (tN (sQ (bK (rG (lM I (lU (fA dj I cj I) (lK (qL (v:=.slice p l.length c) ef I (cO 2 I I)) (lM I (lU (iA aC ar I I e9 oM sL) (lU (fC ao I zT3 I e9) (lK (aZ (e:=encCell) (o:=0) (u:=vi x.id) iT3 I (za7 b0) m2 I) (lW (bS sty32 I I I (ae ⟨I,trivial⟩) dC) ?_))))))))))));rintro _ _ _ ⟨q2,rfl,rfl,rfl⟩;refine lW (aP (e:=encInt) (l:=acc) 0 x.id sty32 I I I I I oM oM) ?_;rintro ov' _ _ ⟨rfl,rfl⟩;refine lA I (SL.nil (bN (tN (rG (lM I (yD I (lA I (SL.nil ?_))))))));exact ST.again (k+1,ov',acc++[x.id]) sB I I ⟨by dsimp only;omega,by dsimp only;rw[ze8,zf1];omega,fun z hz=>by
   dsimp only at hz
   rcases zf6.1 hz with h | h
   ·exact b5 z h
   ·simp at h;rw[h];exact m3⟩ (by dsimp only;omega)
 clear e0;have b6:acc.length<1099511627776:=oM;clear hk d9;refine xI (tX<|tX<|bX<|tN<|sQ<|zd6 fun g1 c4 hI=>?_);obtain ⟨qI,dI,rfl⟩:=zc3 hI;have hI:dw g1 (.slice qI acc.length dI) acc:=hI;have f7:=l4.mono c4;refine rG<|lK (qV 1 aj ag I I I)<|lW (SO.call call125 I<|pJ E g1 _ _ l 0 f7 hf) ?_;rintro _ g2 _ ⟨rfl,b7,hV⟩;obtain ⟨pV,cV,rfl⟩:=za4 hV;have f8:=f7.mono b7;have hI:=za5 hI b7;refine aT I<|rZ<|lK (qV 1 aj ag I I I)<|lW (SO.call call125 I<|pJ E g2 _ _ l 1 f8 hf) ?_;rintro _ g3 _ ⟨rfl,a4,hW⟩;obtain ⟨pW,cW,rfl⟩:=za4 hW;have U:=f8.mono a4;have hI:=za5 hI a4;have hV:=za5 hV a4;generalize Dk l 0=V at *;generalize Dk l 1=W at *;refine aT I<|rZ<|lK (qV 1 aj ag I I I)<|lW (SO.call call126 I<|vR E g3 _ _ l U hf) ?_;rintro _ _ _ ⟨rfl,rfl,n0,rfl,m4⟩;have c9:=c4.trans<|b7.trans a4;refine aT I<|SC.cut (ι:=Int) (fun n=>[(2,pp J 0),(3,pp N 0),(4,pp C 0),(5,.slice qI acc.length dI),(7,.slice pV V.length cV),(8,.slice pW W.length cW),(9,vi n)]) (fun _=>g3) (fun _=>pt C (bY #[vi 0,vi 0,vi 0,vi 0,vi 0,.slice none 0 0,.slice none 0 0] 58)::pt N (bY #[.slice p l.length c] 29)::pt J (bY #[vi k0,vi f,vi t,vi F] 117)::s) (fun n=>(∀ c∈l,a8 c.id)→a8 n) ?_ ?_
 ·refine rZ<|lU (fA dZ I zT3 I)<|lK (qL (v:=vi F) iT3 I<|cO 2 I I)<|lU (ze1 I I dC)<|yE I<|tZ<|iP I (fun hz=>?_) (fun hz=>?_)
  ·refine rG<|lM I<|lU (fA dZ I zT3 I)<|lK (qL (v:=vi F) iT3 I<|cO 2 I I)<|lU (SU.quo I I dC)<|lW (SO.call call127 I<|pP E g3 _ _ acc _ hI b6) ?_;rintro _ _ _ ⟨rfl,rfl,n1,rfl,n2⟩;exact lA I<|SL.nil<|za9 n1 sB I I fun h=>by
    rcases n2 with e | e
    ·try dsimp only
     rw[e];unfold a8;omega
    ·obtain ⟨c,hc,e2⟩:=b5 _ e;try dsimp only
     rw[← e2];exact h c hc
  ·exact kP<|za9 n0 sB I I fun _=>m4
 rintro n K;try dsimp only
 refine SC.cut (ι:=Nat×PH×Cl×Rc) (fun i=>[(2,pp J 0),(3,pp N 0),(4,pp C 0),(5,.slice qI acc.length dI),(7,.slice pV V.length cV),(8,.slice pW W.length cW),(9,vi n),(10,pp i.1 0)]) (fun i=>i.2.1) (fun i=>pt i.1 (bY #[vi i.2.2.2.id,vi i.2.2.2.dim,.slice i.2.2.2.sv.p i.2.2.2.sv.n i.2.2.2.sv.c] 37)::pt C (bY #[vi 0,vi 0,vi 0,vi 0,vi 0,.slice none 0 0,.slice none 0 0] 58)::pt N (bY #[.slice p l.length c] 29)::pt J (bY #[vi k0,vi f,vi t,vi F] 117)::s) (fun i=>Le g3 i.2.1∧ak i.2.1 i.2.2.1 i.2.2.2∧i.2.2.1.sides.length<1099511627776) ?_ ?_
 ·refine SC.drawX [10] ze6 kR ?_;refine SX.q (i:=0) I kR (qV 1 aj ag I I I) dC<|SX.u (i:=1) I kR (mV I) dC<|SX.u (i:=2) I kR (fA dZ I zT3 I) dC<|SX.q (i:=3) I kR (qL (v:=vi f) iT3 I<|cO 2 I I) dC ?_
  repeat' (first
   | (refine SB.o (i:=4) rfl (SO.call call127 rfl<|dY E g3 _ _ acc f hI b6) dC (.inr (by rintro _ _ _ ⟨rfl,rfl,m1,rfl⟩;exact⟨by exact zb9 _,(by exact .cons _<|.refl _)⟩)) ?_;rintro _ _ _ ⟨rfl,rfl,m1,rfl⟩)
   | (refine SB.o (i:=4) rfl (SO.call call127 rfl<|dY E g3 _ _ acc f hI b6) dC (.inr (by rintro _ _ _ ⟨rfl,rfl,m1,rfl⟩;exact⟨by exact zb9 _,(by exact .refl _)⟩)) ?_;rintro _ _ _ ⟨rfl,rfl,m1,rfl⟩)
   | (refine SB.o (i:=5) rfl (SO.call call55 rfl<|bc E g3 _ _ l m1 U hf) dC (.inr (by rintro _ gF _ ⟨rfl,D,rF,rfl,P⟩;exact⟨by assumption,(by exact .cons _<|.refl _)⟩)) ?_;rintro _ gF _ ⟨rfl,D,rF,rfl,P⟩;refine SX.u (i:=6) I kD (mV I) dC ?_;refine SX.u (i:=7) I kD (xT I I) dC ?_;refine SX.u (i:=8) I kD (xT I I) dC ?_)
   | (refine SB.o (i:=5) rfl (SO.call call55 rfl<|bc E g3 _ _ l m1 U hf) dC (.inr (by rintro _ gF _ ⟨rfl,D,rF,rfl,P⟩;exact⟨by assumption,(by exact .refl _)⟩)) ?_;rintro _ gF _ ⟨rfl,D,rF,rfl,P⟩;refine SX.u (i:=6) I kD (mV I) dC ?_;refine SX.u (i:=7) I kD (xT I I) dC ?_;refine SX.u (i:=8) I kD (xT I I) dC ?_)
   | (refine SB.o (i:=9) rfl (aL zl8) dC (.inr (by rintro _ _ _ ⟨bF,rfl,rfl,rfl⟩;exact⟨by exact zb9 _,(by exact .cons _<|.refl _)⟩)) ?_;rintro _ _ _ ⟨bF,rfl,rfl,rfl⟩)
   | (refine SB.o (i:=9) rfl (aL zl8) dC (.inr (by rintro _ _ _ ⟨bF,rfl,rfl,rfl⟩;exact⟨by assumption,(by exact .cons _<|.refl _)⟩)) ?_;rintro _ _ _ ⟨bF,rfl,rfl,rfl⟩)
   | (refine SB.on (i:=10) I (sK 0 ar I I I I I sB) (.inl dC) ?_;rintro _ _ _ ⟨rfl,rfl⟩;refine SX.u (i:=11) I kD (aS I) dC ?_)
   | refine zd9 4 9 kD ?_ ?_
   | refine zd9 5 9 kD ?_ ?_
   | refine zd8 9 kD ?_
   | refine zd8 10 kD ?_
   | refine zd8 5 kD ?_
   | refine zd8 4 kD ?_
   | (refine SX.nil kD ?_;exact za9 (bF,gF,(findC l m1).getD aA,rF) sB I I ⟨D,P,uU hf m1⟩))
 rintro ⟨B,g4,X,⟨M,Q,xp,xn,xc⟩⟩ ⟨a5,⟨-,-,d0⟩,n3⟩;dsimp only at a5 d0 n3 ⊢;have n4:xn=X.sides.length:=zc2 d0;subst n4;have U:=U.mono a5;have hI:=za5 hI a5;refine SC.cut (ι:=Nat×PH×Cl×Rc) (fun i=>[(2,pp J 0),(3,pp N 0),(4,pp C 0),(5,.slice qI acc.length dI),(7,.slice pV V.length cV),(8,.slice pW W.length cW),(9,vi n),(10,pp B 0),(12,pp i.1 0)]) (fun i=>i.2.1) (fun i=>pt i.1 (bY #[vi i.2.2.2.id,vi i.2.2.2.dim,.slice i.2.2.2.sv.p i.2.2.2.sv.n i.2.2.2.sv.c] 37)::pt B (bY #[vi M,vi Q,.slice xp X.sides.length xc] 37)::pt C (bY #[vi 0,vi 0,vi 0,vi 0,vi 0,.slice none 0 0,.slice none 0 0] 58)::pt N (bY #[.slice p l.length c] 29)::pt J (bY #[vi k0,vi f,vi t,vi F] 117)::s) (fun i=>Le g4 i.2.1∧ak i.2.1 i.2.2.1 i.2.2.2∧i.2.2.1.sides.length<1099511627776) ?_ ?_
 ·refine SC.drawX [10] ze6 kR ?_;refine SX.q (i:=0) I kR (qV 2 aj ag I I I) dC<|SX.u (i:=1) I kR (mV I) dC<|SX.u (i:=2) I kR (fA dZ I zT3 I) dC<|SX.q (i:=3) I kR (qL (v:=vi t) iT3 I<|cO 3 I I) dC ?_
  repeat' (first
   | (refine SB.o (i:=4) rfl (SO.call call127 rfl<|dY E g4 _ _ acc t hI b6) dC (.inr (by rintro _ _ _ ⟨rfl,rfl,m1,rfl⟩;exact⟨by exact zb9 _,(by exact .cons _<|.refl _)⟩)) ?_;rintro _ _ _ ⟨rfl,rfl,m1,rfl⟩)
   | (refine SB.o (i:=4) rfl (SO.call call127 rfl<|dY E g4 _ _ acc t hI b6) dC (.inr (by rintro _ _ _ ⟨rfl,rfl,m1,rfl⟩;exact⟨by exact zb9 _,(by exact .refl _)⟩)) ?_;rintro _ _ _ ⟨rfl,rfl,m1,rfl⟩)
   | (refine SB.o (i:=5) rfl (SO.call call55 rfl<|bc E g4 _ _ l m1 U hf) dC (.inr (by rintro _ gF _ ⟨rfl,D,rF,rfl,P⟩;exact⟨by assumption,(by exact .cons _<|.refl _)⟩)) ?_;rintro _ gF _ ⟨rfl,D,rF,rfl,P⟩;refine SX.u (i:=6) I kD (mV I) dC ?_;refine SX.u (i:=7) I kD (xT I I) dC ?_;refine SX.u (i:=8) I kD (xT I I) dC ?_)
   | (refine SB.o (i:=5) rfl (SO.call call55 rfl<|bc E g4 _ _ l m1 U hf) dC (.inr (by rintro _ gF _ ⟨rfl,D,rF,rfl,P⟩;exact⟨by assumption,(by exact .refl _)⟩)) ?_;rintro _ gF _ ⟨rfl,D,rF,rfl,P⟩;refine SX.u (i:=6) I kD (mV I) dC ?_;refine SX.u (i:=7) I kD (xT I I) dC ?_;refine SX.u (i:=8) I kD (xT I I) dC ?_)
   | (refine SB.o (i:=9) rfl (aL zl8) dC (.inr (by rintro _ _ _ ⟨bF,rfl,rfl,rfl⟩;exact⟨by exact zb9 _,(by exact .cons _<|.refl _)⟩)) ?_;rintro _ _ _ ⟨bF,rfl,rfl,rfl⟩)
   | (refine SB.o (i:=9) rfl (aL zl8) dC (.inr (by rintro _ _ _ ⟨bF,rfl,rfl,rfl⟩;exact⟨by assumption,(by exact .cons _<|.refl _)⟩)) ?_;rintro _ _ _ ⟨bF,rfl,rfl,rfl⟩)
   | (refine SB.on (i:=10) I (sK 0 ar I I I I I sB) (.inl dC) ?_;rintro _ _ _ ⟨rfl,rfl⟩;refine SX.u (i:=11) I kD (aS I) dC ?_)
   | refine zd9 4 9 kD ?_ ?_
   | refine zd9 5 9 kD ?_ ?_
   | refine zd8 9 kD ?_
   | refine zd8 10 kD ?_
   | refine zd8 5 kD ?_
   | refine zd8 4 kD ?_
   | (refine SX.nil kD ?_;exact za9 (bF,gF,(findC l m1).getD aA,rF) sB I I ⟨D,P,uU hf m1⟩))
 rintro ⟨G,g5,Y,⟨R,yd,yp,yn,yc⟩⟩ ⟨Z,⟨-,-,g9⟩,n5⟩;dsimp only at Z g9 n5 ⊢;have n6:yn=Y.sides.length:=zc2 g9;subst n6;have d1:=U.mono Z;have q3:=za5 hI Z;have a0:=a5.trans Z;have b8:=za5 hV a0;have h6:=za5 hW a0;have b9:=za5 d0 Z;have m:=c9.trans a0;refine sQ<|rZ<|lU (fA dZ I zT3 I)<|lK (qL (v:=vi k0) iT3 I<|cO 4 I I)<|lW (SO.call lX I<|bB E g5 _ k0 10 dC) ?_;rintro _ _ _ ⟨rfl,rfl,rfl⟩;generalize bV k0 10=kd at *;refine tZ<|bK<|rZ<|yE I<|aT I<|iP I (fun h0=>?_) (fun h0=>?_)
 ·refine sW I<|lU (za3 I<|bA58 _ _)<|oZ (sK 2 eG rfl rfl rfl rfl rfl<|by (repeat' (first | exact trivial | refine⟨by rfl,?_⟩))) ?_;refine tZ<|rE<|bR<|tR ?_;exact ST.retCD 2 s (.inl I) results79 I j4 eG I I uR ⟨I,m,⟨1,n,0,0,0,[],[]⟩,⟨_,_,I,zc1 _ _,zc1 _ _⟩,by simp,by simp,fun _=>I,fun h _ _ _=>⟨fun _=>K h,fun y=>absurd (show (1:Int)=3 from y) dC⟩⟩
 ·refine rZ<|yE I<|aT I<|iP I (fun y=>?_) (fun y=>?_)
  ·refine sQ<|dW [13] [(0,2),(1,2),(2,2),(3,1),(6,2),(7,2),(8,1),(4,0),(5,2),(9,0),(10,2),(11,0),(12,2),(13,0)] ze6 kR<|yM I<|yM I<|pU I (fA dZ I zT3 I)<|pK I (qL (v:=vi f) iT3 I<|cO 4 I I)<|yM I<|pU I (fA dZ I zT3 I)<|pK I (qL (v:=vi t) iT3 I<|cO 4 I I)<|SP.o I (SO.call call127 I<|dY E g5 _ _ V f b8 c2) dC (.inr iR) ?_;rintro _ _ _ ⟨rfl,rfl,T,rfl⟩;refine pU I (za3 I<|buildS80 _ _)<|SP.o I (SO.call call127 I<|dY E g5 _ _ V t b8 c2) dC (.inr iR) ?_;rintro _ _ _ ⟨rfl,rfl,a2,rfl⟩;refine pU I (za3 I<|buildS80 _ _)<|SP.o I (bS sty35 I I I (ae sB) dC) dC (.inr iR) ?_;rintro _ _ _ ⟨d2,rfl,rfl,rfl⟩;refine SP.freeze fun g6 b c0=>?_;have a3:SlA encSide g6 (.slice (some ⟨d2,0,none⟩) 2 2) [⟨T,1⟩,⟨a2,-1⟩]:=SlA.lit c0 rfl rfl;refine pU I (za3 I<|bB58 _ _ _ _ _ _)<|SP.on rfl (sK 2 eG rfl rfl rfl rfl rfl<|by (repeat' (first | exact trivial | refine⟨by rfl,?_⟩))) (.inl dC) ?_;rintro _ _ _ ⟨rfl,rfl⟩;refine pN<|tN<|rE<|bR<|tR ?_;exact ST.retCD 2 s (.inl I) results79 I j4 eG I I uR ⟨I,m.trans b,⟨1,n,1,0,0,[⟨T,1⟩,⟨a2,-1⟩],[]⟩,⟨_,_,I,a3,zc1 _ _⟩,by simp,by simp,fun _=>I,fun h _ _ _=>⟨fun _=>K h,fun y=>absurd (show (1:Int)=3 from y) dC⟩⟩
  ·refine rZ<|yE I<|aT I<|iP I (fun h2=>?_) (fun h2=>?_)
   ·refine SC.cut (ι:=Nat×Option Addr×Nat) (fun i=>[(2,pp J 0),(4,pp C 0),(14,pp i.1 0)]) (fun _=>g5) (fun i=>pt i.1 (bY #[vi 1,vi n,vi Q,vi 0,vi 0,.slice i.2.1 X.sides.length i.2.2,.slice none 0 0] 58)::rowA encSide 80 (.slice i.2.1 X.sides.length i.2.2) X.sides::pt G (bY #[vi R,vi yd,.slice yp Y.sides.length yc] 37)::pt B (bY #[vi M,vi Q,.slice xp X.sides.length xc] 37)::pt C (bY #[vi 0,vi 0,vi 0,vi 0,vi 0,.slice none 0 0,.slice none 0 0] 58)::pt N (bY #[.slice p l.length c] 29)::pt J (bY #[vi k0,vi f,vi t,vi F] 117)::s) (fun _=>True) ?_ ?_
    ·refine SC.drawX [9] ze6 kR ?_;refine SX.u (i:=0) I kR (mV I) dC<|SX.u (i:=1) I kR (fA ao I zT3 I) dC<|SX.q (i:=2) I kR (qL (v:=vi Q) iT3 I<|cO (by exact 1) I I) dC ?_;refine SX.u (i:=4) I kR (fA ao I aI I) dC<|SX.q (i:=5) I kR (qL (v:=.slice xp X.sides.length xc) bi I<|cO (by exact 1) I I) dC ?_;refine zd9 3 8 kR ?_ ?_
     ·refine SB.o (i:=3) I (bS sty35 I I I (ae trivial) dC) dC (.inr iR) ?_;rintro _ _ _ ⟨n7,rfl,rfl,rfl⟩;refine SX.drop (zj4 _ _) ?_;refine zd9 6 8 kR ?_ ?_
      ·refine SB.o (i:=6) I (SO.appNewA (e:=encSide) sty35 I I b9 oM oM) dC (.inr iR) ?_;rintro v98 _ _ ⟨rfl,rfl⟩;refine SX.facts fun ⟨w0,A⟩=>?_;obtain ⟨q8,d8,rfl⟩:=ah (e:=encSide) (l:=X.sides) (i:=0) A rfl;clear A w0
       first | refine SX.to (fun w hw=>At.perm hw<|zk4 (pt H _) _ _) ?_ | skip
       refine SX.u (i:=7) I kR (za3 I<|bB58 _ _ _ _ _ _) dC ?_;refine zd8 8 kR ?_
       ·refine SB.o (i:=8) I (aL zl4) dC (.inr iR) ?_;rintro _ _ _ ⟨H,rfl,rfl,rfl⟩;refine zd8 9 kR ?_
        ·refine SB.on (i:=9) rfl (sK 0 eG rfl rfl rfl rfl rfl<|by (repeat' (first | exact trivial | refine⟨by rfl,?_⟩))) (.inl dC) ?_;rintro _ _ _ ⟨rfl,rfl⟩;refine SX.nil kR ?_;exact za9 (H,q8,d8) sB I I trivial
      ·refine SB.o (i:=8) I (aL zl4) dC (.inr iR) ?_;rintro _ _ _ ⟨H,rfl,rfl,rfl⟩;refine zd8 6 kR ?_
       ·refine SB.o (i:=6) I (SO.appNewA (e:=encSide) sty35 I I b9 oM oM) dC (.inr iR) ?_;rintro v98 _ _ ⟨rfl,rfl⟩;refine SX.facts fun ⟨w0,A⟩=>?_;obtain ⟨q8,d8,rfl⟩:=ah (e:=encSide) (l:=X.sides) (i:=0) A rfl;clear A w0
        first | refine SX.to (fun w hw=>At.perm hw<|zk4 (pt H _) _ _) ?_ | skip
        refine SX.u (i:=7) I kR (za3 I<|bB58 _ _ _ _ _ _) dC ?_;refine zd8 9 kR ?_
        ·refine SB.on (i:=9) rfl (sK 0 eG rfl rfl rfl rfl rfl<|by (repeat' (first | exact trivial | refine⟨by rfl,?_⟩))) (.inl dC) ?_;rintro _ _ _ ⟨rfl,rfl⟩;refine SX.nil kR ?_;exact za9 (H,q8,d8) sB I I trivial
     ·refine SB.o (i:=8) I (aL zl4) dC (.inr iR) ?_;rintro _ _ _ ⟨H,rfl,rfl,rfl⟩;refine zd8 3 kR ?_
      ·refine SB.o (i:=3) I (bS sty35 I I I (ae trivial) dC) dC (.inr iR) ?_;rintro _ _ _ ⟨n7,rfl,rfl,rfl⟩;refine SX.drop (zj4 _ _) ?_;refine zd8 6 kR ?_
       ·refine SB.o (i:=6) I (SO.appNewA (e:=encSide) sty35 I I b9 oM oM) dC (.inr iR) ?_;rintro v98 _ _ ⟨rfl,rfl⟩;refine SX.facts fun ⟨w0,A⟩=>?_;obtain ⟨q8,d8,rfl⟩:=ah (e:=encSide) (l:=X.sides) (i:=0) A rfl;clear A w0
        first | refine SX.to (fun w hw=>At.perm hw<|zk4 (pt H _) _ _) ?_ | skip
        refine SX.u (i:=7) I kR (za3 I<|bB58 _ _ _ _ _ _) dC ?_;refine zd8 9 kR ?_
        ·refine SB.on (i:=9) rfl (sK 0 eG rfl rfl rfl rfl rfl<|by (repeat' (first | exact trivial | refine⟨by rfl,?_⟩))) (.inl dC) ?_;rintro _ _ _ ⟨rfl,rfl⟩;refine SX.nil kR ?_;exact za9 (H,q8,d8) sB I I trivial
    rintro ⟨H,q8,d8⟩ -;try dsimp only
    refine SC.cut (ι:=Int) (fun _=>[(2,pp J 0),(4,pp C 0),(14,pp H 0)]) (fun _=>g5) (fun d=>pt H (bY #[vi 1,vi n,vi d,vi 0,vi 0,.slice q8 X.sides.length d8,.slice none 0 0] 58)::rowA encSide 80 (.slice q8 X.sides.length d8) X.sides::pt G (bY #[vi R,vi yd,.slice yp Y.sides.length yc] 37)::pt B (bY #[vi M,vi Q,.slice xp X.sides.length xc] 37)::pt C (bY #[vi 0,vi 0,vi 0,vi 0,vi 0,.slice none 0 0,.slice none 0 0] 58)::pt N (bY #[.slice p l.length c] 29)::pt J (bY #[vi k0,vi f,vi t,vi F] 117)::s) (fun _=>True) ?_ ?_
    ·refine rZ<|lU (fA dZ I zT3 I)<|lK (qL (v:=vi t) iT3 I<|cO 6 I I)<|lU (ze1 I I dC)<|yE I<|tZ<|iP I (fun hz=>?_) (fun hz=>?_)
     ·refine rG<|lU (fA a6 rfl zT3 rfl)<|lK (qL (v:=vi Q) iT3 rfl<|cO 0 rfl rfl)<|lU (ze3 rfl rfl)<|lU (fA a6 rfl zT3 rfl)<|oZ (SO.store1 0 zT3 rfl rfl rfl rfl (bE rfl)<|by rfl) ?_;refine SL.nil ?_;exact za9 (IntKind.i64.wrap<|Q+1) sB I I trivial
     ·exact kP<|za9 Q sB I I trivial
    rintro ed -;try dsimp only
    refine SC.cut (ι:=List am) (fun _=>[(4,pp C 0),(14,pp H 0)]) (fun _=>g5) (fun S=>pt H (bY #[vi 1,vi n,vi ed,vi 0,vi 0,.slice q8 X.sides.length d8,.slice none 0 0] 58)::rowA encSide 80 (.slice q8 X.sides.length d8) S::pt G (bY #[vi R,vi yd,.slice yp Y.sides.length yc] 37)::pt B (bY #[vi M,vi Q,.slice xp X.sides.length xc] 37)::pt C (bY #[vi 0,vi 0,vi 0,vi 0,vi 0,.slice none 0 0,.slice none 0 0] 58)::pt N (bY #[.slice p l.length c] 29)::pt J (bY #[vi k0,vi f,vi t,vi F] 117)::s) (fun S=>S.length=X.sides.length) ?_ ?_
    ·refine SC.cutB 117 (decide (t.tmod 9=4)&&decide (0<X.sides.length)) ?_ ?_
     ·refine rG<|lU (fA dZ I zT3 I)<|lK (qL (v:=vi t) iT3 I<|cO 6 I I)<|lU (ze1 I I dC)<|yE I<|lM I<|sP ?_ ?_
      ·intro h9;exact lY I I I (fA a6 I aI I)<|SL.gq (gT I I I dC) (qL (v:=.slice q8 X.sides.length d8) bi I<|cO 0 I I) dC<|lY I I I (eN a7 I)<|lY I I I (gR I I)<|yP I<|SL.nil<|zb1 (by (simp_all[aN];done)) mI
      ·intro h9;exact yA I<|yA I<|yA I<|yA I<|yF I<|SL.nil<|zb1 (by (simp_all[aN];done)) mI
     refine iQ I (fun hq=>?_) (fun hq=>?_)
     ·simp only[zj6,zj9] at hq;have i0:X.sides[0]?=some (X.sides[0]'hq.2):=List.getElem?_eq_getElem hq.2;generalize X.sides[0]'hq.2=x0 at *;refine SC.facts fun ⟨w0,A⟩=>?_;obtain ⟨bu,cap,i1⟩:=bw (e:=encSide) (l:=X.sides) (i:=1) A rfl oM;obtain ⟨rfl,rfl⟩:q8=some ⟨bu,0,none⟩∧d8=cap:=by injection i1 with y _ h2;exact⟨y,h2⟩
      clear A w0 i1;refine dW [10] [(0,2),(1,1),(2,2),(3,1),(4,2),(5,2),(6,1),(7,2),(8,2),(9,2),(10,0)] ze6 kR<|pU I (fA a6 I aI I)<|pK I (qL (v:=.slice (some ⟨bu,0,none⟩) X.sides.length d8) bi I<|cO 0 I I)<|pU I (fA a6 I aI I)<|pK I (qL (v:=.slice (some ⟨bu,0,none⟩) X.sides.length d8) bi I<|cO 0 I I)<|pU I (iA a7 aR I I I oM sL)<|pU I (fA df I zT3 I)<|pK I (aZ (e:=encSide) (a:=x0) (j:=0) (o:=1) (u:=vi x0.sign) iT3 I (zb7 1 I) i0 I)<|pU I (SU.neg I)<|pU I (iA a7 aR I I I oM sL)<|pU I (fA df I zT3 I)<|SP.on I (SO.partA (e:=encSide) (a:=x0) (j:=0) (o:=1) 1 ⟨x0.cell,IntKind.i64.wrap<|0 - x0.sign⟩ zT3 I I I i0 I I dC I) (.inl dC) ?_;rintro _ _ _ ⟨rfl,rfl⟩;exact pN<|za9 (X.sides.set 0 ⟨x0.cell,IntKind.i64.wrap<|0 - x0.sign⟩) sB I I dO
     ·exact kP<|za9 X.sides sB I I I
    rintro S hS;try dsimp only at hS ⊢
    refine rZ<|lK (qV 0 j4 eG I I I)<|oZ (sK 4 eG rfl rfl rfl rfl rfl<|by (repeat' (first | exact trivial | refine⟨by rfl,?_⟩))) ?_;refine tZ<|rE<|bR<|tR ?_;rw[← hS];refine ST.perm (zk4 _ _ _) (fT fun g6 b a3=>?_);exact ST.retCD 3 s (.inl I) results79 I j4 eG I I uR ⟨I,m.trans b,⟨1,n,ed,0,0,S,[]⟩,⟨_,_,I,a3,zc1 _ _⟩,by dsimp only;omega,by simp,fun _=>I,fun h _ _ _=>⟨fun _=>K h,fun y=>absurd (show (1:Int)=3 from y) dC⟩⟩
   ·refine rZ<|yE I<|aT I<|iP I (fun h3=>?_) (fun h3=>?_)
    ·refine sW I<|lU (fA ao I zT3 I)<|lK (qL (v:=vi Q) iT3 I<|cO 1 I I)<|lU (ze3 I I)<|lU (fA ao I zT3 I)<|lK (qL (v:=vi M) iT3 I<|cO 1 I I)<|lU (za3 I<|buildS80 _ _)<|lU (fA ao I zT3 I)<|lK (qL (v:=vi R) iT3 I<|cO 0 I I)<|lU (za3 I<|buildS80 _ _)<|lW (bS sty35 I I I (ae sB) dC) ?_;rintro _ _ _ ⟨d2,rfl,rfl,rfl⟩;refine zb5 fun g6 b c0=>?_;have a3:SlA encSide g6 (.slice (some ⟨d2,0,none⟩) 2 2) [⟨M,1⟩,⟨R,-1⟩]:=SlA.lit c0 rfl rfl;refine lU (za3 I<|bB58 _ _ _ _ _ _)<|oZ (sK 2 eG rfl rfl rfl rfl rfl<|by (repeat' (first | exact trivial | refine⟨by rfl,?_⟩))) ?_;refine tZ<|rE<|bR<|tR ?_;exact ST.retCD 2 s (.inl I) results79 I j4 eG I I uR ⟨I,m.trans b,⟨1,n,IntKind.i64.wrap<|Q+1,0,0,[⟨M,1⟩,⟨R,-1⟩],[]⟩,⟨_,_,I,a3,zc1 _ _⟩,by simp,by simp,fun _=>I,fun h _ _ _=>⟨fun _=>K h,fun y=>absurd (show (1:Int)=3 from y) dC⟩⟩
    ·refine rZ<|yE I<|aT I<|iP I (fun h4=>?_) (fun h4=>?_)
     ·refine sQ<|rZ<|lU (fA dZ I zT3 I)<|lK (qL (v:=vi t) iT3 I<|cO 4 I I)<|lU (ze1 I I dC)<|lU (nQ I I)<|tZ<|iP I (fun hz=>?_) (fun hz=>?_)
      ·refine sQ<|dW [6] [(0,1),(2,2),(3,1),(1,0),(4,0),(5,2),(6,0)] ze6 kR<|pK I (qV 3 aj ag I I I)<|pU I (fA dZ I zT3 I)<|pK I (qL (v:=vi f) iT3 I<|cO 4 I I)<|SP.o I (SO.call call128 I<|vM E g5 _ _ l d1 hf) dC (.inr iR) ?_;rintro _ g6 _ ⟨rfl,b,hT⟩;obtain ⟨pT,cT,rfl⟩:=za4 hT;refine SP.o I (SO.call call127 I<|dY E g6 _ _ (wL l) f hT l3) dC (.inr iR) ?_;rintro _ _ _ ⟨rfl,rfl,T,rfl⟩;refine pU I (za3 I<|bA58 _ _)<|SP.on rfl (sK 2 eG rfl rfl rfl rfl rfl<|by (repeat' (first | exact trivial | refine⟨by rfl,?_⟩))) (.inl dC) ?_;rintro _ _ _ ⟨rfl,rfl⟩;refine pN<|tN<|rE<|tR<|bR<|tR ?_;exact ST.retCD 2 s (.inl I) results79 I j4 eG I I uR ⟨I,m.trans b,⟨2,T,0,0,0,[],[]⟩,⟨_,_,I,zc1 _ _,zc1 _ _⟩,by simp,by simp,(by intro a9;exfalso;omega),fun _ _ _ _=>⟨fun y=>absurd (show (2:Int)=1 from y) dC,fun y=>absurd (show (2:Int)=3 from y) dC⟩⟩
      ·refine kP<|tN<|rZ<|lU (fA ao I zT3 I)<|lK (qL (v:=vi M) iT3 I<|cO 1 I I)<|lU (za3 I<|bA58 _ _)<|oZ (sK 2 eG rfl rfl rfl rfl rfl<|by (repeat' (first | exact trivial | refine⟨by rfl,?_⟩))) ?_;refine tZ<|rE<|bR<|tR ?_;exact ST.retCD 2 s (.inl I) results79 I j4 eG I I uR ⟨I,m,⟨2,M,0,0,0,[],[]⟩,⟨_,_,I,zc1 _ _,zc1 _ _⟩,by simp,by simp,(by intro a9;exfalso;omega),fun _ _ _ _=>⟨fun y=>absurd (show (2:Int)=1 from y) dC,fun y=>absurd (show (2:Int)=3 from y) dC⟩⟩
     ·refine SC.cut (ι:=Unit) (fun _=>[(2,pp J 0),(3,pp N 0),(4,pp C 0),(7,.slice pV V.length cV),(8,.slice pW W.length cW),(9,vi n),(10,pp B 0),(12,pp G 0),(70,vi kd),(158,vb<|decide (kd=5∨kd=6))]) (fun _=>g5) (fun _=>pt G (bY #[vi R,vi yd,.slice yp Y.sides.length yc] 37)::pt B (bY #[vi M,vi Q,.slice xp X.sides.length xc] 37)::pt C (bY #[vi 0,vi 0,vi 0,vi 0,vi 0,.slice none 0 0,.slice none 0 0] 58)::pt N (bY #[.slice p l.length c] 29)::pt J (bY #[vi k0,vi f,vi t,vi F] 117)::s) (fun _=>True) ?_ ?_
      ·refine rZ<|yE I<|aT I<|iP I (fun h5=>?_) (fun h5=>?_)
       ·exact kP<|za9 () ⟨I,I,I,I,I,I,I,I,I,by rw[decide_eq_decide.2 (show (kd=5∨kd=6)↔kd=5 from ⟨fun _=>h5,.inl⟩)];rfl,trivial⟩ rfl rfl trivial
       ·exact rG<|yE I<|lA I<|SL.nil<|za9 () ⟨I,I,I,I,I,I,I,I,I,by rw[decide_eq_decide.2 (show (kd=5∨kd=6)↔kd=6 from ⟨fun h=>h.resolve_left h5,.inr⟩)];rfl,trivial⟩ rfl rfl trivial
      rintro _ -;try dsimp only
      refine iP I (fun n8=>?_) (fun n8=>?_)
      ·refine SC.cut (ι:=Nat×Int) (fun i=>[(2,pp J 0),(4,pp C 0),(9,vi n),(10,pp B 0),(15,pp i.1 0)]) (fun _=>g5) (fun i=>pt i.1 (bY #[vi 3,vi i.2,vi 0,vi n,vi<|IntKind.i64.wrap<|n+1,.slice none 0 0,.slice none 0 0] 58)::pt G (bY #[vi R,vi yd,.slice yp Y.sides.length yc] 37)::pt B (bY #[vi M,vi Q,.slice xp X.sides.length xc] 37)::pt C (bY #[vi 0,vi 0,vi 0,vi 0,vi 0,.slice none 0 0,.slice none 0 0] 58)::pt N (bY #[.slice p l.length c] 29)::pt J (bY #[vi k0,vi f,vi t,vi F] 117)::s) (fun _=>True) ?_ ?_
       ·refine rG<|lM I<|lU (fA dZ I zT3 I)<|lK (qL (v:=vi f) iT3 I<|cO 4 I I)<|lW (SO.call call127 I<|dY E g5 _ _ W f h6 c7) ?_;rintro _ _ _ ⟨rfl,rfl,T,rfl⟩;refine lM I (lM I<|lU (ze3 I I)<|lU (za3 I<|bC58 _ _ _ _)<|bW (aL zl4) fun c3=>?_);refine oZ (sK 0 eG rfl rfl rfl rfl rfl<|by (repeat' (first | exact trivial | refine⟨by rfl,?_⟩))) ?_;refine SL.nil ?_;exact za9 (c3,T) sB I I trivial
       rintro ⟨c3,T⟩ -;try dsimp only
       refine SC.cut (ι:=Int×Int×Int) (fun _=>[(4,pp C 0),(15,pp c3 0)]) (fun _=>g5) (fun i=>pt c3 (bY #[vi 3,vi i.1,vi 0,vi i.2.1,vi i.2.2,.slice none 0 0,.slice none 0 0] 58)::pt G (bY #[vi R,vi yd,.slice yp Y.sides.length yc] 37)::pt B (bY #[vi M,vi Q,.slice xp X.sides.length xc] 37)::pt C (bY #[vi 0,vi 0,vi 0,vi 0,vi 0,.slice none 0 0,.slice none 0 0] 58)::pt N (bY #[.slice p l.length c] 29)::pt J (bY #[vi k0,vi f,vi t,vi F] 117)::s) (fun i=>(∀ c∈l,a8 c.id)→a8 i.2.1∧a8 i.2.2) ?_ ?_
       ·refine rZ<|lU (fA dZ I zT3 I)<|lK (qL (v:=vi t) iT3 I<|cO 5 I I)<|lW (SO.call lX I<|bB E g5 _ t 12 dC) ?_;rintro _ _ _ ⟨rfl,rfl,rfl⟩;generalize bV t 12=kt at *;refine tZ<|bK<|rZ<|yE I<|aT I<|iP I (fun k0=>?_) (fun k0=>?_)
        ·refine rG<|lU (fA ao rfl zT3 rfl)<|lK (qL (v:=vi M) iT3 rfl<|cO 2 rfl rfl)<|lU (fA a6 rfl zT3 rfl)<|oZ (SO.store1 0 zT3 rfl rfl rfl rfl (bE rfl)<|by rfl) ?_;refine SL.nil<|bN ?_;exact za9 (M,n,IntKind.i64.wrap<|n+1) sB I I fun h=>⟨K h,jj _⟩
        ·refine rZ<|yE I<|aT I<|iP I (fun k1=>?_) (fun k1=>?_)
         ·refine rG<|lU (fA a6 rfl zT3 rfl)<|lK (qL (v:=vi<|IntKind.i64.wrap<|n+1) iT3 rfl<|cO 0 rfl rfl)<|lU (fA a6 rfl zT3 rfl)<|oZ (SO.store1 0 zT3 rfl rfl rfl rfl (bE rfl)<|by rfl) ?_;refine SL.nil<|bN ?_;exact za9 (T,IntKind.i64.wrap<|n+1,IntKind.i64.wrap<|n+1) sB I I fun h=>⟨jj _,jj _⟩
         ·refine rZ<|yE I<|aT I<|iP I (fun k2=>?_) (fun k2=>?_)
          ·refine rG<|lU (fA dZ rfl zT3 rfl)<|lK (qL (v:=vi f) iT3 rfl<|cO 5 rfl rfl)<|lU (SU.neg rfl)<|lU (fA a6 rfl zT3 rfl)<|oZ (SO.store1 0 zT3 rfl rfl rfl rfl (bE rfl)<|by rfl) ?_;refine SL.nil<|bN ?_;exact za9 (T,n,IntKind.i64.wrap<|0 - f) sB I I fun h=>⟨K h,jj _⟩
          ·refine rZ<|yE I<|aT I<|iP I (fun k3=>?_) (fun k3=>?_)
           ·refine sW rfl<|lU (ze3 rfl rfl)<|lU (fA a6 rfl zT3 rfl)<|oZ (SO.store1 0 zT3 rfl rfl rfl rfl (bE rfl)<|by rfl) ?_;refine tZ<|rG<|lM rfl<|lU (fA a6 rfl zT3 rfl)<|oZ (SO.store1 0 zT3 rfl rfl rfl rfl (bE rfl)<|by rfl) ?_;refine SL.nil<|bN ?_;exact za9 (T,IntKind.i64.wrap<|n+1,n) sB I I fun h=>⟨jj _,K h⟩
           ·exact kP<|bN<|za9 (T,n,IntKind.i64.wrap<|n+1) sB I I fun h=>⟨K h,jj _⟩
       rintro ⟨e1,e2,e3⟩ c5;try dsimp only at c5 ⊢
       refine rZ<|lK (qV 0 j4 eG I I I)<|oZ (sK 3 eG rfl rfl rfl rfl rfl<|by (repeat' (first | exact trivial | refine⟨by rfl,?_⟩))) ?_;refine tZ<|rE<|bR<|tR ?_;exact ST.retCD 3 s (.inl I) results79 I j4 eG I I uR ⟨I,m,⟨3,e1,0,e2,e3,[],[]⟩,⟨_,_,I,zc1 _ _,zc1 _ _⟩,by simp,by simp,(by intro a9;exfalso;omega),fun h ha _ _=>⟨fun y=>absurd (show (3:Int)=1 from y) dC,fun _=>c5 h⟩⟩
      ·refine rZ<|yE I<|aT I<|iP I (fun h7=>?_) (fun h7=>?_)
       ·refine SC.cut (ι:=Nat×Option Addr×Nat×List Pr) (fun i=>[(2,pp J 0),(3,pp N 0),(4,pp C 0),(7,.slice pV V.length cV),(8,.slice pW W.length cW),(16,pp i.1 0)]) (fun _=>g5) (fun i=>pt i.1 (bY #[vi 4,vi 0,vi 0,vi 0,vi 0,.slice none 0 0,.slice i.2.1 i.2.2.2.length i.2.2.1] 58)::rowA em 99 (.slice i.2.1 i.2.2.2.length i.2.2.1) i.2.2.2::pt G (bY #[vi R,vi yd,.slice yp Y.sides.length yc] 37)::pt B (bY #[vi M,vi Q,.slice xp X.sides.length xc] 37)::pt C (bY #[vi 0,vi 0,vi 0,vi 0,vi 0,.slice none 0 0,.slice none 0 0] 58)::pt N (bY #[.slice p l.length c] 29)::pt J (bY #[vi k0,vi f,vi t,vi F] 117)::s) (fun i=>i.2.2.2.length≤1) ?_ ?_
        ·refine rG<|lU (fA ao I zT3 I)<|lK (qL (v:=vi M) iT3 I<|cO 1 I I)<|lU (fA ao I zT3 I)<|lK (qL (v:=vi R) iT3 I<|cO 0 I I)<|lU (za3 I<|build99 _ _)<|lW (bS sty56 I I I (ae ⟨I,trivial⟩) dC) ?_;rintro _ _ _ ⟨i2,rfl,rfl,rfl⟩;refine SL.to (fun w hw=>At.litRow (e:=em) (l:=[(M,R)]) (n:=0) hw I I dC) ?_;refine lU (za3 I<|bD58 _ _ _ _) (bW (aL zl4) fun O=>?_);refine oZ (sK 0 eG rfl rfl rfl rfl rfl<|by (repeat' (first | exact trivial | refine⟨by rfl,?_⟩))) ?_;refine SL.nil ?_;exact za9 (O,some ⟨i2,0,none⟩,1,[(M,R)]) sB I I<|Nat.le_refl 1
        rintro ⟨O,q6,d6,P6⟩ L;dsimp only at L ⊢;refine SC.cut (ι:=Option Addr×Nat×List Pr) (fun _=>[(2,pp J 0),(3,pp N 0),(4,pp C 0),(7,.slice pV V.length cV),(8,.slice pW W.length cW),(16,pp O 0)]) (fun i=>g5) (fun i=>pt O (bY #[vi 4,vi 0,vi 0,vi 0,vi 0,.slice none 0 0,.slice i.1 i.2.2.length i.2.1] 58)::rowA em 99 (.slice i.1 i.2.2.length i.2.1) i.2.2::pt G (bY #[vi R,vi yd,.slice yp Y.sides.length yc] 37)::pt B (bY #[vi M,vi Q,.slice xp X.sides.length xc] 37)::pt C (bY #[vi 0,vi 0,vi 0,vi 0,vi 0,.slice none 0 0,.slice none 0 0] 58)::pt N (bY #[.slice p l.length c] 29)::pt J (bY #[vi k0,vi f,vi t,vi F] 117)::s) (fun i=>i.2.2.length≤1) ?_ ?_
        ·refine rZ<|lU (fA dZ I zT3 I)<|lK (qL (v:=vi t) iT3 I<|cO 6 I I)<|lU (ze1 I I dC)<|yE I<|tZ<|iP I (fun hz=>?_) (fun hz=>?_)
         ·refine dW [12] [(0,2),(1,2),(2,1),(4,2),(5,2),(6,1),(7,2),(3,0),(8,0),(9,2),(10,0),(11,2),(12,0)] ze6 kR<|yM I<|pU I (fA dZ I zT3 I)<|pK I (qL (v:=vi f) iT3 I<|cO 6 I I)<|yM I<|pU I (fA dZ I zT3 I)<|pK I (qL (v:=vi t) iT3 I<|cO 6 I I)<|pU I (SU.quo I I dC)<|SP.o I (SO.call call127 I<|dY E g5 _ _ V f b8 c2) dC (.inr iR) ?_;rintro _ _ _ ⟨rfl,rfl,T,rfl⟩;refine SP.o I (SO.call call127 I<|dY E g5 _ _ V _ b8 c2) dC (.inr iR) ?_;rintro _ _ _ ⟨rfl,rfl,a2,rfl⟩;refine pU I (za3 I<|build99 _ _)<|SP.o I (bS sty56 I I I (ae ⟨I,trivial⟩) dC) dC (.inr iR) ?_;rintro _ _ _ ⟨i3,rfl,rfl,rfl⟩;refine SP.to (fun w hw=>At.litRow (e:=em) (l:=[(T,a2)]) (n:=0) hw I I dC) ?_;refine SP.drop (.cons_cons _<|.cons_cons _<|.cons _<|.refl _) ?_;refine SP.to (fun w hw=>At.perm hw<|zk4 (pt O _) _ _) ?_;refine pU rfl (fA a6 rfl kJ rfl)<|SP.on rfl (SO.store1 0 kJ rfl rfl rfl rfl (bE rfl)<|by rfl) (.inl dC) ?_;rintro _ _ _ ⟨rfl,rfl⟩;refine pN ?_;exact za9 (some ⟨i3,0,none⟩,1,[(T,a2)]) sB I I<|Nat.le_refl 1
         ·exact kP<|za9 (q6,d6,P6) sB I I L
        clear L;rintro ⟨q6,d6,P6⟩ L;dsimp only at L ⊢;refine SC.cut (ι:=PH×Option Addr×Nat×List Pr) (fun _=>[(2,pp J 0),(3,pp N 0),(4,pp C 0),(7,.slice pV V.length cV),(8,.slice pW W.length cW),(16,pp O 0)]) (fun i=>i.1) (fun i=>pt O (bY #[vi 4,vi 0,vi 0,vi 0,vi 0,.slice none 0 0,.slice i.2.1 i.2.2.2.length i.2.2.1] 58)::rowA em 99 (.slice i.2.1 i.2.2.2.length i.2.2.1) i.2.2.2::pt G (bY #[vi R,vi yd,.slice yp Y.sides.length yc] 37)::pt B (bY #[vi M,vi Q,.slice xp X.sides.length xc] 37)::pt C (bY #[vi 0,vi 0,vi 0,vi 0,vi 0,.slice none 0 0,.slice none 0 0] 58)::pt N (bY #[.slice p l.length c] 29)::pt J (bY #[vi k0,vi f,vi t,vi F] 117)::s) (fun i=>Le g5 i.1∧i.2.2.2.length≤1) ?_ ?_
        ·refine rZ<|lU (fA dZ I zT3 I)<|lK (qL (v:=vi t) iT3 I<|cO 6 I I)<|lU (ze1 I I dC)<|yE I<|tZ<|iP I (fun hz=>?_) (fun hz=>?_)
         ·refine rG<|lK (qV 5 aj ag I I I)<|lU (fA dZ I zT3 I)<|lK (qL (v:=vi f) iT3 I<|cO 6 I I)<|lW (SO.call call129 I<|AN E g5 _ _ l f d1 hf) ?_;rintro v228 g6 _ ⟨Q6,rfl,b,o1⟩;refine zd4 fun ⟨w0,A⟩=>?_;obtain ⟨q7,d7,rfl⟩:=ah (e:=em) (l:=Q6) (i:=0) A rfl;clear A w0;refine SL.drop (.cons_cons _<|.cons_cons _<|.cons _<|.refl _) ?_;refine SL.to (fun w hw=>At.perm hw<|zk4 (pt O _) _ _) ?_;refine lU (fA a6 rfl kJ rfl)<|oZ (SO.store1 0 kJ rfl rfl rfl rfl (bE rfl)<|by rfl) ?_;refine SL.nil ?_;exact za9 (g6,q7,d7,Q6) sB I I ⟨b,o1⟩
         ·exact kP<|za9 (g5,q6,d6,P6) sB I I ⟨zb9 _,L⟩
        clear L;rintro ⟨g6,q6,d6,P6⟩ ⟨b,L⟩;dsimp only at b L ⊢;have q4:=za5 b8 b;have j0:=za5 h6 b;refine SC.cut (ι:=PH×Option Addr×Nat×List Pr) (fun _=>[(4,pp C 0),(16,pp O 0)]) (fun i=>i.1) (fun i=>pt O (bY #[vi 4,vi 0,vi 0,vi 0,vi 0,.slice none 0 0,.slice i.2.1 i.2.2.2.length i.2.2.1] 58)::rowA em 99 (.slice i.2.1 i.2.2.2.length i.2.2.1) i.2.2.2::pt G (bY #[vi R,vi yd,.slice yp Y.sides.length yc] 37)::pt B (bY #[vi M,vi Q,.slice xp X.sides.length xc] 37)::pt C (bY #[vi 0,vi 0,vi 0,vi 0,vi 0,.slice none 0 0,.slice none 0 0] 58)::pt N (bY #[.slice p l.length c] 29)::pt J (bY #[vi k0,vi f,vi t,vi F] 117)::s) (fun i=>i.1=g6∧i.2.2.2.length≤2) ?_ ?_
        ·refine rZ<|lU (fA dZ I zT3 I)<|lK (qL (v:=vi F) iT3 I<|cO 6 I I)<|lU (ze1 I I dC)<|yE I<|tZ<|iP I (fun hz=>?_) (fun hz=>?_)
         ·refine dW [12,14] [(0,2),(1,1),(2,2),(3,2),(4,1),(6,2),(7,2),(8,1),(5,0),(9,0),(10,2),(11,0),(12,0),(13,2),(14,0)] ze6 kR<|pU I (fA a6 I kJ I)<|pK I (qL (v:=.slice q6 P6.length d6) nB I<|cO 0 I I)<|yM I<|pU I (fA dZ I zT3 I)<|pK I (qL (v:=vi f) iT3 I<|cO 6 I I)<|yM I<|pU I (fA dZ I zT3 I)<|pK I (qL (v:=vi t) iT3 I<|cO 6 I I)<|SP.o I (SO.call call127 I<|dY E g6 _ _ W f j0 c7) dC (.inr iR) ?_;rintro _ _ _ ⟨rfl,rfl,T,rfl⟩;refine SP.o I (SO.call call127 I<|dY E g6 _ _ W t j0 c7) dC (.inr iR) ?_;rintro _ _ _ ⟨rfl,rfl,a2,rfl⟩;refine pU I (za3 I<|build99 _ _)<|SP.o I (bS sty56 I I I (ae ⟨I,trivial⟩) dC) dC (.inr iR) ?_;rintro _ _ _ ⟨p9,rfl,rfl,rfl⟩;refine SP.o I (aP (e:=em) (l:=P6) 1 (T,a2) sty56 I I I I I oM oM) dC (.inl dC) ?_;rintro v246 _ _ ⟨rfl,rfl⟩;refine zd3 fun ⟨w0,A⟩=>?_;obtain ⟨q7,d7,rfl⟩:=ah (e:=em) (l:=P6++[(T,a2)]) (i:=1) A rfl;clear A w0;refine pU rfl (fA a6 rfl kJ rfl)<|SP.on rfl (SO.store1 0 kJ rfl rfl rfl rfl (bE rfl)<|by rfl) (.inl dC) ?_;rintro _ _ _ ⟨rfl,rfl⟩;refine pN ?_;exact za9 (g6,q7,d7,P6++[(T,a2)]) sB I I ⟨I,by dsimp only;rw[ze8,zf1];omega⟩
         ·exact kP<|za9 (g6,q6,d6,P6) sB I I ⟨I,by dsimp only;omega⟩
        clear L;rintro ⟨g7,q6,d6,P6⟩ ⟨j1,L⟩;dsimp only at j1 L ⊢;subst j1;refine rZ<|lK (qV 0 j4 eG I I I)<|oZ (sK 4 eG rfl rfl rfl rfl rfl<|by (repeat' (first | exact trivial | refine⟨by rfl,?_⟩))) ?_;refine tZ (rE<|bR<|tR<|ST.perm (zk4 _ _ _)<|fT fun g8 j2 o2=>?_);exact ST.retCD 3 s (.inl I) results79 I j4 eG I I uR ⟨I,m.trans<|b.trans j2,⟨4,0,0,0,0,[],P6⟩,⟨_,_,I,zc1 _ _,o2⟩,by simp,by dsimp only;omega,(by intro a9;exfalso;omega),fun _ _ _ _=>⟨fun y=>absurd (show (4:Int)=1 from y) dC,fun y=>absurd (show (4:Int)=3 from y) dC⟩⟩
       ·refine rZ<|yE I<|aT I<|iP I (fun h8=>?_) (fun h8=>?_)
        ·refine rZ<|lK (qV 3 aj ag I I I)<|lW (SO.call call130 I<|xB E g5 _ _ l d1 hf) ?_;rintro v252 g6 _ ⟨rfl,b,F8,d3,q5⟩;obtain ⟨pF,cF,rfl⟩:=za4 d3;have c1:=m.trans b;refine aT I<|SC.cut (ι:=Unit) (fun _=>[(4,pp C 0),(10,pp B 0),(12,pp G 0)]) (fun _=>g6) (fun _=>pt G (bY #[vi R,vi yd,.slice yp Y.sides.length yc] 37)::pt B (bY #[vi M,vi Q,.slice xp X.sides.length xc] 37)::pt C (bY #[vi 0,vi 0,vi 0,vi 0,vi 0,.slice none 0 0,.slice none 0 0] 58)::pt N (bY #[.slice p l.length c] 29)::pt J (bY #[vi k0,vi f,vi t,vi F] 117)::s) (fun _=>True) ?_ ?_
         ·refine SC.cutB 261 (decide (0<F8.length)&&decide (t.tmod 5≠0)) ?_ ?_
          ·refine rG<|lM I<|lU (eN mM I)<|lU (gR I I)<|lM I<|sP ?_ ?_
           ·intro l0;exact lY I I I (fA dZ I zT3 I)<|SL.gq (gT I I I dC) (qL (v:=vi t) iT3 I<|cO 4 I I) dC<|lY I I I (ze1 I I dC)<|lY I I I (nQ I I)<|yP I<|SL.nil<|zb1 (by (simp_all[aN];done)) mI
           ·intro l0;exact yA I<|yA I<|yA I<|yA I<|yF I<|SL.nil<|zb1 (by (simp_all[aN];done)) mI
          refine iQ I (fun hq=>?_) (fun hq=>?_)
          ·simp only[zj6,zj9] at hq;obtain ⟨p0,p3⟩:=s9 f F8.length oM oM;have p4:=za6 d3 hq.1;have p5:F8[(bV f F8.length).toNat]?=some F8[(bV f F8.length).toNat]:=List.getElem?_eq_getElem p3;generalize F8[(bV f F8.length).toNat]=pr at *;obtain ⟨p1,p2⟩:=pr;refine sW I<|lU (fA dZ I zT3 I)<|lK (qL (v:=vi f) iT3 I<|cO 4 I I)<|lM I<|lU (eN mM I)<|lW (SO.call lX I<|bB E g6 _ f F8.length oM) ?_;rintro _ _ _ ⟨rfl,rfl,rfl⟩;rw[p0];refine lU (iA mM qk I I p4 oM sL) (lK (SQ.elemA isAgg99 qk I (za7 d3) p5)<|bW (aL zeroValue99) fun q9=>?_);refine oZ (sK 0 qk I I I I I sB)<|tZ<|rZ<|lU (iB qG zT3 I I dC dC)<|lK (qL (v:=vi p1) iT3 I<|cO 0 I I)<|lU (iB qG zT3 I I dC dC)<|lK (qL (v:=vi p2) iT3 I<|cO 0 I I)<|lU (za3 I<|bE58 _ _ _)<|oZ (sK 3 eG rfl rfl rfl rfl rfl<|by (repeat' (first | exact trivial | refine⟨by rfl,?_⟩))) ?_;refine tZ<|rE<|tR<|bR<|tR ?_;exact ST.retCD 3 s (.inl I) results79 I j4 eG I I uR ⟨I,c1,⟨5,p1,0,0,p2,[],[]⟩,⟨_,_,I,zc1 _ _,zc1 _ _⟩,by simp,by simp,(by intro a9;exfalso;omega),fun _ _ _ _=>⟨fun y=>absurd (show (5:Int)=1 from y) dC,fun y=>absurd (show (5:Int)=3 from y) dC⟩⟩
          ·exact kP<|za9 () sB I I trivial
         rintro _ -;try dsimp only
         refine rZ<|lU (fA ao I zT3 I)<|lK (qL (v:=vi M) iT3 I<|cO 1 I I)<|lU (fA ao I zT3 I)<|lK (qL (v:=vi R) iT3 I<|cO 0 I I)<|lU (za3 I<|bE58 _ _ _)<|oZ (sK 2 eG rfl rfl rfl rfl rfl<|by (repeat' (first | exact trivial | refine⟨by rfl,?_⟩))) ?_;refine tZ<|rE<|bR<|tR ?_;exact ST.retCD 2 s (.inl I) results79 I j4 eG I I uR ⟨I,c1,⟨5,M,0,0,R,[],[]⟩,⟨_,_,I,zc1 _ _,zc1 _ _⟩,by simp,by simp,(by intro a9;exfalso;omega),fun _ _ _ _=>⟨fun y=>absurd (show (5:Int)=1 from y) dC,fun y=>absurd (show (5:Int)=3 from y) dC⟩⟩
        ·refine kP<|bN<|tN<|rZ<|lU (fA dZ I zT3 I)<|lK (qL (v:=vi f) iT3 I<|cO 4 I I)<|lU (ze1 I I dC)<|lU (SU.subW I I)<|lU (fA dZ I zT3 I)<|lK (qL (v:=vi t) iT3 I<|cO 4 I I)<|lU (fA dZ I zT3 I)<|lK (qL (v:=vi F) iT3 I<|cO 4 I I)<|lU (ze1 I I dC)<|lU (fA dZ I zT3 I)<|lK (qL (v:=vi f) iT3 I<|cO 4 I I)<|lU (fA dZ I zT3 I)<|lK (qL (v:=vi F) iT3 I<|cO 4 I I)<|lU (fA dZ I zT3 I)<|lK (qL (v:=vi t) iT3 I<|cO 4 I I)<|lU (za3 I<|buildS80 _ _)<|lW (bS sty35 I I I (ae ⟨I,trivial⟩) dC) ?_;rintro _ _ _ ⟨l1,rfl,rfl,rfl⟩;refine zb5 fun g6 b c0=>?_;have a3:SlA encSide g6 (.slice (some ⟨l1,0,none⟩) 1 1) [⟨t,1⟩]:=SlA.lit c0 rfl rfl;refine lU (fA dZ I zT3 I)<|lK (qL (v:=vi f) iT3 I<|cO 4 I I)<|lU (fA dZ I zT3 I)<|lK (qL (v:=vi F) iT3 I<|cO 4 I I)<|lU (za3 I<|build99 _ _)<|lW (bS sty56 I I I (ae ⟨I,trivial⟩) dC) ?_;rintro _ _ _ ⟨l2,rfl,rfl,rfl⟩;refine zb5 fun g7 c6 p6=>?_;have p7:SlA em g7 (.slice (some ⟨l2,0,none⟩) 1 1) [(f,F)]:=SlA.lit p6 rfl rfl;refine lU (za3 I<|bF58 _ _ _ _ _ _ _ _ _ _ _)<|oZ (sK 2 eG rfl rfl rfl rfl rfl<|by (repeat' (first | exact trivial | refine⟨by rfl,?_⟩))) ?_;refine tZ<|rE ?_;exact ST.retCD 2 s (.inl I) results79 I j4 eG I I uR ⟨I,m.trans<|b.trans c6,⟨_,t,_,f,F,[⟨t,1⟩],[(f,F)]⟩,⟨_,_,I,za5 a3 c6,p7⟩,by simp,by simp,(by intro a9;exfalso;omega),fun _ ha hb hc=>⟨fun _=>hb,fun _=>⟨ha,hc⟩⟩⟩
set_option maxHeartbeats 1000000
def incS (S:List am)(r:Int):Int:=(S.map fun y=>if y.cell=r then y.sign else 0).sum
def inc (A:List Cl)(id r:Int):Int:=incS ((ab A id).getD aA).sides r
def cf (ts:List Tm)(r:Int):Int:=(ts.map fun t=>if t.1=r then t.2 else 0).sum
def chL (D:List Cl)(ts:List Tm)(r:Int):Int:=(ts.map fun t=>t.2 * inc D t.1 r).sum
def chR (img:Int→List Tm)(S:List am)(r:Int):Int:=(S.map fun y=>y.sign * cf (img y.cell) r).sum
def FR (A D:List Cl)(img:Int→List Tm):Prop:=∀ x∈A,∀ r,chL D (img x.id) r=chR img x.sides r
theorem Gv (e:Ed)(a:Int)(y:Cl):(bH e a y).id=y.id:=by unfold bH;split <;> rfl
theorem po {A:List Cl}{e:Ed}(h:Rt A)(hc:eR A e=0):∃ c,c∈A∧c.id=e.cell∧ab A e.cell=some c∧c.dim=1 ∧
  dQ A e=[⟨e.new,0,[]⟩,⟨e.other,1,[⟨e.new,-1⟩,⟨(kN c.sides true).cell,1⟩]⟩]++A.map (bH e (kN c.sides false).cell):=by
 unfold eR at hc;cases a:ab A e.cell with
 | none=>rw[a] at hc;cases hc
 | some c =>
  rw[a] at hc;dsimp only at hc;obtain ⟨b,d⟩:=aH a;have hd:c.dim=1:=by
   by_cases hd:c.dim=1
   ·exact hd
   ·rw[zg4 hd] at hc;cases hc
  exact⟨c,b,d,I,hd,by unfold dQ;rw[h.findC,a];rfl⟩
theorem s5 {A:List Cl}{a:List Int}{c:Cl}:c∈cN A a↔c∈A∧c.id ∉ a:=by
 unfold cN;rw[zh7];simp
theorem sa {A:List Cl}{e:Ed}(h:bG A e=0):e.kind=1∨e.kind=2∨e.kind=3∨e.kind=4∨e.kind=5:=by
 unfold bG at h;split at h
 ·omega
 split at h
 ·omega
 split at h
 ·omega
 split at h
 ·omega
 split at h
 ·omega
 cases h
def GR (D:List Cl)(d:Int)(ts:List Tm):Prop:=(ts.Pairwise fun a b=>a.1<b.1)∧(∀ t∈ts,t.2=1∨t.2 = -1)∧(∀ t∈ts,∃ c,ab D t.1=some c∧c.dim=d)∧ts.length≤64
structure Ha (l m:List Cl)(img:Int→List Tm):Prop where
 cl:(aq l).2=0
 cm:(aq m).2=0
 fit:∀ x∈aa l,GR (aa m) x.dim<|img x.id
 chain:FR (aa l) (aa m) img
section
variable {l m:List Cl}{img:Int→List Tm}(h:Ha l m img)
include h
end
theorem ED (acc:List Cl)(c:Cl):∃ d∈gH acc c,d.id=c.id:=by
 unfold gH;split
 ·rename_i h;obtain ⟨x,a,b⟩:=zk2.1 h;exact⟨x,a,by simpa using b⟩
 ·exact⟨c,by simp,I⟩
theorem C9 {acc:List Cl}{x:Cl}(h:x∈acc)(c:Cl):x∈gH acc c:=by
 unfold gH;split
 ·exact h
 ·simp[h]
theorem rQ:∀ (l:List Cl) {acc:List Cl} {x:Cl},x∈acc→x∈l.foldl gH acc
 | [],_,_,h=>h
 | c::l,_,_,h=>rQ l<|C9 h c
theorem uT:∀ (l acc:List Cl) {x:Cl},x∈l→∃ d∈l.foldl gH acc,d.id=x.id
 | c::l,acc,x,h=>by
  rcases zf4.1 h with rfl | h
  ·obtain ⟨d,a,b⟩:=ED acc x;exact⟨d,rQ l a,b⟩
  ·exact uT l _ h
theorem Dx {l:List Cl}{c:Cl}(h:c∈l):∃ d∈an l,d.id=c.id:=by
 have a:co c∈aa l:=by
  unfold aa;exact zf5.2 ⟨c,(fK (key:=Cl.id) l).mem_iff.2 h,I⟩
 have b:=uT _ [] a;exact b
def fV (Ls:List (List Cl)):List Int:=(an Ls.flatten).map Cl.id
theorem lL (Ls:List (List Cl)):(fV Ls).Pairwise (· < ·):=by
 have a:=fJ Ls.flatten;have b:=i5 Ls.flatten;exact (a.and b).imp fun h=>by have:=h.1;have:=h.2;omega
theorem nX {Ls:List (List Cl)}{id:Int}:id∈fV Ls↔∃ A∈Ls,∃ c∈A,c.id=id:=by
 unfold fV;constructor
 ·intro h;obtain ⟨c,hc,rfl⟩:=zf5.1 h;obtain ⟨d,hd,a⟩:=Fc hc;obtain ⟨A,hA,b⟩:=List.mem_flatten.1 hd;exact⟨A,hA,d,b,a⟩
 ·rintro ⟨A,hA,c,hc,rfl⟩;obtain ⟨d,hd,a⟩:=Dx<|List.mem_flatten.2 ⟨A,hA,hc⟩;exact zf5.2 ⟨d,hd,a⟩
def dL (A B:List Cl)(id:Int):Bool:=decide (ab A id=ab B id)
def pickT (B L R:List Cl)(id:Int):Option (Option Cl) :=
 if dL L R id||dL R B id then some (ab L id) else if dL L B id then some (ab R id) else none
def eI (B L R:List Cl):List Int:=(fV [B,L,R]).filter fun id=>(pickT B L R id).isNone
def fp (B L R:List Cl):List Cl:=(fV [B,L,R]).filterMap fun id=>(pickT B L R id).join
def jc (S:List Cl)(x:Cl):Bool:=x.sides.any fun s=>match ab S s.cell with
 | none=>true
 | some y=>decide (y.dim≠x.dim - 1)
def jB (S:List Cl)(x:Cl):Bool:=decide (x.dim>1)&&decide (bC S x≠0)
def br (w:Cl→Bool)(S:List Cl):List Int:=(S.filter w).map Cl.id
def bL (B L R:List Cl):List Cl×List Int :=
 if eI B L R≠[] then ([],eI B L R)
 else if br (jc<|fp B L R) (fp B L R)≠[] then ([],br (jc<|fp B L R)<|fp B L R)
 else if br (jB<|fp B L R) (fp B L R)≠[] then ([],br (jB<|fp B L R)<|fp B L R)
 else if 4000<(fp B L R).length then ([],br (fun x=>(ab B x.id).isNone)<|fp B L R)
 else (fp B L R,[])
theorem kT {A:List Cl}{k:Int}:ab A k=none↔∀ c∈A,c.id≠k:=by
 unfold ab;rw[List.find?_eq_none];simp
theorem qS {A:List Cl}(h:Rt A):∀ {I0:List Int},I0.Pairwise (· < ·)→(∀ c∈A,c.id∈I0)→I0.filterMap (ab A)=A:=fun {I0} j hA=>by
 have i:(I0.filterMap<|ab A).Pairwise fun a b=>a.id<b.id:=by
  rw[List.pairwise_filterMap];exact j.imp fun {a b} f c hc d hd=>by
   rw[(aH hc).2,(aH hd).2];exact f
 have g:∀ {l:List Cl},(l.Pairwise fun a b=>a.id<b.id)→l.Nodup:=fun h=>h.imp fun f e=>by rw[e] at f;omega
 have hp:(I0.filterMap<|ab A).Perm A:=(List.perm_ext_iff_of_nodup (g i)<|g h.asc).2 fun c=>by
  rw[List.mem_filterMap];constructor
  ·rintro ⟨id,_,hc⟩;exact (aH hc).1
  ·exact fun hc=>⟨c.id,hA c hc,h.find hc⟩
 exact hp.eq_of_pairwise (fun a b _ _ i k=>by omega) i h.asc
theorem DJ {A:List Cl}(h:Rt A):br (jc A) A=[]:=by
 unfold br;rw[List.filter_eq_nil_iff.2,List.map_nil];intro x a hl;obtain ⟨s,b,hb⟩:=zk2.1 hl;obtain ⟨d,c,e⟩:=(h.form x a).found s b;rw[c] at hb;simp[e] at hb
theorem Fv {A:List Cl}(h:Rt A):br (jB A) A=[]:=by
 unfold br;rw[List.filter_eq_nil_iff.2,List.map_nil];intro x a hl;unfold jB at hl;rw[zj6,zj9,zj9] at hl;exact hl.2<|h.around x a hl.1
theorem BV {B L R A:List Cl}(hA:Rt A)(h:∀ id,pickT B L R id=some (ab A id))(a:∀ c∈A,c.id∈fV [B,L,R]):bL B L R=(A,[]):=by
 have b:eI B L R=[]:=by
  unfold eI;rw[List.filter_eq_nil_iff];intro id _;rw[h id];simp
 have d:fp B L R=A:=by
  unfold fp;have:(fun id=>(pickT B L R id).join)=ab A:=funext fun id=>by rw[h id];rfl
  rw[this];exact qS hA (lL _) a
 unfold bL;rw[b,d,DJ hA,Fv hA,zg3 dO,zg3 dO,zg3 dO,zg3 (by have:=hA.few;omega)]
theorem xZ {B L R A:List Cl}(hA:Rt A)(h:∀ id,pickT B L R id=some (ab A id))(a:A=B∨A=L∨A=R):bL B L R=(A,[]):=BV hA h fun c hc=>nX.2 (by
 rcases a with rfl | rfl | rfl
 ·exact⟨A,by simp,c,hc,I⟩
 ·exact⟨A,by simp,c,hc,I⟩
 ·exact⟨A,by simp,c,hc,I⟩)
theorem DA {B L R:List Cl}{x:Cl}(h:x∈fp B L R):(ab L x.id=some x∧(dL L R x.id||dL R B x.id)=true)∨(ab R x.id=some x∧dL L B x.id=true):=by
 unfold fp at h;obtain ⟨id,_,a⟩:=List.mem_filterMap.1 h;unfold pickT at a;split at a
 ·rename_i b;have a:ab L id=some x:=a;have c:=(aH a).2;rw[← c] at a b;exact .inl ⟨a,b⟩
 ·split at a
  ·rename_i b;have a:ab R id=some x:=a;have c:=(aH a).2;rw[← c] at a b;exact .inr ⟨a,b⟩
  ·cases a
theorem sS (B L R:List Cl):(fp B L R).Pairwise fun a b=>a.id<b.id:=by
 unfold fp;rw[List.pairwise_filterMap];refine (lL [B,L,R]).imp fun {a b} f c hc d hd=>?_;have key:∀ {id:Int} {y:Cl},y∈(pickT B L R id).join→y.id=id:=fun {id y} e=>by
  have e:(pickT B L R id).join=some y:=e;unfold pickT at e;split at e
  ·exact (aH (show ab L id=some y from e)).2
  ·split at e
   ·exact (aH (show ab R id=some y from e)).2
   ·cases e
 rw[key hc,key hd];exact f
section
variable {z0 z1:am}(hz:(z0.sign=1∧z1.sign = -1)∨(z0.sign = -1∧z1.sign=1))
include hz
end
section
variable {A:List Cl}(h:Rt A){e:Ed}
include h
end
theorem ws {B L R:List Cl}{id:Int}{y:Cl}(h:(pickT B L R id).join=some y):y.id=id:=by
 unfold pickT at h;split at h
 ·exact (aH (show ab L id=some y from h)).2
 ·split at h
  ·exact (aH (show ab R id=some y from h)).2
  ·cases h
theorem yw {B L R:List Cl}{id:Int}(h:id ∉ fV [B,L,R]):pickT B L R id=some none:=by
 have hn:∀ A∈[B,L,R],ab A id=none:=fun A hA=>kT.2 fun c hc a=>h<|nX.2 ⟨A,hA,c,hc,a⟩;unfold pickT dL;rw[hn B dO,hn L dO,hn R dO];simp
theorem Cm {B L R:List Cl}(h:eI B L R=[])(id:Int):pickT B L R id=some (ab (fp B L R) id):=by
 have b:=sS B L R;have e:((fp B L R).map Cl.id).Nodup:=by
  rw[List.Nodup,zk7];exact b.imp fun h=>by omega
 have key:∀ {o:Option Cl},pickT B L R id=some o→ab (fp B L R) id=o:=fun {o} d=>by
  cases o with
  | some x =>
   have i:x.id=id:=ws (by rw[d];rfl);have a:id∈fV [B,L,R]:=Classical.byContradiction fun f=>by rw[yw f] at d;cases d
   have hm:x∈fp B L R:=List.mem_filterMap.2 ⟨id,a,by rw[d];rfl⟩;rw[← i];exact nU e hm
  | none =>
   refine kT.2 fun c hc j=>?_;obtain ⟨k,_,g⟩:=List.mem_filterMap.1 hc;have l:=ws g;rw[← l,j,d] at g;cases g
 by_cases a:id∈fV [B,L,R]
 ·cases hp:pickT B L R id with
  | none =>
   have:id∈eI B L R:=zh7.2 ⟨a,by rw[hp];rfl⟩;rw[h] at this;cases this
  | some o=>rw[key hp]
 ·have hp:=yw a;rw[hp,key hp]
theorem lz {B L R:List Cl}{x:Cl}(h:x∈fp B L R):x∈L∨x∈R:=by
 rcases DA h with ⟨h,_⟩ | ⟨h,_⟩
 ·exact .inl (aH h).1
 ·exact .inr (aH h).1
theorem og (B L R:List Cl):(fp B L R).length≤B.length+(L.length+R.length):=by
 have a:(fp B L R).length≤(fV [B,L,R]).length:=List.length_filterMap_le ..;have b:=ij [B,L,R].flatten;unfold fV at a;rw[ze9] at a;have c:[B,L,R].flatten.length=B.length+(L.length+R.length):=by simp
 omega
theorem uV {w:Cl→Bool}{S:List Cl}(h:br w S=[]){x:Cl}(a:x∈S):w x=false:=by
 unfold br at h;rw[List.map_eq_nil_iff,List.filter_eq_nil_iff] at h;simpa using h x a
theorem EF {B L R:List Cl}(f:Rt L)(g:Rt R)(hl:br (jc<|fp B L R) (fp B L R)=[])(i:br (jB<|fp B L R) (fp B L R)=[])(hn:(fp B L R).length≤4000):Rt (fp B L R):=by
 refine⟨hn,sS B L R,fun x c=>?_,fun x c=>?_,fun x c hd=>?_⟩
 ·rcases lz c with h | h
  ·exact f.pos x h
  ·exact g.pos x h
 ·have a:∃ A,Fm A x:=by
   rcases lz c with h | h
   ·exact⟨L,f.form x h⟩
   ·exact⟨R,g.form x h⟩
  obtain ⟨A,a⟩:=a;refine⟨a.dim,a.cnt,fun s j=>?_,a.asc,a.sg,a.one⟩;have b:=uV hl c;unfold jc at b;rw[zk8] at b;have e:=b s j;cases hd:ab (fp B L R) s.cell with
  | none=>rw[hd] at e;simp at e
  | some d=>rw[hd] at e;simp at e;exact⟨d,I,e⟩
 ·have b:=uV i c;unfold jB at b;rw[zg2 hd,Bool.true_and] at b;simpa using b
theorem BU {B L R:List Cl}(d:Rt L)(e:Rt R)(hn:B.length+(L.length+R.length)≤4000)(h:(bL B L R).2=[]) :
  Rt (bL B L R).1∧∀ id,pickT B L R id=some (ab (bL B L R).1 id):=by
 have f:=og B L R;unfold bL at h ⊢;by_cases a:eI B L R=[]
 ·rw[zg3 (by simp[a])] at h ⊢;by_cases b:br (jc<|fp B L R) (fp B L R)=[]
  ·rw[zg3 (by simp[b])] at h ⊢;by_cases c:br (jB<|fp B L R) (fp B L R)=[]
   ·rw[zg3 (by simp[c]),zg3 oM];exact⟨EF d e b c oM,Cm a⟩
   ·rw[zg4 c] at h;exact absurd h c
  ·rw[zg4 b] at h;exact absurd h b
 ·rw[zg4 a] at h;exact absurd h a
theorem BW {B L R:List Cl}(hn:B.length+(L.length+R.length)≤4000)(h:(bL B L R).2≠[]):(bL B L R).1=[]:=by
 have d:=og B L R;unfold bL at h ⊢;split
 ·rfl
 ·rename_i a;rw[zg3 a] at h;split
  ·rfl
  ·rename_i b;rw[zg3 b] at h;split
   ·rfl
   ·rename_i c;rw[zg3 c,zg3 oM] at h;exact absurd I h
theorem s7 {B L R S:List Cl}(h:∀ id,pickT B L R id=some (ab S id))(id:Int) :
  ((ab L id=ab R id∨ab R id=ab B id)∧ab S id=ab L id)∨ab L id=ab B id∧ab S id=ab R id:=by
 have a:=h id;unfold pickT dL at a;split at a
 ·rename_i b;injection a with a
  exact .inl ⟨by simpa using b,a.symm⟩
 ·split at a
  ·rename_i b;injection a with a
   exact .inr ⟨by simpa using b,a.symm⟩
  ·cases a
theorem wM {B L R S:List Cl}(f:Rt S)(h:∀ id,pickT B L R id=some (ab S id)):bL B S L=(S,[])∧bL B R S=(S,[]):=by
 constructor
 ·refine xZ f (fun id=>?_)<|.inr<|.inl I;unfold pickT dL
  rcases s7 h id with ⟨_,b⟩ | ⟨c,_⟩
  ·rw[zg4 (by simp[b])]
  ·rw[zg4 (by simp[c])]
 ·refine xZ f (fun id=>?_)<|.inr<|.inr I;unfold pickT dL
  rcases s7 h id with ⟨c | c,b⟩ | ⟨_,b⟩
  ·rw[zg4 (by simp[b,c]),b,c]
  ·by_cases a:ab R id=ab S id
   ·rw[zg4 (by simp[a]),a]
   ·have d:ab S id≠ab B id:=fun e=>a<|c.trans e.symm;rw[zg3 (by simp[a,d]),zg4 (by simp[c])]
  ·rw[zg4 (by simp[b]),b]
def EI (A B:List Cl)(id:Int):Bool:=(ab (mE A B) id).isSome
theorem DY (A B:List Cl):(mE A B).Sublist A:=List.filter_sublist
section
variable {A B:List Cl}(hA:Rt A)(hB:Rt B)
include hA
include hB
end
def G5 (A B:List Cl):List Cl:=sortBy (fun c:Cl=>-c.dim) (A.filter fun c=>!EI A B c.id)
def newL (A B:List Cl):List Cl:=sortBy Cl.dim (B.filter fun c=>!EI A B c.id)
def FT (x:Cl):Ed:=⟨2,x.id,0,0,0,[],[]⟩
def Gl (x:Cl):Ed:=⟨1,x.id,x.dim,0,0,x.sides,[]⟩
def wD (A B:List Cl):List Ed:=(G5 A B).map FT++(newL A B).map Gl
def oz (ml:List (Int×Int))(q:am):List (Int×Int):=fE ml q.cell 1
def jR (tl:List Cl)(l:List am):List (Int×Int):=l.foldl (fun ml x=>(ay tl x).foldl oz ml) []
theorem rM (r:Int):∀ (l:List am) (b:List (Int×Int)),eW (l.foldl oz b) r=eW b r+((l.filter fun q=>decide (q.cell=r)).length:Int)
 | [],b=>by simp
 | q::l,b=>by
  rw[zj2,rM r l,oz,uO];by_cases h:r=q.cell
  ·rw[zg4 h,List.filter_cons_of_pos (by simpa using h.symm),zf2];omega
  ·rw[zg3 h,List.filter_cons_of_neg (by simpa using fun e:q.cell=r=>h e.symm)];omega
theorem CK (tl:List Cl)(l:List am)(r:Int):eW (jR tl l) r=(cntR tl l r:Int):=by
 have:∀ (l:List am) (a:List (Int×Int)),eW (l.foldl (fun ml x=>(ay tl x).foldl oz ml) a) r=eW a r+(cntR tl l r:Int):=by
  intro l;induction l with
  | nil=>intro a;simp[cntR]
  | cons x q ih =>
   intro a;rw[zj2,ih,rM];unfold cntR kM;rw[zg7,List.sum_cons];omega
 have h:=this l [];unfold jR;rw[h];show 0+_=_;omega
theorem AP {b ml:List (Int×Int)}(h:ml.map Prod.fst=b.map Prod.fst)(k x y:Int):(fE ml k y).map Prod.fst=(fE b k x).map Prod.fst:=by
 have c:∀ b:List (Int×Int),b.any (fun p=>decide (p.1=k))=(b.map Prod.fst).any (fun a=>decide (a=k)):=fun b=>by rw[List.any_map];rfl
 rw[o8,o8,c,c,h]
theorem uJ (tl:List Cl)(l:List am):(jR tl l).map Prod.fst=(fF tl l).map Prod.fst:=by
 have inner:∀ (x:am) (l:List am) (a ml:List (Int×Int)),ml.map Prod.fst=a.map Prod.fst→(l.foldl oz ml).map Prod.fst=(l.foldl (jQ x) a).map Prod.fst:=by
  intro x l;induction l with
  | nil=>intro _ _ h;exact h
  | cons q l ih=>intro a ml h;exact ih _ _<|AP h _ _ _
 have outer:∀ (l:List am) (a ml:List (Int×Int)),ml.map Prod.fst=a.map Prod.fst→(l.foldl (fun ml x=>(ay tl x).foldl oz ml) ml).map Prod.fst=(l.foldl (fun a x=>(ay tl x).foldl (jQ x) a) a).map Prod.fst:=by
  intro l;induction l with
  | nil=>intro _ _ h;exact h
  | cons x l ih=>intro a ml h;exact ih _ _<|inner x _ _ _ h
 exact outer l [] [] I
theorem zA:∀ {ml:List (Int×Int)} {k:Int},(∀ p∈ml,1≤p.2)→∀ p∈fE ml k 1,1≤p.2
 | [],k,_=>fun p hp=>by simp[fE] at hp;subst hp;exact Int.le_refl _
 | (a,z)::r,k,h=>by
  have b:=h (a,z) dO;have c:∀ p∈r,1≤p.2:=fun p hp=>h p<|List.mem_cons_of_mem _ hp;simp only[fE];split
  ·intro p hp
   rcases zf4.1 hp with rfl | hp
   ·dsimp only at b ⊢;omega
   ·exact c p hp
  ·intro p hp
   rcases zf4.1 hp with rfl | hp
   ·exact b
   ·exact zA c p hp
theorem D2 (tl:List Cl)(l:List am):∀ p∈jR tl l,1≤p.2:=by
 have inner:∀ (l:List am) (ml:List (Int×Int)),(∀ p∈ml,1≤p.2)→∀ p∈l.foldl oz ml,1≤p.2:=by
  intro l;induction l with
  | nil=>intro _ h;exact h
  | cons q l ih=>intro ml h;exact ih _<|zA h
 have outer:∀ (l:List am) (ml:List (Int×Int)),(∀ p∈ml,1≤p.2)→∀ p∈l.foldl (fun ml x=>(ay tl x).foldl oz ml) ml,1≤p.2:=by
  intro l;induction l with
  | nil=>intro _ h;exact h
  | cons x l ih=>intro ml h;exact ih _<|inner _ _ h
 exact outer l [] dO
theorem Al (tl:List Cl)(l:List am):((jR tl l).map Prod.fst).Nodup:=by rw[uJ];exact lc tl l
def mR (tl:List Cl)(l:List am):Bool:=(fF tl l).any fun p=>decide (p.2≠0)||decide (eW (jR tl l) p.1≠2)
theorem vn (tl:List Cl)(l:List am):mR tl l=false↔(∀ r,xU tl l r=0)∧∀ r,cntR tl l r=0∨cntR tl l r=2:=by
 have hz:=oE tl l;have hm:=CK tl l;have g:=uJ tl l;unfold mR;constructor
 ·intro h;rw[zk8] at h;refine⟨hz.1 (zk8.2 fun p hp=>?_),fun r=>?_⟩
  ·have:=h p hp;simp at this ⊢;exact this.1
  ·by_cases i:cntR tl l r=0
   ·exact .inl i
   ·have b:eW (jR tl l) r≠0:=by rw[hm];omega
    obtain ⟨q,hq,c,_⟩:=oS b;have d:r∈(fF tl l).map Prod.fst:=by rw[← g];exact zf5.2 ⟨q,hq,c⟩
    obtain ⟨p,hp,rfl⟩:=zf5.1 d;have a:=h p hp;simp at a;have e:=a.2;rw[hm] at e;right;omega
 ·rintro ⟨b,d⟩;rw[zk8];intro p hp;have a:=zk8.1 (hz.2 b) p hp;have e:p.1∈(jR tl l).map Prod.fst:=by rw[g];exact zf5.2 ⟨p,hp,I⟩
  obtain ⟨q,hq,f⟩:=zf5.1 e;have m:=D2 tl l q hq;have j:=nO (Al tl l) q hq;rw[f,hm] at j;have n:=d p.1;have k:eW (jR tl l) p.1=2:=by rw[hm];omega
  simp at a ⊢;exact⟨a,k⟩
def qH:List (Int×Int)→Int→Option Int
 | [],_=>none
 | (a,z)::r,k=>if k=a then some z else qH r k
theorem yR {k i:Int}(r:Int):∀ {F:List (Int×Int)},qH F k=none→qH (F++[(k,i)]) r=if r=k then some i else qH F r
 | [],_=>rfl
 | (a,z)::F,h=>by
  simp only[qH] at h;split at h
  ·cases h
  ·rename_i b;rw[List.cons_append];simp only[qH];by_cases hr:r=a
   ·rw[zg4 hr,zg3 oM];rw[zg4 hr]
   ·rw[zg3 hr,zg3 hr,yR r h]
structure zH (tl:List Cl)(l:List am)(J:List Int):Prop where
 len:J.length=l.length
 low:∀ (i:Nat) (v:Int),J[i]?=some v→0≤v∧v≤i
 link:∀ (i:Nat) (v:Int) (x y:am),J[i]?=some v→l[i]?=some x→l[v.toNat]?=some y→Cn (lg tl l) x.cell y.cell
def GY (tl:List Cl)(l:List am)(F:List (Int×Int)):Prop:=∀ r k,qH F r=some k→∃ n:Nat,k=n∧∃ x,l[n]?=some x∧0<kM tl x r
def wI (tl:List Cl)(l:List am)(F:List (Int×Int))(J:List Int)(m:Nat):Prop:=∀ (i:Nat) (x:am),i<m→l[i]?=some x→∀ q∈ay tl x,∃ n:Nat,qH F q.cell=some (n:Int)∧J[i]?=J[n]?
theorem th {tl:List Cl}{x:am}{r:Int}:0<kM tl x r↔∃ q∈ay tl x,q.cell=r:=by
 unfold kM;rw[List.length_pos_iff_exists_mem];constructor
 ·rintro ⟨q,hq⟩;obtain ⟨a,b⟩:=zh7.1 hq;exact⟨q,a,zg6 b⟩
 ·rintro ⟨q,a,b⟩;exact⟨q,zh7.2 ⟨a,zg2 b⟩⟩
theorem zH.start (tl:List Cl)(l:List am):zH tl l ((List.range l.length).map fun i:Nat=>(i:Int)):=by
 have hg:∀ (i:Nat) (v:Int),((List.range l.length).map fun i:Nat=>(i:Int))[i]?=some v→v=i:=fun i v h=>by
  rw[zi3] at h;by_cases a:i<l.length
  ·rw[List.getElem?_range a] at h;simp at h;exact h.symm
  ·rw[List.getElem?_eq_none (by simpa using a)] at h;cases h
 refine⟨by simp,fun i v h=>by rw[hg i v h];omega,fun i v x y h c b=>?_⟩;rw[hg i v h,Int.toNat_natCast,c] at b;cases b;exact .refl _
theorem wk {v a:Int}:∀ {J:List Int} {i:Nat},J[i]?=some a→(J.set i v).sum=J.sum+(v - a)
 | [],_,h=>by simp at h
 | b::J,0,h=>by
  simp at h;subst h;simp only[List.set_cons_zero,List.sum_cons];omega
 | b::J,i+1,h=>by
  have ih:=wk (J:=J) (i:=i) (v:=v) (a:=a) (by simpa using h);simp only[List.set_cons_succ,List.sum_cons];omega
theorem Bi {J:List Int}(h:∀ (i:Nat) (v:Int),J[i]?=some v→0≤v):0≤J.sum:=by
 induction J with
 | nil=>exact Int.le_refl _
 | cons a J ih =>
  have c:=h 0 a rfl;have d:=ih fun i v b=>h (i+1) v (by simpa using b);rw[List.sum_cons];omega
theorem zH.upd {tl:List Cl}{l:List am}{J:List Int}(h:zH tl l J){i k:Nat}{x y:am}{a b r:Int}(s:l[i]?=some x)(t:l[k]?=some y)(hr:0<kM tl x r)(z:0<kM tl y r)(m:J[i]?=some a)(hb:J[k]?=some b)(F:min a b<max a b) :
  zH tl l ((J.set i<|min a b).set k<|min a b)∧((J.set i<|min a b).set k<|min a b).sum<J.sum:=by
 have A:i≠k:=fun e=>by subst e;rw[m] at hb;cases hb;omega
 have B:i<J.length:=(zf8.1 m).1;have C:k<J.length:=(zf8.1 hb).1;have n:Cn (lg tl l) x.cell y.cell:=.one ⟨x,zg5 s,y,zg5 t,rfl,rfl,r,hr,z⟩;have G:=h.low i a m;have H:=h.low k b hb;have hm:min a b=a∨min a b=b:=oM;have d:∀ (j:Nat) (v:Int),((J.set i<|min a b).set k<|min a b)[j]?=some v→((j=i∨j=k)∧v=min a b)∨(j≠i∧j≠k∧J[j]?=some v):=fun j v c=>by
  by_cases g:j=k
  ·subst g;rw[List.getElem?_set_self (by rw[zi6];exact C)] at c;exact .inl ⟨.inr I,by injection c with c;exact c.symm⟩
  ·rw[List.getElem?_set_ne (fun e=>g e.symm)] at c;by_cases D:j=i
   ·subst D;rw[List.getElem?_set_self B] at c;exact .inl ⟨.inl I,by injection c with c;exact c.symm⟩
   ·rw[List.getElem?_set_ne (fun e=>D e.symm)] at c;exact .inr ⟨D,g,c⟩
 refine⟨⟨by rw[zi6,zi6];exact h.len,fun j v c=>?_,fun j v u w c o p=>?_⟩,?_⟩
 ·rcases d j v c with ⟨g | g,rfl⟩ | ⟨_,_,E⟩
  ·omega
  ·omega
  ·exact h.low j v E
 ·rcases d j v c with ⟨g,rfl⟩ | ⟨_,_,E⟩
  ·have f:Cn (lg tl l) x.cell w.cell∧Cn (lg tl l) y.cell w.cell:=by
    rcases hm with e | e
    ·rw[e] at p;have q:=h.link i a x w m s p;exact⟨q,n.symm.trans q⟩
    ·rw[e] at p;have q:=h.link k b y w hb t p;exact⟨n.trans q,q⟩
   rcases g with rfl | rfl
   ·rw[s] at o;cases o;exact f.1
   ·rw[t] at o;cases o;exact f.2
  ·exact h.link j v u w E o p
 ·rw[wk (a:=b) (by rw[List.getElem?_set_ne A];exact hb),wk m];omega
theorem CG {tl:List Cl}{l:List am}{F:List (Int×Int)}{J:List Int}(h:zH tl l J)(hF:wI tl l F J l.length)(hn:(l.map am.cell).Nodup) :
  J.any (fun v=>decide (v>0))=false↔∀ x∈l,∀ y∈l,Cn (lg tl l) x.cell y.cell:=by
 have g:∀ {i j:Nat} {x y:am},l[i]?=some x→l[j]?=some y→x.cell=y.cell→i=j:=fun {i j x y} k u e=>by
  have s:(l.map am.cell)[i]?=some x.cell:=by rw[zi3,k];rfl
  have C:(l.map am.cell)[j]?=some x.cell:=by rw[zi3,u,e];rfl
  obtain ⟨i1,Q⟩:=zf8.1 s;obtain ⟨R,S⟩:=zf8.1 C;have key:∀ {a b:Nat} (T:a<(l.map am.cell).length) (hb:b<(l.map am.cell).length),a<b→(l.map am.cell)[a]≠(l.map am.cell)[b]:=fun {a b} T hb D=>zd1.1 hn a b T hb D
  rcases Nat.lt_trichotomy i j with p | p | p
  ·exact absurd (Q.trans S.symm)<|key i1 R p
  ·exact p
  ·exact absurd (S.trans Q.symm)<|key R i1 p
 constructor
 ·intro E x G y H;rw[zk8] at E;obtain ⟨i,k,rfl⟩:=zc8 G;obtain ⟨j,u,rfl⟩:=zc8 H;have key:∀ (i:Nat) (k:i<l.length),J[i]?=some 0:=fun i k=>by
   have s:i<J.length:=by rw[h.len];exact k
   have C:=h.low i J[i] (List.getElem?_eq_getElem s);have p:=E J[i] (gM s);rw[List.getElem?_eq_getElem s];simp at p;exact ze5 some oM
  have o:0<l.length:=oM;have c1:=h.link i 0 l[i] l[0] (key i k) (List.getElem?_eq_getElem k) (List.getElem?_eq_getElem o);have c2:=h.link j 0 l[j] l[0] (key j u) (List.getElem?_eq_getElem u) (List.getElem?_eq_getElem o);exact c1.trans c2.symm
 ·intro z;have one:∀ {a b:Int},lg tl l a b→∃ (i j:Nat) (x y:am),l[i]?=some x∧l[j]?=some y∧x.cell=a∧y.cell=b∧J[i]?=J[j]?:=by
   rintro a b ⟨x,G,y,H,rfl,rfl,r,p,K⟩;obtain ⟨i,k,rfl⟩:=zc8 G;obtain ⟨j,u,rfl⟩:=zc8 H;obtain ⟨q,hq,L⟩:=th.1 p;obtain ⟨V,M,A⟩:=th.1 K;obtain ⟨n,U,W⟩:=hF i l[i] k (List.getElem?_eq_getElem k) q hq;obtain ⟨m,m1,m2⟩:=hF j l[j] u (List.getElem?_eq_getElem u) V M;rw[L] at U;rw[A,U] at m1;injection m1 with m1
   have N:n=m:=oM;subst N;exact⟨i,j,l[i],l[j],List.getElem?_eq_getElem k,List.getElem?_eq_getElem u,I,I,W.trans m2.symm⟩
  have key:∀ {a b:Int},Cn (lg tl l) a b→a=b∨∃ (i j:Nat) (x y:am),l[i]?=some x∧l[j]?=some y∧x.cell=a∧y.cell=b∧J[i]?=J[j]?:=by
   intro a b hc;induction hc with
   | refl _=>exact .inl rfl
   | @step a' b' c' e _ ih =>
    have s:∃ (i j:Nat) (x y:am),l[i]?=some x∧l[j]?=some y∧x.cell=a'∧y.cell=b'∧J[i]?=J[j]?:=by
     rcases e with e | e
     ·exact one e
     ·obtain ⟨i,j,x,y,a,b,c,d,f⟩:=one e;exact⟨j,i,y,x,b,a,d,c,f.symm⟩
    rcases ih with rfl | ⟨i2,X,x2,Y,a2,Z,c2,d2,f2⟩
    ·exact .inr s
    ·obtain ⟨i,j,x,y,a,b,c,d,f⟩:=s;have O:=g b a2<|d.trans c2.symm;subst O;exact .inr ⟨i,X,x,Y,a,Z,c,d2,f.trans f2⟩
  rw[zk8];intro v hv;obtain ⟨i,k,rfl⟩:=zc8 hv;have w:i<l.length:=by rw[← h.len];exact k
  have o:0<l.length:=oM;have B:0<J.length:=oM;have E:=h.low 0 J[0] (List.getElem?_eq_getElem B);have P:J[0]=0:=oM;have t:J[i]?=J[0]?:=by
   rcases key (z l[i] (gM w) l[0] (gM o)) with e | ⟨a,b,x,y,s,C,p,K,h5⟩
   ·rw[g (List.getElem?_eq_getElem w) (List.getElem?_eq_getElem o) e]
   ·have ea:=g s (List.getElem?_eq_getElem w) p;have eb:=g C (List.getElem?_eq_getElem o) K;subst ea eb;exact h5
  rw[List.getElem?_eq_getElem k,List.getElem?_eq_getElem B,P] at t;injection t with t
  rw[t];decide
theorem Cq {tl:List Cl}{c:Cl}{F:List (Int×Int)}{J:List Int}(i:0<c.sides.length)(hn:(c.sides.map am.cell).Nodup)(hb:mR tl c.sides=false)(h:zH tl c.sides J)(hF:wI tl c.sides F J c.sides.length) :
  J.any (fun v=>decide (v>0))=decide (bC tl c≠0):=by
 have a:=kI (tl:=tl) i hn;have b:=(vn tl c.sides).1 hb;have d:=CG h hF hn;cases f:J.any (fun v=>decide (v>0)) with
 | false=>exact (zg1<|Decidable.not_not.2<|a.2 ⟨b.1,b.2,d.1 f⟩).symm
 | true =>
  have j:bC tl c≠0:=fun e=>by
   have g:=d.2 (a.1 e).2.2;rw[f] at g;cases g
  exact (zg2 j).symm
theorem DS {tl:List Cl}{c:Cl}(b:0<c.sides.length)(hn:(c.sides.map am.cell).Nodup)(hb:mR tl c.sides=true):bC tl c≠0:=fun e=>by
 have a:=(kI (tl:=tl) b hn).1 e;rw[(vn tl c.sides).2 ⟨a.1,a.2.1⟩] at hb;cases hb
section
variable {W:List Cl}(hW:Rt W){p q:Int→Bool}(hp:sJ W p)(hq:sJ W q)(hc:∀ c∈W,(p c.id||q c.id)=true)
include hW hp hq hc
end
structure Grown (A:List Cl)(lo:Int)(m:Nat)(G:List Cl):Prop where
 rt:Rt G
 more:∃ N,G=A++N∧N.length≤m∧∀ n∈N,lo≤n.id∧n.id<lo+m
end Go.Proofs.YtdepcjnaieflmaaGreatDoor
namespace Go.Sy
open Go
section
variable {P:Program}{b:Frame}{a:Act}{k:List Item}{cs:List Frame}{w:World}{Q:Exit→Act→World→Prop}
theorem ff {c:Code}:step P (lone (b.atR a<|.code (.scope c)::k) cs w) = .next (lone (b.atR a<|.code c :: .inScope c::k) cs w) :=
 step_lone_go (by simp[stepG,stepG.exec,Frame.atR])
theorem qN {c:Code}:step P (lone (b.atR a<|.inScope c::k) cs w) = .next (lone (b.atR a k) cs w) :=
 step_lone_go (by simp[stepG,stepG.exec,Frame.atR])
theorem wJ {F:Fence}{n:Nat}{c:Code}(h:c.wpIn F n P (Exit.noGoto Q) a w):(Code.scope c).wpIn F n P Q a w:=by
 intro b k cs j hb hr;have f:(lone (b.atR a<|.code (.scope c)::k) cs w).fenced P F:=fenced_calm hb hr rfl;obtain ⟨e,g,i,hq,d⟩:=h b (.inScope c::k) cs j hb hr;cases e with
 | normal=>exact⟨.normal,g,i,hq,.head f ff<|StepsIn.trans d<|.one (fenced_calm hb hr rfl) qN⟩
 | exit id =>
  have p:exitTo id (.inScope c::k)=exitTo id k:=by simp[exitTo]
  exact⟨.exit id,g,i,hq,fun q m=>.head f ff (d.1 q (by rw[p];exact m)),
   fun o m=>let ⟨k₁,r,s⟩:=d.2 o (by rw[p];exact m);⟨k₁,r,.head f ff s⟩⟩
 | goto l=>exact hq.elim
 | ret=>exact⟨_,g,i,hq,.of_steps (.one f ff) d⟩
 | panic ch=>exact⟨_,g,i,hq,.of_steps (.one f ff) d⟩
 | outgrown=>exact⟨_,g,i,hq,.of_steps (.one f ff) d⟩
end
section
variable {P:Program}{M:Md}{N:Nat}{E:World}{Q:Exit→Act→World→Prop}{f:Fr}{g:PH}{s:Own}
theorem XC.scope {c:Code}(h:XC P M N E c (Exit.noGoto Q) f g s):XC P M N E (.scope c) Q f g s:=fun a w b d=>wJ (h a w b d)
theorem XT.scopeR (h:XT M N E Q .ret f g s):XT M N E (Exit.noGoto Q) .ret f g s:=h
end
def EU (P:Program)(E:World)(gf:FuncId)(lb:List Value){α:Type}(encs:α→List Value)(T:List α→α→Prop)(R:List α→Prop)(g0:PH):Prop :=
 ∀ (l:Nat) (ι:Type) (G:ι→PH) (S:ι→Own) (J:List α→ι→Prop) (i0:ι),J [] i0→(∀ pre i,J pre i→Le g0 (G i))→(∀ pre i g',J pre i→Le (G i) g'→∃ i',J pre i'∧G i'=g'∧S i'=S i) →
  (∀ pre x i sx,T pre x→J pre i→wG P E l (encs x).toArray (G i) (S i++sx) (fun v g' s'=>v = .bool true∧∃ j,J (pre++[x]) j∧Le (G i) (G j)∧g'=G j∧s'=S j++sx)) →
  ∀ sx,Ctr P E gf (.func (.yield l) #[] #[]::lb).toArray (G i0) (S i0++sx) (fun _ g' s'=>∃ xs j,R xs∧J xs j∧g'=G j∧s'=S j++sx)
section
variable {P:Program}{M:Md}{N:Nat}{E:World}{Q:Exit→Act→World→Prop}{f:Fr}{g:PH}{s:Own}{dst:Option Tmp}{ty:TypeId}{pos:String}{af:Array Edge}{gd:Option (Nat×Bool)}
theorem XC.rangeFuncP {α ι κ:Type}{A:Operand}{ps:Array Tmp}{assign body:Code}{B:FuncId}{C:List Value}{encs:α→List Value}{T:List α→α→Prop}{R:List α→Prop}{g0:PH}(G:ι→PH)(S:ι→Own)(J:List α→ι→Prop)(i0:ι)(c:Own)(fa:α→Fr)(fb:List α→α→ι→κ→Fr)(X:α→κ→Own)
  (b1:M.ro=none) (hg:ev f A=some (.func (.func B) #[] C.toArray)) (eg:∀ args w,(callFunc B args).run P w = .ok (.enter B args) w) (b2:∀ x,(encs x).length=ps.size)
  (hG:G i0=g) (hS:S i0++c=s) (a0:EU P E B C encs T R g0) (F:∀ pre i,J pre i→Le g0 (G i)) (b3:∀ pre i g',J pre i→Le (G i) g'→∃ i',J pre i'∧G i'=g'∧S i'=S i) (h0:J [] i0)
  (b4:∀ x a,Ok N f (jH a)→Ok N (fa x) { tmps:=(ps.zip (encs x).toArray).foldl (fun t (p,v)=>t.setIfInBounds p v) a.tmps,defers:=[] })
  (o:∀ l pre x i z,J pre i→XC P ⟨some l,[]⟩ N E assign (nb (N:=N) E (G i) (S i++z) (fb pre x i)<|X x) (fa x) (G i) (S i++z))
  (H:∀ l pre x i z q,(∃ (r:Loop) (k:Nat),z[k]?=some (pt l<|.loop r))→T pre x→J pre i→XC P ⟨some l,[]⟩ N E body (o9 E G S J pre x (G i) z) (fb pre x i q) (G i) (X x q++(S i++z)))
  (K:∀ D xs j,R xs→J xs j→XT ⟨none,⟨.collected D,#[]⟩::M.ds⟩ N E Q .normal f (G j) (pt D (.deferred<|some [])::(S j++c))):XC P M N E (.rangeFunc A ps assign body) Q f g s:=by
 subst hG hS;intro a w ha hw;rw[b1];refine wpIn_rangeFunc ?_;intro fn _;obtain ⟨rec,b⟩:∃ rec:LoopState→Option Code→Loop,rec=fun st pe=>{ state:=st,pending:=pe,fn,tmps:=a.tmps,params:=ps,assign,body,defers:=w.heap.size }:=⟨_,rfl⟩;obtain ⟨L,hL⟩:∃ L,L=w.heap.size+1:=⟨_,rfl⟩;obtain ⟨D,hD⟩:∃ D,D=w.heap.size:=⟨_,rfl⟩;obtain ⟨W1,a4⟩:∃ W1,(w.alloc<|.deferred<|some []).alloc (.loop<|rec .ready none)=W1:=⟨_,rfl⟩;have hA:At E (G i0) (pt L (.loop<|rec .ready none)::pt D (.deferred<|some [])::(S i0++c)) W1:=by
  rw[← a4,hL,hD];have O:At E (G i0) (pt w.heap.size (.deferred<|some [])::(S i0++c)) (w.alloc<|.deferred<|some []):=hw.alloc (e:=pt w.heap.size<|.deferred<|some []) rfl rfl;have U:=O.alloc (e:=pt (w.alloc<|.deferred<|some []).heap.size<|.loop<|rec .ready none) rfl rfl;rw[World.size_alloc] at U;exact U
 obtain ⟨S2,y⟩:∃ S2:ι→Own,S2=fun i=>S i++(pt L (.loop<|rec .ready none)::pt D (.deferred<|some [])::c):=⟨_,rfl⟩;have b5:At E (G i0) (S2 i0++[]) W1:=by
  rw[y,zc7];dsimp only;refine hA.perm ?_;have O:(pt L (.loop<|rec .ready none)::pt D (.deferred<|some [])::(S i0++c))=[pt L<|.loop<|rec .ready none,pt D<|.deferred<|some []]++(S i0++c):=rfl;have U:S i0++(pt L (.loop<|rec .ready none)::pt D (.deferred<|some [])::c)=S i0++([pt L<|.loop<|rec .ready none,pt D<|.deferred<|some []]++c):=rfl;rw[O,U,← zh2,← zh2];exact List.perm_append_comm.append_right _
 refine⟨L,[{ target:=.collected D,args:=#[] }],W1,{ target:=.fn (.func B) C.toArray,args:=#[.func (.yield L) #[] #[]] },W1,B,(.func (.yield L) #[] #[]::C).toArray,W1,?_,?_,fun _ _=>trivial,?_,fun h=>(by cases h),?_⟩
 ·rw[← a4,b,hL,hD];exact run_enterLoop_outer _ _ _ _ _
 ·have O:a.eval A = .func (.func B) #[] C.toArray:=ha.ev hg;simp only[resolve,O];simp[go_sem]
 ·have:(#[.func (.yield L) #[] #[]]++C.toArray:Array Value)=(.func (.yield L) #[] #[]::C).toArray:=by simp
  simp[invoke,go_sem,eg]
 ·refine (callsIn_wide (n:=0 - 1)).2<|(a0 L ι G S2 J i0 h0 F (fun pre i g' hJ hl=>by obtain ⟨i',a1,a2,a3⟩:=b3 pre i g' hJ hl;exact⟨i',a1,a2,by rw[y];dsimp only;rw[a3]⟩) ?_ [] W1 b5).mono ?_
  ·intro pre x i z b6 hJ W hW;rw[y] at hW;simp only[zh2,List.cons_append] at hW;have c3:(S i).length=(S i).length:=rfl;have gl:∀ (i:ι) (u d:Ent) (r:Own),(S i++u::d::r)[(S i).length]?=some u:=fun i u d r=>by simp
   have hl:=hW.here<|gl i _ _ _;have hy:=run_yield (P:=P) (args:=(encs x).toArray) hl (by rw[b];simpa using b2 x);rw[b] at hy;refine⟨fn,_,assign,body,hy,roundIn_of_wpIn trivial ?_⟩;refine Code.wpIn_mono (fun e a1 w1 O=>?_)<|o L pre x i _ hJ { tmps:=(ps.zip (encs x).toArray).foldl (fun t (p,v)=>t.setIfInBounds p v) a.tmps,defers:=[] } W ⟨I,b4 x a ha.2⟩ hW;obtain ⟨rfl,q,b7,a5⟩:=O;have glX:∀ (X:Own) (i:ι) (u d:Ent) (r:Own),(X++(S i++u::d::r))[X.length+(S i).length]?=some u:=fun X i u d r=>by rw[zh6 oM,Nat.add_sub_cancel_left];exact gl i u d r
   have b8:=a5.here<|glX _ i _ _ _;refine⟨_,run_beginRound b8 (by rw[b]),?_⟩;have m:∀ (i:ι) (u d v:Ent) (r:Own),(S i++u::d::r).set (S i).length v=S i++v::d::r:=fun i u d v r=>by simp
   have V:∀ (X:Own) (i:ι) (u d v:Ent) (r:Own),(X++(S i++u::d::r)).set (X.length+(S i).length) v=X++(S i++v::d::r):=fun X i u d v r=>by rw[List.set_append_right _ _ oM,Nat.add_sub_cancel_left,m]
   have a9:=a5.obj (o':=.loop { rec .ready none with state:=.busy })<|glX _ i _ _ _;rw[V] at a9;refine Code.wpIn_mono (fun e a3 w3 h3=>?_)<|H L pre x i _ q ⟨_,0,I⟩ b6 hJ a1 _ b7 a9;obtain ⟨rfl,j,b0,b9,c0⟩:=h3;have c1:=b0.here<|gl j _ _ _;have he:=run_endRound (P:=P) none c1;have Y:=b0.obj (o':=.loop { (rec .ready none) with state:=.ready,pending:=none })<|gl j _ _ _;rw[m] at Y;refine⟨_,_,he,.bool true,G j,S2 j++z,I,?_,I,j,b9,c0,I,I⟩;rw[y];simp only[zh2,List.cons_append];rw[b] at Y ⊢;exact Y
  ·rintro e W2 ⟨v,g',s',rfl,Z,xs,j,hR,hJ,rfl,rfl⟩;rw[y,zc7] at Z;have gl:∀ (i:ι) (u d:Ent) (r:Own),(S i++u::d::r)[(S i).length]?=some u:=fun i u d r=>by simp
   have hl:=Z.here<|gl j _ _ _;have he:=run_endLoop (P:=P) hl (by rw[b];simp);have U:=Z.obj (o':=.loop { (rec .ready none) with state:=.exhausted })<|gl j _ _ _;have m:∀ (i:ι) (u d v:Ent) (r:Own),(S i++u::d::r).set (S i).length v=S i++v::d::r:=fun i u d v r=>by simp
   rw[m] at U;have c2:(rec .ready none).pending=none:=by rw[b]
   refine⟨none,_,he.trans<|ze5 (fun p=>Result.ok p _) c2,?_⟩;refine K D xs j hR hJ _ _ ⟨by rw[← ha.1];rfl,ha.2⟩ ?_;have h3:=(U.sublist (s':=S j++pt D (.deferred<|some [])::c)<|by exact (zc4 _).append<|zj4 _ _).perm List.perm_middle;exact h3
end
section
variable {P:Program}{M:Md}{N:Nat}{E:World}{Q:Exit→Act→World→Prop}{f:Fr}{g:PH}{s:Own}{ops:Array Oper}{b:Nat}{o:Obj}
theorem XL.freeze {l:List Oper}(h:∀ g',Le g g'→g' b=some o→XL P M N E ops Q l f g' s):XL P M N E ops Q l f g (pt b o::s):=fun a w e c=>by
 have d:=c.own (pt b o) dO;simp only[pt,Option.bind_some] at d;obtain ⟨i,j⟩:=c.freeze (b:=b) rfl d;exact h _ j (fh _ _ _) a w e i
theorem XC.freeze {c:Code}(h:∀ g',Le g g'→g' b=some o→XC P M N E c Q f g' s):XC P M N E c Q f g (pt b o::s):=fun a w i d=>by
 have e:=d.own (pt b o) dO;simp only[pt,Option.bind_some] at e;obtain ⟨j,k⟩:=d.freeze (b:=b) rfl e;exact h _ k (fh _ _ _) a w i j
end
section
variable {P:Program}{M:Md}{N:Nat}{E:World}{ops:Array Oper}{Q:Exit→Act→World→Prop}{g0:PH}{s0:Own}{tail:List Nat}{f:Fr}{g:PH}{s s':Own}{L:Array Bool}{n:Nat}
theorem XC.drawX {id:Nat}(tail:List Nat)(hm:P.follows .mixedOrders=true)(c:Region.noSelect ops=true)(i:ot ops=true)(h:SX P N E ops (Qx M.ds Q) g s tail (Array.replicate ops.size false) ops.size f g s):XC P M N E (.region id ops true) Q f g s:=by
 intro a w j k;have l:a=ext M.ds (jH a):=by
  obtain ⟨t,d⟩:=a;have hd:d=M.ds:=j.1;subst hd;simp[ext,jH]
 rw[l];exact wpIn_region_any hm<|jF i (fun e b w h=>h) _ _ _ _<|i4 _ _ _ _ (S:=At E g s) (tail:=tail)<|h (jH a) { w with drawn:=w.drawn+1 } c (jr _) j.2 (k.drew _<|Nat.le_succ _) (fun _=>k.drew _<|Nat.le_succ _)
theorem SX.br4 (i j m p:Nat)(hr:Region.ready .any ops L=[i,j,m,p])(h:SB P N E ops Q g0 s0 tail L n i f g s)(r:SB P N E ops Q g0 s0 tail L n j f g s)(t:SB P N E ops Q g0 s0 tail L n m f g s)(u:SB P N E ops Q g0 s0 tail L n p f g s):SX P N E ops Q g0 s0 tail L (n+1) f g s:=by
 intro a w e b l o hb;refine⟨fun q=>(by rw[hr] at q;cases q),fun k d=>?_⟩;have c:=d;rw[hr] at c;simp only[zf4,zi1,List.not_mem_nil,or_false] at c
 rcases c with rfl | rfl | rfl | rfl
 ·exact h a w e b d l o hb
 ·exact r a w e b d l o hb
 ·exact t a w e b d l o hb
 ·exact u a w e b d l o hb
end
end Go.Sy
namespace Go.Proofs.YtdepcjnaieflmaaGreatDoor
open _root_.Go.Proofs.Tryz _root_.Go.Proofs.YtdepcjnaieflmaaGreatDoor.Tryz
open Go Go.Sy Go.Pl Go.Proofs
set_option maxRecDepth 100000
set_option maxHeartbeats 4000000
theorem Tryz.mty65:MTy Tryz.prog 65 3 37 (.agg #[vi 0,vi 0,.slice none 0 0]):=⟨underlying65,underlying3,zl8⟩
theorem Tryz.sty121:STy Tryz.prog 121 65 1 8 (.map none):=⟨underlying121,⟨t65,by kernel_rfl,by kernel_rfl,by kernel_rfl,by kernel_rfl⟩,rfl,by decide⟩
theorem Tryz.sty119:STy Tryz.prog 119 29 1 24 (.agg #[.slice none 0 0]):=⟨underlying119,⟨t29,by kernel_rfl,by kernel_rfl,by kernel_rfl,by kernel_rfl⟩,rfl,by decide⟩
def l5 (g:PH)(v:Value)(l:List Cl):Prop:=∃ m rs,v = .map (some m)∧Mp g m (rs.map ap)∧ax (ak g) l rs
theorem l5.mono {g g':PH}{v:Value}{l:List Cl}(h:l5 g v l)(hl:Le g g'):l5 g' v l:=by
 obtain ⟨m,rs,a,b,c⟩:=h;exact⟨m,rs,a,b.mono hl,c.mono fun _ _=>ak.mono hl⟩
theorem SU.eqBB {P:Program}{N:Nat}{f:Fr}{dst:Option Tmp}{ty:TypeId}{pos:String}{af:Array Edge}{gd:Option (Nat×Bool)}{x y:Operand}{T U:TypeId}{a b:Bool}(d:P.underlying T=some .bool)(e:ev f x=some (vb a))(g:ev f y=some (vb b)) :
  SU P N ⟨dst,.binOp .eql T x y U,ty,pos,af,gd⟩ f (vb<|a == b):=fun ac w c=>by
 have hg:(eqGuard .eql T x y (.bool a)<|.bool b).run P w = .ok () w:=by simp[eqGuard]
 have hb:=run_eql_bool (P:=P) w T a b d;simp only[execOp,c.ev e,c.ev g,Sem.run_bind,hg,zd2,hb];rfl
theorem Gr (E:World)(g:PH)(s:Own)(v:Value)(l:List Cl)(a:ai g v l)(b:aK l) :
  Ctr Tryz.prog E 81 #[.agg #[v]] g s (fun r g' s'=>r=vb (decide ((aq l).2≠0))∧g=g'∧s=s'):=by
 obtain ⟨q,d,rfl⟩:=a.form;refine zb2 (args:=[.agg #[.slice q l.length d]]) func81 I ntmps81 (bE I)<|rZ (bW (bO I) fun c=>?_);refine aT I<|rZ<|lK (qV 0 aj ag I I I)<|lW (SO.call call17 I<|kH E g _ _ l a b) ?_;rintro _ _ _ ⟨rfl,rfl,rfl⟩;exact lM I<|yX I<|yX I<|lA I<|aT I<|sW I<|lU (nQ I I)<|aT I<|rE<|dR (s':=s) uR<|za8 (.inl I) results81 I ⟨I,I,I⟩
theorem Aq (E:World)(g:PH)(s:Own)(v:Value)(Ls:List (List Cl))(a:List Sv)(j:SlA dS g v a)(x:ax (fun l sv=>ai g (.slice sv.p sv.n sv.c) l) Ls a)(z:∀ l∈Ls,aK l)(hl:Ls.length<1099511627776) :
  Ctr Tryz.prog E 131 #[v,.func (.func 81) #[] #[]] g s (fun r g' s'=>(∃ n:Int,r=vi n∧decide (n≥0)=Ls.any fun l=>decide ((aq l).2≠0))∧g=g'∧s=s'):=by
 have y:=x.length;obtain ⟨p,c,rfl⟩:=za4 j;refine zb2 (args:=[.slice p a.length c,.func (.func 81) #[] #[]]) func131 I ntmps131 (bE I)<|rZ<|aT I<|sQ<|sW I<|lU (eN underlying119 I)<|lM I<|tZ<|bK<|oP (ι:=Nat) (fun k=>[(0,.slice p a.length c),(1,.func (.func 81) #[] #[]),(7,vi a.length),(8,vi k)]) (fun _=>g) (fun _=>s) (fun k=>k≤Ls.length∧(Ls.take k).any (fun l=>decide ((aq l).2≠0))=false) (fun k=>Ls.length - k) 0
  sB rfl rfl ⟨zf9 _,by simp⟩ ?_
 rintro k ⟨A,e⟩;refine rZ<|yL I<|tZ<|sQ<|iP I (fun m=>?_) (fun m=>?_)
 ·have f:k<a.length:=oM;have b:k<Ls.length:=oM;have o:=za6 j oM;have t:a[((k:Nat):Int).toNat]?=some a[k]:=List.getElem?_eq_getElem f;have u:=x.get (List.getElem?_eq_getElem b)<|List.getElem?_eq_getElem f;generalize a[k]=sv at *;obtain ⟨q,n,d⟩:=sv;refine kP<|tN<|sQ<|bK<|sW I<|aT I<|sW I<|lM I<|lM I<|lU (iA underlying119 ag I I o oM sL)<|lK (SQ.elemA aj ag I (za7 j) t)<|lW (SO.callV I I<|cz.mk (cap:=[]) call81<|Gr E g _ _ Ls[k] u (z _<|gM b)) ?_;rintro _ _ _ ⟨rfl,rfl,rfl⟩;refine tZ<|iQ I (fun hq=>?_) (fun hq=>?_)
  ·refine sW I<|aT I<|rE<|bR<|tR<|tR<|bR<|tR ?_;have i:Ls.any (fun l=>decide ((aq l).2≠0))=true:=zk2.2 ⟨Ls[k],gM b,hq⟩;exact za8 (.inl I) results131 I ⟨⟨k,I,by rw[i];simp⟩,I,I⟩
  ·exact kP<|bN<|tN<|rG<|yD I<|lM I<|SL.nil<|ST.again (k+1) sB I I ⟨oM,by rw[tS b,List.any_append,e];simpa using hq⟩ oM
 ·refine xI<|tX<|tX<|bX<|tN<|rZ<|aT I<|rE ?_;have w:Ls.take k=Ls:=tL oM;rw[w] at e;exact za8 (.inl I) results131 I ⟨⟨-1,I,by rw[e];rfl⟩,rfl,rfl⟩
theorem T6 (E:World)(g:PH)(s:Own)(v:Value)(Ls:List (List Cl))(a:List Sv)(b:SlA dS g v a)(d:ax (fun l sv=>ai g (.slice sv.p sv.n sv.c) l) Ls a)(e:∀ l∈Ls,aK l)(hl:Ls.length<1099511627776) :
  Ctr Tryz.prog E 80 #[v,.func (.func 81) #[] #[]] g s (fun r g' s'=>r=vb (Ls.any fun l=>decide ((aq l).2≠0))∧g=g'∧s=s'):=by
 refine zb2 (args:=[v,.func (.func 81) #[] #[]]) func80 I ntmps80 (bE I)<|rZ<|aT I<|sW I<|lM I<|lW (SO.call call131 I<|Aq E g _ v Ls a b d e hl) ?_;rintro _ _ _ ⟨⟨n,rfl,hn⟩,rfl,rfl⟩;exact lU (gQ I I)<|aT I<|rE<|za8 (.inl I) results80 I ⟨by rw[hn],I,I⟩
theorem pG (E:World)(g:PH)(s:Own)(v:Value)(Ls:List (List Cl))(a:List Sv)(d:SlA dS g v a)(e:ax (fun l sv=>ai g (.slice sv.p sv.n sv.c) l) Ls a)(f:∀ l∈Ls,aK l)(hl:Ls.length<1099511627776)(hr:∀ l∈Ls,(aq l).2=0) :
  Ctr Tryz.prog E 25 #[v] g s (fun r g' s'=>r=vb true∧g=g'∧s=s'):=by
 have b:Ls.any (fun l=>decide ((aq l).2≠0))=false:=zk8.2 fun l hl=>by simp[hr l hl]
 refine zb2 (args:=[v]) func25 I ntmps25 (bE I)<|rZ<|aT I<|sW I<|lW (SO.call call80 I<|T6 E g _ v Ls a d e f hl) ?_;rintro _ _ _ ⟨rfl,rfl,rfl⟩;rw[b];exact lU (SU.not I)<|aT I<|rE<|za8 (.inl I) results25 I ⟨I,I,I⟩
theorem eF (E:World)(g:PH)(s:Own)(v:Value)(l:List Cl)(L:ai g v l)(M:aK l)(f:((aa l).map Cl.id).Nodup) :
  Ctr Tryz.prog E 26 #[.agg #[v]] g s (fun r g' s'=>s=s'∧Le g g'∧l5 g' r (aa l)):=by
 have y:=aB M;obtain ⟨pv,z,rfl⟩:=L.form;refine zb2 (args:=[.agg #[.slice pv l.length z]]) func26 I ntmps26 (bE I)<|rZ (bW (bO I) fun N=>?_);refine aT I<|rZ<|lW (SO.mkMap) ?_;rintro _ _ _ ⟨t,rfl,rfl,rfl⟩;refine aT I<|sQ<|rZ<|lK (qV 1 aj ag I I I)<|lW (SO.call call34 I<|e8 E g _ _ l L M) ?_;rintro _ g1 _ ⟨rfl,j,u,rfl,hc⟩;obtain ⟨rs,e,a⟩:=hc;obtain ⟨q,d,rfl⟩:=za4 e;refine lU (SU.field dj I ef I I)<|lU (eN aC I)<|lM I<|tZ<|bK ?_;generalize aa l=A at *;have O:=a.length;have P:=y.1;have m:rs.map Rc.id=A.map Cl.id:=by
  refine List.ext_getElem? fun i=>?_;rw[zi3,zi3];by_cases w:i<A.length
  ·have n:i<rs.length:=oM;rw[List.getElem?_eq_getElem w,List.getElem?_eq_getElem n];exact ze5 some (a.get (List.getElem?_eq_getElem w)<|List.getElem?_eq_getElem n).1
  ·rw[List.getElem?_eq_none oM,List.getElem?_eq_none oM];rfl
 rw[← m] at f;refine oP (ι:=Nat) (fun i=>[(3,.map<|some t),(9,.slice q rs.length d),(10,vi rs.length),(11,vi i)]) (fun _=>g1)
  (fun i=>mp t ((rs.take i).map ap)::pt N (bY #[.slice pv l.length z] 29)::s)
  (fun i=>i≤rs.length) (fun i=>rs.length - i) 0 sB rfl rfl (zf9 _) ?_
 rintro k W;refine rZ<|yL I<|tZ<|sQ<|iP I (fun B=>?_) (fun B=>?_)
 ·have o:k<rs.length:=oM;have C:=za6 e oM;have D:rs[((k:Nat):Int).toNat]?=some rs[k]:=List.getElem?_eq_getElem o;have F:rs.take (k+1)=rs.take k++[rs[k]]:=tS o;have p:∀ x∈rs.take k,x.id≠rs[k].id:=fun x Q=>by
   obtain ⟨i,w,rfl⟩:=zc8 Q;have G:i<k:=by rw[ze7] at w;omega
   rw[List.getElem_take];have R:=zd1.1 (List.nodup_iff_pairwise_ne.1 f) i k (by rw[ze9];omega) (by rw[ze9];omega) G;simpa only[List.getElem_map] using R
  have b:=kK rs[k] (rs.take k);rw[jU p,← F] at b;generalize rs[k]=x at *;obtain ⟨H,S,T,U,V⟩:=x;refine kP<|tN<|sQ<|bK<|rZ<|lU (iA aC ar I I C oM (show (k:Int)<((rs.length:Nat):Int) by omega)) ?_;refine lK (SQ.elemA dn ar I (za7 e) D) (bW (aL zl8) fun X=>?_);refine oZ (sK 0 ar I I I I I sB) ?_;refine tZ<|rG<|lM I<|lU (fA ao I zT3 I)<|lK (qL (v:=vi H) iT3 I<|cO 0 I I)<|lK (qV 0 dn ar I I I)<|lO (SO.mapUpdate 1 mty65 I I I I) ?_;rintro _ _ _ ⟨rfl,rfl⟩;refine SL.nil<|bN<|tN<|rG<|yD I<|lM I<|SL.nil<|dR (s':=mp t (gy ((rs.take k).map ap) H<|rcv ⟨H,S,⟨T,U,V⟩⟩)::pt N (bY #[.slice pv l.length z] 29)::s) (.cons _<|.refl _) ?_;rw[b];exact ST.again (k+1) sB I I oM oM
 ·have J:rs.take k=rs:=tL oM;rw[J];refine xI (tX<|tX<|bX<|tN<|sW I<|aT I<|rE<|ST.freezeMap fun g2 c K=>?_);exact dR (s':=s) uR<|za8 (.inl I) results26 I ⟨I,j.trans c,t,rs,I,K,a.mono fun _ _=>ak.mono c⟩
theorem xP {A B:List Cl}{id:Int}:dL A B id=((ab A id).isSome == (ab B id).isSome&&decide (((ab A id).getD aA).dim=((ab B id).getD aA).dim)&&decide (((ab A id).getD aA).sides=((ab B id).getD aA).sides)):=by
 unfold dL;cases a:ab A id with
 | none =>
  cases hb:ab B id with
  | none=>simp
  | some d=>simp
 | some c =>
  cases hb:ab B id with
  | none=>simp
  | some d =>
   have b:=(aH a).2;have e:=(aH hb).2;rw[Bool.eq_iff_iff];simp[AV,b,e]
theorem bn (E:World)(g:PH)(s:Own)(v u:Value)(A B:List Cl)(id:Int)(N:l5 g v A)(O:l5 g u B)(hA:aK A) :
  Ctr Tryz.prog E 28 #[v,u,vi id] g s (fun r g' s'=>r=vb (dL A B id)∧g=g'∧s=s'):=by
 obtain ⟨m,rs,rfl,hm,d⟩:=N;obtain ⟨m2,o,rfl,p,a⟩:=O;obtain ⟨⟨P,Q,q,t,w⟩,x,e,-,f,i⟩:=dG d ib id;obtain ⟨⟨R,S,y,z,yc⟩,C,j,-,k,l⟩:=dG a ib id;have D:=xP (A:=A) (B:=B) (id:=id);have F:((ab A id).getD aA).sides.length<1099511627776:=by
  cases h:ab A id with
  | none=>simp[aA]
  | some c=>exact hA.2 c (aH h).1
 have G:(eu (rs.map ap) id).isSome=(ab A id).isSome:=e;have H:(eu (o.map ap) id).isSome=(ab B id).isSome:=j;have J:Q=((ab A id).getD aA).dim:=f;have K:S=((ab B id).getD aA).dim:=k;have L:SlA encSide g (.slice q t w) ((ab A id).getD aA).sides:=i;have M:SlA encSide g (.slice y z yc) ((ab B id).getD aA).sides:=l;rw[D];clear e f i j k l;generalize (ab A id).isSome=a1 at *;generalize (ab B id).isSome=b1 at *;generalize (ab A id).getD aA=X at *;generalize (ab B id).getD aA=Y at *;subst J K;refine zb2 (args:=[.map<|some m,.map<|some m2,vi id]) func28 I ntmps28 (bE I)<|rZ<|aT I<|sW I<|lM I<|lK (SQ.eq (v':=.tuple #[.agg #[vi P,vi X.dim,.slice q t w],vb a1]) (SQ.lookupOk mty65 I I<|bh.known hm) (by rw[x,G];rfl)) ?_;refine lM I (yX I<|yX I<|bW (aL zl8) fun T=>?_);refine oZ (sK 0 ar I I I I I sB)<|aT I<|sW I<|lM I<|lK (SQ.eq (v':=.tuple #[.agg #[vi R,vi Y.dim,.slice y z yc],vb b1]) (SQ.lookupOk mty65 I I<|bh.known p) (by rw[C,H];rfl)) ?_;refine lM I (yX I<|yX I<|bW (aL zl8) fun U=>?_);refine oZ (sK 0 ar I I I I I sB)<|aT I ?_
 rcases Bool.eq_false_or_eq_true (a1 == b1) with b | b
 ·rcases Bool.eq_false_or_eq_true (decide (X.dim=Y.dim)) with n | n
  ·refine sW I<|lM I<|lU (SU.eq (v':=vb true) (SU.eqBB uT4 I I)<|ze5 vb b)<|lM I<|lY I I I (fA ao I zT3 I)<|SL.gq (gT I I I dC) (qL (v:=vi X.dim) iT3 I<|cO 1 I I) dC<|lY I I I (fA ao I zT3 I)<|SL.gq (gT I I I dC) (qL (v:=vi Y.dim) iT3 I<|cO 0 I I) dC<|lY I I I (SU.eq (v':=vb true) (eQ I I)<|ze5 vb n)<|yP I<|lM I<|lY I I I (fA ao I aI I)<|SL.gq (gT I I I dC) (qL (v:=.slice q t w) bi I<|cO 1 I I) dC<|lY I I I (fA ao I aI I)<|SL.gq (gT I I I dC) (qL (v:=.slice y z yc) bi I<|cO 0 I I) dC<|ze4 (gT I I I dC) (SO.call call85 I<|rW E g _ _ _ X.sides Y.sides L M F) dC ?_;rintro _ _ _ ⟨rfl,rfl,rfl⟩;exact yP I<|aT I<|rE<|dR (s':=s) uR<|za8 (.inl I) results28 I ⟨by rw[b,n];rfl,rfl,rfl⟩
  ·exact sW I<|lM I<|lU (SU.eq (v':=vb true) (SU.eqBB uT4 I I)<|ze5 vb b)<|lM I<|lY I I I (fA ao I zT3 I)<|SL.gq (gT I I I dC) (qL (v:=vi X.dim) iT3 I<|cO 1 I I) dC<|lY I I I (fA ao I zT3 I)<|SL.gq (gT I I I dC) (qL (v:=vi Y.dim) iT3 I<|cO 0 I I) dC<|lY I I I (SU.eq (v':=vb false) (eQ I I)<|ze5 vb n)<|yP I<|lM I<|yA I<|yA I<|yA I<|yA I<|yA I<|yF I<|aT I<|rE<|dR (s':=s) uR<|za8 (.inl I) results28 I ⟨by rw[b,n];rfl,rfl,rfl⟩
 ·exact sW I<|lM I<|lU (SU.eq (v':=vb false) (SU.eqBB uT4 I I)<|ze5 vb b)<|lM I<|yA I<|yA I<|yA I<|yA I<|yA I<|yF I<|lM I<|yA I<|yA I<|yA I<|yA I<|yA I<|yF I<|aT I<|rE<|dR (s':=s) uR<|za8 (.inl I) results28 I ⟨by rw[b];rfl,rfl,rfl⟩
end Go.Proofs.YtdepcjnaieflmaaGreatDoor
