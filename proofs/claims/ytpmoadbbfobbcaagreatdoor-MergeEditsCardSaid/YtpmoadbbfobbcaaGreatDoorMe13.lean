/- 13 -/
import Derived.Test.YtpmoadbbfobbcaaGreatDoorMe12
set_option linter.unusedSimpArgs false
set_option linter.unusedVariables false
namespace Go.Proofs.YtpmoadbbfobbcaaGreatDoor
open _root_.Go.Proofs.Tryz _root_.Go.Proofs.YtpmoadbbfobbcaaGreatDoor.Tryz
open Go Go.Sy Go.Pl Go.Proofs
set_option maxRecDepth 100000
set_option maxHeartbeats 8000000
def bD (l:List Cl)(e:Ed):Int:=match findC l e.cell with
 | none=>30
 | some c=>if c.dim≠1 then 21 else if e.new<1∨e.other<1∨e.new=e.other then 1 else if (findC l e.new).isSome||(findC l e.other).isSome then 54 else 0
def eW (e:Ed)(l:List ak):List ak:=(l.filter fun x=>decide<|x.cell=e.cell).map fun x=>⟨e.other,x.sign⟩
theorem Bf {e:Ed}{l:List ak}{k:Nat}(a:k<l.length):eW e (l.take<|k+1)=if l[k].cell=e.cell then eW e (l.take k)++[⟨e.other,l[k].sign⟩] else eW e (l.take k):=by
 unfold eW;rw[tS a,zh7,zg6];by_cases h:l[k].cell=e.cell
 ·rw[zg2 h];simp[h]
 ·rw[zg1 h];simp[h]
def bQ (e:Ed)(a:Int)(y:Cl):Cl:=if y.id=e.cell then ⟨y.id,y.dim,[⟨a,-1⟩,⟨e.new,1⟩]⟩ else ⟨y.id,y.dim,y.sides++eW e y.sides⟩
def dZ (l:List Cl)(e:Ed):List Cl:=[⟨e.new,0,[]⟩,⟨e.other,1,[⟨e.new,-1⟩,⟨(lh ((findC l e.cell).getD aJ).sides true).cell,1⟩]⟩]++l.map (bQ e (lh ((findC l e.cell).getD aJ).sides false).cell)
def dG (e:Ed):List Tm:=if e.other<e.cell then [(e.other,1),(e.cell,1)] else [(e.cell,1),(e.other,1)]
variable (E:World)(g:PH)(s:Own)
theorem uL (v ev:Value)(l:List Cl)(e:Ed)(hv:ai g v l)(hf:aM l)(he:EdR g ev e)(q4:l.length≤100000)(l4:∀ c∈l,c.sides.length≤64)
  (c1:∀ c,findC l e.cell=some c→c.dim=1→∃ z0 z1,c.sides=[z0,z1]∧((z0.sign=1∧z1.sign = -1)∨(z0.sign = -1∧z1.sign=1))) :
  Ctr Tryz.prog E 116 #[.agg #[v],ev] g s fun r g' s'=>s=s'∧Le g g'∧FV (bD l e) (if bD l e=0 then dZ l e else l) (((am l).map gW).map<|dx e.cell<|dG e) false r g':=by
 obtain ⟨sv,pv,rfl,m1,m2⟩:=he;obtain ⟨sp,sc,rfl⟩:=za4 m1;obtain ⟨pq,pc,rfl⟩:=za4 m2;have e9:=hv;obtain ⟨p,c,rfl⟩:=hv.form;refine zb2 (args:=[.agg #[.slice p l.length c],.agg #[vi e.kind,vi e.cell,vi e.dim,vi e.new,vi e.other,.slice sp e.sides.length sc,.slice pq e.pairs.length pc]]) func116 I ntmps116 (bE I) ?_;cases G:findC l e.cell with
 | none =>
  have f:bD l e=30:=by unfold bD;rw[G]
  rw[f];refine rZ (bW (bO I) fun b2=>?_);refine bW (bO I) fun b3=>bW (aL zl9) fun b4=>bW (aL zl4) fun b5=>aT I<|rZ<|lK (qV 3 aj ae I I I)<|lU (bj aO I zT3 I)<|lK (qL iT3 I<|cO 2 I I)<|lW (bt call42 I<|aK E g _ _ l e.cell hv hf) ?_;rintro _ g1 _ ⟨rfl,a,⟨yi,yd,yp,yn,yc⟩,rfl,T⟩;rw[G];refine lM I (yX I<|yX I<|bW (aL zl6) fun b7=>?_);exact oZ (sK 0 ar I I I I I sB)<|aT I<|sQ<|bK<|sW I<|lU (oF I)<|aT I<|za2 I<|rZ<|lK (qV 4 aj ae I I I)<|lU (za3 I buildZ74)<|oZ (sK 2 ae I I I I I sB)<|oZ (sK 1 bZ I I I I I sB)<|aT I<|rE<|bR<|tR<|oR 2 1 s (.inl I) results116 I I I aj ae gX bZ I I I I uR ⟨I,a,_,_,_,_,I,e9.mono a,fun h=>by cases h⟩
 | some c0 =>
 refine rZ (bW (bO I) fun b2=>?_);refine bW (bO I) fun b3=>bW (aL zl9) fun b4=>bW (aL zl4) fun b5=>aT I<|rZ<|lK (qV 3 aj ae I I I)<|lU (bj aO I zT3 I)<|lK (qL iT3 I<|cO 2 I I)<|lW (bt call42 I<|aK E g _ _ l e.cell hv hf) ?_;rintro _ g1 _ ⟨rfl,a,⟨yi,yd,yp,yn,yc⟩,rfl,T⟩;rw[G] at T ⊢;obtain ⟨m3,f7,c2⟩:=T;dsimp only[Option.getD] at m3 f7 c2;have m4:yn=c0.sides.length:=zc2 c2;subst m4;subst f7;have A:=e9.mono a;refine lM I (yX I<|yX I<|bW (aL zl6) fun b7=>?_);refine oZ (sK 0 ar I I I I I sB)<|aT I<|sQ<|bK<|sW I<|lU (oF I)<|aT I<|za1 I<|rZ<|lU (bj ap I zT3 I)<|lK (qL iT3 I<|cO 0 I I)<|lU (nQ I I)<|aT I<|iP I (fun hd=>?_) (fun hd=>?_)
 ·have f:bD l e=21:=by unfold bD;rw[G];exact zg2 hd
  rw[f];exact rZ<|lK (qV 4 aj ae I I I)<|lU (za3 I buildZ74)<|oZ (sK 2 ae I I I I I sB)<|oZ (sK 1 bZ I I I I I sB)<|aT I<|rE<|bR<|tR<|oR 2 1 s (.inl I) results116 I I I aj ae gX bZ I I I I uR ⟨I,a,_,_,_,_,I,A,fun h=>by cases h⟩
 have n0:c0.dim=1:=Decidable.not_not.1 hd;have c3:(e.new<1∨e.other<1∨e.new=e.other)→bD l e=1:=fun h=>by
  unfold bD;rw[G];show (if c0.dim≠1 then (21:Int) else if e.new<1∨e.other<1∨e.new=e.other then 1 else _)=1;rw[zg1 hd,zg2 h]
 by_cases U:e.new<1
 ·rw[c3<|.inl U];exact rZ<|lU (bj aO I zT3 I)<|lK (qL (v:=vi e.new) iT3 I<|cO 3 I I)<|lU (SU.eq (v':=vb true) (lS I I)<|ze3 vb<|zf9 U)<|lM I<|yA I<|yA I<|yA I<|yP I<|lM I<|yA I<|yA I<|yA I<|yA I<|yA I<|yP I<|aT I<|za2 I<|rZ<|lK (qV 4 aj ae I I I)<|lU (za3 I buildZ74)<|oZ (sK 2 ae I I I I I sB)<|oZ (sK 1 bZ I I I I I sB)<|aT I<|rE<|bR<|tR<|oR 2 1 s (.inl I) results116 I I I aj ae gX bZ I I I I uR ⟨I,a,_,_,_,_,I,A,fun h=>by cases h⟩
 by_cases a2:e.other<1
 ·rw[c3<|.inr<|.inl a2];exact rZ<|lU (bj aO I zT3 I)<|lK (qL (v:=vi e.new) iT3 I<|cO 3 I I)<|lU (SU.eq (v':=vb false) (lS I I)<|ze3 vb<|zf8 U)<|lM I<|lY I I I (bj aO I zT3 I)<|lR (gT I I I dC) (qL (v:=vi e.other) iT3 I<|cO 3 I I) dC<|lY I I I (SU.eq (v':=vb true) (lS I I)<|ze3 vb<|zf9 a2)<|yF I<|lM I<|yA I<|yA I<|yA I<|yA I<|yA I<|yP I<|aT I<|za2 I<|rZ<|lK (qV 4 aj ae I I I)<|lU (za3 I buildZ74)<|oZ (sK 2 ae I I I I I sB)<|oZ (sK 1 bZ I I I I I sB)<|aT I<|rE<|bR<|tR<|oR 2 1 s (.inl I) results116 I I I aj ae gX bZ I I I I uR ⟨I,a,_,_,_,_,I,A,fun h=>by cases h⟩
 refine rZ<|lU (bj aO I zT3 I)<|lK (qL (v:=vi e.new) iT3 I<|cO 3 I I)<|lU (SU.eq (v':=vb false) (lS I I)<|ze3 vb<|zf8 U)<|lM I<|lY I I I (bj aO I zT3 I)<|lR (gT I I I dC) (qL (v:=vi e.other) iT3 I<|cO 3 I I) dC<|lY I I I (SU.eq (v':=vb false) (lS I I)<|ze3 vb<|zf8 a2)<|yF I<|lM I<|lY I I I (bj aO I zT3 I)<|lR (gT I I I dC) (qL (v:=vi e.new) iT3 I<|cO 3 I I) dC<|lY I I I (bj aO I zT3 I)<|lR (gT I I I dC) (qL (v:=vi e.other) iT3 I<|cO 3 I I) dC<|lY I I I (eQ I I)<|yF I<|aT I<|iP I (fun c4=>?_) (fun c4=>?_)
 ·rw[c3<|.inr<|.inr c4];exact rZ<|lK (qV 4 aj ae I I I)<|lU (za3 I buildZ74)<|oZ (sK 2 ae I I I I I sB)<|oZ (sK 1 bZ I I I I I sB)<|aT I<|rE<|bR<|tR<|oR 2 1 s (.inl I) results116 I I I aj ae gX bZ I I I I uR ⟨I,a,_,_,_,_,I,A,fun h=>by cases h⟩
 have f:bD l e=if (findC l e.new).isSome||(findC l e.other).isSome then 54 else 0:=by
  unfold bD;rw[G];show (if c0.dim≠1 then (21:Int) else if e.new<1∨e.other<1∨e.new=e.other then 1 else if (findC l e.new).isSome||(findC l e.other).isSome then 54 else 0)=_;rw[zg1 hd,zg1 fun h=>h.elim U fun h=>h.elim a2 c4]
 rw[f];cases f8:(findC l e.new).isSome with
 | true =>
  have e54:(if (true||(findC l e.other).isSome)=true then (54:Int) else 0)=54:=rfl;rw[e54];refine rZ<|lK (qV 4 aj ae I I I)<|lU (bj aO I zT3 I)<|lK (qL (v:=vi e.new) iT3 I<|cO 3 I I)<|lW (bt call177 I<|dB E g1 _ _ l e.new A hf) ?_;rintro _ g2 _ ⟨rfl,rfl,m⟩;rw[f8];exact lM I<|yA I<|yA I<|yA I<|yA I<|yP I<|aT I<|za2 I<|rZ<|lK (qV 4 aj ae I I I)<|lU (za3 I buildZ74)<|oZ (sK 2 ae I I I I I sB)<|oZ (sK 1 bZ I I I I I sB)<|aT I<|rE<|bR<|tR<|oR 2 1 s (.inl I) results116 I I I aj ae gX bZ I I I I uR ⟨I,a.trans m,_,_,_,_,I,A.mono m,fun h=>by cases h⟩
 | false =>
 rw[Bool.false_or];refine rZ<|lK (qV 4 aj ae I I I)<|lU (bj aO I zT3 I)<|lK (qL (v:=vi e.new) iT3 I<|cO 3 I I)<|lW (bt call177 I<|dB E g1 _ _ l e.new A hf) ?_;rintro _ g2 _ ⟨rfl,rfl,m⟩;rw[f8];refine lM I<|lR (gT I I I dC) (qV 4 aj ae I I I) dC<|lY I I I (bj aO I zT3 I)<|lR (gT I I I dC) (qL (v:=vi e.other) iT3 I<|cO 3 I I) dC<|IQ (gT I I I dC) (bt call177 I<|dB E g2 _ _ l e.other (A.mono m) hf) dC ?_;rintro _ g3 _ ⟨rfl,rfl,V⟩;refine yF I<|aT I<|iQ I (fun c5=>?_) (fun c5=>?_)
 ·rw[zg2 c5];exact rZ<|lK (qV 4 aj ae I I I)<|lU (za3 I buildZ74)<|oZ (sK 2 ae I I I I I sB)<|oZ (sK 1 bZ I I I I I sB)<|aT I<|rE<|bR<|tR<|oR 2 1 s (.inl I) results116 I I I aj ae gX bZ I I I I uR ⟨I,a.trans<|m.trans V,_,_,_,_,I,A.mono<|m.trans V,fun h=>by cases h⟩
 rw[zg1<|by rw[c5];exact Bool.false_ne_true];have M:=m.trans V;have c6:=a.trans M;have h2:=A.mono M;have C:=za5 c2 M;obtain ⟨z0,z1,hz,n1⟩:=c1 c0 G n0;have h3:dZ l e=[⟨e.new,0,[]⟩,⟨e.other,1,[⟨e.new,-1⟩,⟨(lh c0.sides true).cell,1⟩]⟩]++l.map (bQ e (lh c0.sides false).cell):=by unfold dZ;rw[G];rfl
 rw[zg2 rfl,h3];have r0:c0.sides.length=2:=by rw[hz];rfl
 have B:=za6 C oM;have c7:c0.sides[((0:Int)).toNat]?=some z0:=by rw[hz];rfl
 have h4:c0.sides[((1:Int)).toNat]?=some z1:=by rw[hz];rfl
 have N:(0<z0.sign→(lh c0.sides true).cell=z0.cell∧(lh c0.sides false).cell=z1.cell)∧(¬ 0<z0.sign→(lh c0.sides true).cell=z1.cell∧(lh c0.sides false).cell=z0.cell):=by
  rw[hz]
  rcases n1 with ⟨h0,h1⟩ | ⟨h0,h1⟩
  ·exact⟨fun _=>by simp[lh,h0,h1],fun h=>absurd oM h⟩
  ·exact⟨fun h=>absurd h oM,fun _=>by simp[lh,h0,h1]⟩
 generalize (lh c0.sides true).cell=zb at *;generalize (lh c0.sides false).cell=za at *;obtain ⟨h5,n2⟩:=z0;obtain ⟨h6,r1⟩:=z1;dsimp only at N;refine kP<|bN<|tN<|rZ<|lU (bj ap I aI I)<|lK (qL (v:=.slice yp c0.sides.length yc) bg I<|cO 0 I I)<|lU (iA aW aV I I B oM sL)<|lU (fC dh I zT3 I B)<|lK (aZ (e:=encSide) (o:=0) (u:=vi h5) iT3 I (za7 C) c7 I)<|aT I<|rZ<|lU (bj ap I aI I)<|lK (qL (v:=.slice yp c0.sides.length yc) bg I<|cO 0 I I)<|lU (iA aW aV I I B oM sL)<|lU (fC dh I zT3 I B)<|lK (aZ (e:=encSide) (o:=0) (u:=vi h6) iT3 I (za7 C) h4 I)<|aT I<|lu (ι:=Unit) (fun _=>[(2,pp b2 0),(3,pp b3 0),(4,pp b4 0),(5,pp b5 0),(9,vi za),(10,vi zb)]) (fun _=>g3)
  (fun _=>pt b7 (bY #[vi yi,vi c0.dim,.slice yp c0.sides.length yc] 61)::pt b5 (bY #[.slice none 0 0,vb false] 74)::pt b4 (bY #[.slice none 0 0] 29)::pt b3 (.cells (edV e (.slice sp e.sides.length sc)<|.slice pq e.pairs.length pc) 48 (0,0))::pt b2 (bY #[.slice p l.length c] 29)::s) (fun _=>True) ?_ ?_
 ·refine rZ<|lU (bj ap I aI I)<|lK (qL (v:=.slice yp c0.sides.length yc) bg I<|cO 0 I I)<|lU (iA aW aV I I B oM sL)<|lU (fC dh I zT3 I B)<|lK (aZ (e:=encSide) (o:=1) (u:=vi n2) iT3 I (za7 C) c7 I)<|lU (gR I I)<|tZ<|iP I (fun c9=>?_) (fun c9=>?_)
  ·obtain ⟨k1,k2⟩:=N.1 c9;exact rZ<|lU (bj ap I aI I)<|lK (qL (v:=.slice yp c0.sides.length yc) bg I<|cO 0 I I)<|lU (iA aW aV I I B oM sL)<|lU (fC dh I zT3 I B)<|lK (aZ (e:=encSide) (o:=0) (u:=vi h6) iT3 I (za7 C) h4 I)<|aT I<|rG<|lU (bj ap I aI I)<|lK (qL (v:=.slice yp c0.sides.length yc) bg I<|cO 0 I I)<|lU (iA aW aV I I B oM sL)<|lU (fC dh I zT3 I B)<|lK (aZ (e:=encSide) (o:=0) (u:=vi h5) iT3 I (za7 C) c7 I)<|lA I<|cp<|za9 () ⟨I,I,I,I,(by rw[k2];rfl),(by rw[k1];rfl),trivial⟩ rfl rfl trivial
  ·obtain ⟨k1,k2⟩:=N.2 c9;exact kP<|za9 () ⟨I,I,I,I,(by rw[k2];rfl),(by rw[k1];rfl),trivial⟩ rfl rfl trivial
 rintro _ -;try dsimp only
 refine rZ<|lU (bj aO I zT3 I)<|lK (qL (v:=vi e.new) iT3 I<|cO 3 I I)<|lU (za3 I<|buildI61 _)<|lU (bj aO I zT3 I)<|lK (qL (v:=vi e.other) iT3 I<|cO 3 I I)<|lU (bj aO I zT3 I)<|lK (qL (v:=vi e.new) iT3 I<|cO 3 I I)<|lU (za3 I<|buildS87 _ _)<|lM I<|lU (za3 I<|buildS87 _ _)<|lW (bS sty45 I I I (ab sB) dC) ?_;rintro _ _ _ ⟨W,rfl,rfl,rfl⟩;refine zb5 fun g4 b0 n3=>?_;have n4:SlA encSide g4 (.slice (some ⟨W,0,none⟩) 2 2) [⟨e.new,-1⟩,⟨zb,1⟩]:=kb n3 rfl rfl;refine lU (za3 I<|buildF61 _ _ _ I)<|lW (bS sty27 I I I (ab sB) dC) ?_;rintro _ _ _ ⟨h7,rfl,rfl,rfl⟩;refine SL.to (fun w hw=>Ig (e:=encCell) (l:=[⟨e.new,0,⟨none,0,0⟩⟩,⟨e.other,1,⟨some ⟨W,0,none⟩,2,2⟩⟩]) (n:=1) hw I I dC) ?_;refine lU (za3 I<|build29 _ I) (bW (aL zl9) fun R=>?_);refine oZ (sK 0 ae I I I I I sB)<|tZ<|sQ<|rZ<|aT I<|bK ?_;have n5:=h2.mono b0;obtain ⟨rs,h8,b1⟩:=n5;have r2:=b1.length;refine oP (ι:=Nat×PH×Option Addr×Nat×List Rc) (fun i=>[(2,pp b2 0),(3,pp b3 0),(4,pp b4 0),(5,pp b5 0),(9,vi za),(11,pp R 0),(12,vi i.1)]) (fun i=>i.2.1)
  (fun i=>pt R (bY #[.slice i.2.2.1 i.2.2.2.2.length i.2.2.2.1] 29)::rowA encCell 61 (.slice i.2.2.1 i.2.2.2.2.length i.2.2.2.1) i.2.2.2.2::pt b7 (bY #[vi yi,vi c0.dim,.slice yp c0.sides.length yc] 61)::pt b5 (bY #[.slice none 0 0,vb false] 74)::pt b4 (bY #[.slice none 0 0] 29)::pt b3 (.cells (edV e (.slice sp e.sides.length sc)<|.slice pq e.pairs.length pc) 48 (0,0))::pt b2 (bY #[.slice p l.length c] 29)::s)
  (fun i=>i.1≤l.length∧Le g4 i.2.1∧ay (an i.2.1) (([⟨e.new,0,[]⟩,⟨e.other,1,[⟨e.new,-1⟩,⟨zb,1⟩]⟩]:List Cl)++(l.take i.1).map (bQ e za)) i.2.2.2.2) (fun i=>l.length - i.1) (0,g4,some ⟨h7,0,none⟩,2,[⟨e.new,0,⟨none,0,0⟩⟩,⟨e.other,1,⟨some ⟨W,0,none⟩,2,2⟩⟩])
  sB rfl rfl ⟨zf7 _,zb9 _,by dsimp only;rw[List.take_zero];exact⟨⟨I,I,zc1 _ _⟩,⟨I,I,n4⟩,trivial⟩⟩ ?_
 rintro ⟨k,g5,q5,d5,acc⟩ ⟨hk,H,D⟩;dsimp only at hk H D ⊢;have n6:=D.length;simp only[ze6,ze9,zc5,ze7,ze5] at n6;refine sQ<|sW I<|lU (bj dw I cg I)<|lK (qL (v:=.slice p l.length c) ei I<|cO 6 I I)<|lU (eN aB I)<|yL I<|tZ<|iP I (fun n7=>?_) (fun n7=>?_)
 ·have d0:k<l.length:=oM;have h9:k<rs.length:=oM;have n8:=za6 h8 oM;have T:=an.mono H<|b1.get (bd d0)<|bd h9;have o1:rs[((k:Nat):Int).toNat]?=some rs[k]:=bd h9;have a3:=pj (bQ e za) d0;have r3:=l4 _<|gM d0;generalize rs[k]=x at *;generalize l[k]=cx at *;obtain ⟨xi,xd,xp,xn,xc⟩:=x;obtain ⟨f1,f2,X⟩:=T;dsimp only at f1 f2 X;subst f1 f2;have o2:xn=cx.sides.length:=zc2 X;subst o2;refine kP (tN<|sQ<|bK<|rZ<|lU (bj dw I cg I)<|lK (qL (v:=.slice p l.length c) ei I<|cO 6 I I)<|lM I<|lU (iA aB ar I I n8 oM sL)<|lK (iN dT ar I (za7<|za5 h8 H) o1)<|bW (aL zl6) fun i0=>?_);refine oZ (sK 0 ar I I I I I sB)<|tZ<|rZ<|lW (bS sty45 I I I (ab trivial) dC) ?_;rintro _ _ _ ⟨q1,rfl,rfl,rfl⟩;refine JD (zj2 _ _)<|lU (bj ap I aI I)<|lK (qL (v:=.slice xp cx.sides.length xc) bg I<|cO 0 I I)<|lW (Jq (e:=encSide) sty45 I I X oM oM) ?_;rintro v121 _ _ ⟨rfl,rfl⟩;refine zd4 fun ⟨w0,b⟩=>?_;obtain ⟨q6,d6,rfl⟩:=ag (e:=encSide) (l:=cx.sides) (i:=0) b rfl;clear b w0;refine lU (bj ap rfl aI rfl)<|oZ (oi 1 aI rfl rfl rfl rfl (bE rfl)<|by rfl) ?_;refine tZ<|rZ<|lU (bj ap I aI I)<|lK (qL (v:=.slice q6 cx.sides.length d6) bg I<|cO 1 I I)<|lU (eN aW I)<|aT I<|sQ<|rZ<|aT I<|bK ?_;have i1:eW e (cx.sides.take 0)=[]:=rfl;refine oP (ι:=Nat×Option Addr×Nat) (fun i=>[(2,pp b2 0),(3,pp b3 0),(4,pp b4 0),(5,pp b5 0),(9,vi za),(11,pp R 0),(12,vi k),(13,pp i0 0),(14,vi cx.sides.length),(15,vi i.1)]) (fun _=>g5)
   (fun i=>rowA encSide 87 (.slice i.2.1 (cx.sides++eW e (cx.sides.take i.1)).length i.2.2) (cx.sides++eW e (cx.sides.take i.1))::pt i0 (bY #[vi cx.id,vi cx.dim,.slice i.2.1 (cx.sides++eW e (cx.sides.take i.1)).length i.2.2] 61)::pt R (bY #[.slice q5 acc.length d5] 29)::rowA encCell 61 (.slice q5 acc.length d5) acc::pt b7 (bY #[vi yi,vi c0.dim,.slice yp c0.sides.length yc] 61)::pt b5 (bY #[.slice none 0 0,vb false] 74)::pt b4 (bY #[.slice none 0 0] 29)::pt b3 (.cells (edV e (.slice sp e.sides.length sc)<|.slice pq e.pairs.length pc) 48 (0,0))::pt b2 (bY #[.slice p l.length c] 29)::s)
   (fun i=>i.1≤cx.sides.length) (fun i=>cx.sides.length - i.1) (0,q6,d6) sB rfl (by dsimp only;rw[i1,zc7];rfl) (zf7 _) ?_
  rintro ⟨j,q7,d7⟩ hj;dsimp only at hj ⊢;refine sQ<|sW I<|lM I<|yL I<|tZ<|iP I (fun i2=>?_) (fun i2=>?_)
  ·have d1:j<cx.sides.length:=oM;have q:=Bf (e:=e) d1;have q2:(eW e<|cx.sides.take j).length≤64:=by
    unfold eW;rw[ze7];have:=zc6 (fun x:ak=>decide<|x.cell=e.cell)<|cx.sides.take j;rw[ze5] at this;omega
   have i3:(cx.sides++eW e (cx.sides.take j))[((j:Nat):Int).toNat]?=some cx.sides[j]:=by
    show (cx.sides++eW e (cx.sides.take j))[j]?=_;rw[zh3 d1];exact bd d1
   generalize cx.sides[j]=z at *;obtain ⟨zc,zs⟩:=z;dsimp only at q;refine IT fun ⟨w0,b⟩=>?_;obtain ⟨bb,cc,j0⟩:=bI (i:=0) b rfl (by rw[ze6];omega);clear b w0;have S:based (.slice q7 (cx.sides++eW e (cx.sides.take j)).length d7)=true:=by rw[j0];rfl
   clear j0;have p0:(cx.sides++eW e (cx.sides.take j)).length=cx.sides.length+(eW e<|cx.sides.take j).length:=ze6;refine kP<|tN<|sQ<|bK<|sQ<|dW [] [(0,2),(1,1),(2,2),(3,2),(4,2),(5,1),(6,2),(7,1),(8,2)] ze4 kR<|pU I (bj ap I aI I)<|gB I (qL (v:=.slice q7 (cx.sides++eW e (cx.sides.take j)).length d7) bg I<|cO 1 I I)<|yM I<|pU I (iA aW aV I I S oM sL)<|pU I (fC dh I zT3 I S)<|gB I (aZ (e:=encSide) (o:=0) (u:=vi zc) iT3 I (zb7 0 I) i3 I)<|pU I (bj aO I zT3 I)<|gB I (qL (v:=vi e.cell) iT3 I<|cO 7 I I)<|pU I (eQ I I)<|du<|tN<|iP I (fun d2=>?_) (fun d2=>?_)
   ·rw[zg2 d2] at q;have a4:cx.sides++eW e (cx.sides.take<|j+1)=(cx.sides++eW e (cx.sides.take j))++[⟨e.other,zs⟩]:=by rw[q,zg9]
    generalize cx.sides++eW e (cx.sides.take j)=L at *;refine dW [12,14] [(0,2),(1,1),(2,2),(3,1),(4,2),(5,1),(6,2),(7,2),(8,2),(9,1),(10,2),(11,0),(12,0),(13,2),(14,0)] ze4 kR<|pU I (bj ap I aI I)<|gB I (qL (v:=.slice q7 L.length d7) bg I<|cO 1 I I)<|pU I (bj aO I zT3 I)<|gB I (qL (v:=vi e.other) iT3 I<|cO 7 I I)<|pU I (bj ap I aI I)<|gB I (qL (v:=.slice q7 L.length d7) bg I<|cO 1 I I)<|yM I<|pU I (iA aW aV I I S oM sL)<|pU I (fC dh I zT3 I S)<|gB I (aZ (e:=encSide) (o:=1) (u:=vi zs) iT3 I (zb7 0 I) i3 I)<|pU I (za3 I<|buildS87 _ _)<|mf I (bS sty45 I I I (ab ⟨I,trivial⟩) dC) dC (.inr iR) ?_;rintro _ _ _ ⟨q3,rfl,rfl,rfl⟩;refine mf I (aP (e:=encSide) 0 ⟨e.other,zs⟩ sty45 I I I I I oM oM) dC (.inl dC) ?_;rintro v152 _ _ ⟨rfl,rfl⟩;refine zd3 fun ⟨w0,b⟩=>?_;obtain ⟨q8,d8,rfl⟩:=ag (e:=encSide) (l:=L++[(⟨e.other,zs⟩:ak)]) (i:=0) b rfl;clear b w0;refine pU rfl (bj ap rfl aI rfl)<|H8 rfl (oi 1 aI rfl rfl rfl rfl (bE rfl)<|by rfl) (.inl dC) ?_;rintro _ _ _ ⟨rfl,rfl⟩;refine du<|bN<|tN<|rG<|lM I<|yD I<|lA I<|cp ?_;exact ct (j+1,q8,d8) sB I (by dsimp only;rw[a4];rfl) (by dsimp only;omega) (by dsimp only;omega)
   ·rw[zg1 d2] at q;exact kP<|bN<|tN<|rG<|lM I<|yD I<|lA I<|cp<|ct (j+1,q7,d7) sB I (by dsimp only;rw[q]) (by dsimp only;omega) (by dsimp only;omega)
  ·have p1:cx.sides.take j=cx.sides:=tL oM;rw[p1];refine xI (tX<|tX<|bX<|tN<|sQ<|sQ<|fS fun g6 t d3=>?_);refine rG<|lU (bj ap I zT3 I)<|lK (qL (v:=vi cx.id) iT3 I<|cO 0 I I)<|lU (bj aO I zT3 I)<|lK (qL (v:=vi e.cell) iT3 I<|cO 6 I I)<|yE I<|tZ ?_;have Y:=H.trans t;refine iP I (fun d4=>?_) (fun d4=>?_)
   ·have e0:bQ e za cx=⟨cx.id,cx.dim,[⟨za,-1⟩,⟨e.new,1⟩]⟩:=zg2 d4;rw[e0] at a3;refine rG<|lM I<|lU (za3 I<|buildS87 _ _)<|lU (bj aO I zT3 I)<|lK (qL (v:=vi e.new) iT3 I<|cO 6 I I)<|lU (za3 I<|buildS87 _ _)<|lW (bS sty45 I I I (ab sB) dC) ?_;rintro _ _ _ ⟨P,rfl,rfl,rfl⟩;refine zb5 fun g7 Q S=>?_;have p2:SlA encSide g7 (.slice (some ⟨P,0,none⟩) 2 2) [⟨za,-1⟩,⟨e.new,1⟩]:=kb S rfl rfl;refine lU (bj ap rfl aI rfl)<|oZ (oi 0 aI rfl rfl rfl rfl (bE rfl)<|by rfl) ?_;refine tZ<|rG<|lU (bj dw I cg I)<|lK (qL (v:=.slice q5 acc.length d5) ei I<|cO 1 I I)<|lK (qV 0 dT ar I I I)<|lW (bS sty27 I I I (ab sB) dC) ?_;rintro _ _ _ ⟨j1,rfl,rfl,rfl⟩;refine lW (aP (e:=encCell) 2 ⟨cx.id,cx.dim,⟨some ⟨P,0,none⟩,2,2⟩⟩ sty27 I I I I I oM oM) ?_;rintro v170 _ _ ⟨rfl,rfl⟩;refine zd4 fun ⟨w0,b⟩=>?_;obtain ⟨q9,d9,rfl⟩:=ag (e:=encCell) (l:=acc++[(⟨cx.id,cx.dim,⟨some ⟨P,0,none⟩,2,2⟩⟩:Rc)]) (i:=2) b rfl;clear b w0;refine lU (bj dw I cg I)<|oZ (sK 1 cg I I I I I sB) ?_;refine cp<|bN<|tN<|rG<|lM I<|yD I<|lA I<|cp<|dR (.cons _<|.refl _) ?_;exact ct (k+1,g7,q9,d9,acc++[(⟨cx.id,cx.dim,⟨some ⟨P,0,none⟩,2,2⟩⟩:Rc)]) sB I I ⟨by dsimp only;omega,Y.trans Q,by
     dsimp only;rw[a3,← zg9];exact (D.mono fun _ _=>an.mono<|t.trans Q).append ⟨⟨I,I,p2⟩,trivial⟩⟩ (by dsimp only;omega)
   ·have e0:bQ e za cx=⟨cx.id,cx.dim,cx.sides++eW e cx.sides⟩:=zg1 d4;rw[e0] at a3;refine kP<|tN<|rG<|lU (bj dw I cg I)<|lK (qL (v:=.slice q5 acc.length d5) ei I<|cO 1 I I)<|lK (qV 0 dT ar I I I)<|lW (bS sty27 I I I (ab sB) dC) ?_;rintro _ _ _ ⟨j1,rfl,rfl,rfl⟩;refine lW (aP (e:=encCell) 2 ⟨cx.id,cx.dim,⟨q7,(cx.sides++eW e cx.sides).length,d7⟩⟩ sty27 I I I I I oM oM) ?_;rintro v170 _ _ ⟨rfl,rfl⟩;refine zd4 fun ⟨w0,b⟩=>?_;obtain ⟨q9,d9,rfl⟩:=ag (e:=encCell) (l:=acc++[(⟨cx.id,cx.dim,⟨q7,(cx.sides++eW e cx.sides).length,d7⟩⟩:Rc)]) (i:=2) b rfl;clear b w0;refine lU (bj dw I cg I)<|oZ (sK 1 cg I I I I I sB) ?_;refine cp<|bN<|tN<|rG<|lM I<|yD I<|lA I<|cp<|dR (.cons _<|.refl _) ?_;exact ct (k+1,g6,q9,d9,acc++[(⟨cx.id,cx.dim,⟨q7,(cx.sides++eW e cx.sides).length,d7⟩⟩:Rc)]) sB I I ⟨by dsimp only;omega,Y,by
     dsimp only;rw[a3,← zg9];exact (D.mono fun _ _=>an.mono t).append ⟨⟨I,I,d3⟩,trivial⟩⟩ (by dsimp only;omega)
 ·have p3:l.take k=l:=tL oM;rw[p3] at D;have Z:=b0.trans H;have p4:=h2.mono Z;have p5:((am l).map gW).length<1099511627776:=by rw[ze7];exact (bG hf).1
  refine xI (tX<|tX<|bX<|tN<|sQ<|cP (zk2 _ _ _)<|fS fun g6 t d3=>?_);have p6:ai g6 (.slice q5 acc.length d5) _:=⟨acc,d3,D.mono fun _ _=>an.mono t⟩;refine dW [] [(0,2),(1,1),(3,2),(4,1),(2,0),(5,0),(6,0),(7,2)] ze4 kR<|pU I (bj aO I zT3 I)<|gB I (qL (v:=vi e.cell) iT3 I<|cO 4 I I)<|pU I (bj aO I zT3 I)<|gB I (qL (v:=vi e.other) iT3 I<|cO 4 I I)<|mf I (bt call181 I<|eS E g6 _ e.cell 1<|.inr<|.inl I) dC (.inr iR) ?_;rintro _ g7 _ ⟨rfl,rfl,Q⟩;refine mf rfl (bt call181 rfl<|eS E g7 _ e.other 1<|.inr<|.inl rfl) dC (.inr<|by rintro _ g8 _ ⟨rfl,rfl,b6⟩;exact⟨by exact kc io io,(by exact .refl _)⟩) ?_;rintro _ g8 _ ⟨rfl,rfl,b6⟩;have e1:=Q.trans b6;refine mf I (bS sty184 I I I (ab sB) dC) dC (.inr iR) ?_;rintro _ _ _ ⟨b8,rfl,rfl,rfl⟩;refine I5 fun g9 j2 p7=>?_;have a0:=e1.trans j2;have p9:SlA fF g9 (.slice (some ⟨b8,0,none⟩) 2 2) [(e.cell,1),(e.other,1)]:=kb p7 rfl rfl;refine pU I (aS I)<|du<|tN ?_;refine lu (ι:=PH×Option Addr×Nat×Nat) (fun i=>[(2,pp b2 0),(3,pp b3 0),(4,pp b4 0),(5,pp b5 0),(11,pp R 0),(16,.slice i.2.1 i.2.2.1 i.2.2.2)]) (fun i=>i.1)
   (fun _=>pt R (bY #[.slice q5 acc.length d5] 29)::pt b7 (bY #[vi yi,vi c0.dim,.slice yp c0.sides.length yc] 61)::pt b5 (bY #[.slice none 0 0,vb false] 74)::pt b4 (bY #[.slice none 0 0] 29)::pt b3 (.cells (edV e (.slice sp e.sides.length sc)<|.slice pq e.pairs.length pc) 48 (0,0))::pt b2 (bY #[.slice p l.length c] 29)::s)
   (fun i=>Le g6 i.1∧SlA fF i.1 (.slice i.2.1 i.2.2.1 i.2.2.2) (dG e)) ?_ ?_
  ·refine rZ<|lU (bj aO I zT3 I)<|lK (qL (v:=vi e.other) iT3 I<|cO 4 I I)<|lU (bj aO I zT3 I)<|lK (qL (v:=vi e.cell) iT3 I<|cO 4 I I)<|yL I<|tZ<|iP I (fun e2=>?_) (fun e2=>?_)
   ·have e4:dG e=[(e.other,1),(e.cell,1)]:=zg2 e2;rw[e4];refine dW [] [(0,2),(1,1),(3,2),(4,1),(2,0),(5,0),(6,0),(7,2)] ze4 kR<|pU I (bj aO I zT3 I)<|gB I (qL (v:=vi e.other) iT3 I<|cO 4 I I)<|pU I (bj aO I zT3 I)<|gB I (qL (v:=vi e.cell) iT3 I<|cO 4 I I)<|mf I (bt call181 I<|eS E g9 _ e.other 1<|.inr<|.inl I) dC (.inr iR) ?_;rintro _ g10 _ ⟨rfl,rfl,d⟩;refine mf rfl (bt call181 rfl<|eS E g10 _ e.cell 1<|.inr<|.inl rfl) dC (.inr<|by rintro _ g11 _ ⟨rfl,rfl,y⟩;exact⟨by exact kc io io,(by exact .refl _)⟩) ?_;rintro _ g11 _ ⟨rfl,rfl,y⟩;have a5:=d.trans y;refine mf I (bS sty184 I I I (ab sB) dC) dC (.inr iR) ?_;rintro _ _ _ ⟨b9,rfl,rfl,rfl⟩;refine I5 fun g12 F l0=>?_;have a9:=a5.trans F;have l1:SlA fF g12 (.slice (some ⟨b9,0,none⟩) 2 2) [(e.other,1),(e.cell,1)]:=kb l0 rfl rfl;refine pU I (aS I)<|du ?_;exact za9 (g12,some ⟨b9,0,none⟩,2,2) sB I I ⟨a0.trans a9,l1⟩
   ·have e4:dG e=[(e.cell,1),(e.other,1)]:=zg1 e2;rw[e4];exact kP<|za9 (g9,some ⟨b8,0,none⟩,2,2) sB I I ⟨a0,p9⟩
  rintro ⟨g10,r4,n10,d10⟩ ⟨d,a1⟩;dsimp only at d a1 ⊢;have l2:=p4.mono<|t.trans d;refine sQ<|dW [8,9] [(0,1),(1,1),(3,2),(4,1),(5,2),(2,0),(6,0),(7,2),(8,0),(9,0),(10,2)] ze4 kR<|gB I (qV 0 aj ae I I I)<|gB I (qV 5 aj ae I I I)<|pU I (bj aO I zT3 I)<|gB I (qL (v:=vi e.cell) iT3 I<|cO 4 I I)<|yM I<|mf I (bt call178 I<|fZ E g10 _ _ l l2 hf) dC (.inr iR) ?_;rintro _ g11 _ ⟨rfl,y,iv,rfl,l3⟩;obtain ⟨r5,n11,d11,rfl⟩:=l3.form;refine mf rfl (bt call182 rfl<|jc E g11 _ _ _ _ e.cell _ l3 p5<|za5 a1 y) dC (.inr<|by rintro _ g12 _ ⟨rfl,F,q0,rfl,O⟩;exact⟨by exact kc io io,(by exact .refl _)⟩) ?_;rintro _ g12 _ ⟨rfl,F,q0,rfl,O⟩;obtain ⟨r6,n12,d12,rfl⟩:=O.form;have J:=y.trans F;refine pU I (za3 I<|buildS74 _ _ _)<|H8 I (sK 3 ae I I I I I sB) (.inl dC) ?_;rintro _ _ _ ⟨rfl,rfl⟩;refine H8 I (sK 2 bZ I I I I I sB) (.inl dC) ?_;rintro _ _ _ ⟨rfl,rfl⟩;refine pU I (aS I)<|du<|tN<|rE ?_;exact oR 3 2 s (.inl I) results116 I I I aj ae gX bZ I I I I uR ⟨I,c6.trans<|Z.trans<|t.trans<|d.trans J,_,_,_,_,I,p6.mono<|d.trans J,fun _=>O⟩
set_option maxHeartbeats 4000000
variable {A:List Cl}{k:Int}{c:Cl}
theorem Hz {ps:List Pr}{j:Nat}(b:j<ps.length)(h:ps[j].2=k)(hn:∀ i (a:i<j),(ps[i]'oM).2≠k):byF ps k=some ps[j].1:=by
 have c:ps.find? (fun p=>decide<|p.2=k)=some ps[j]:=List.find?_eq_some_iff_getElem.2 ⟨by simpa using h,j,b,rfl,fun i a=>by simpa using hn i a⟩;unfold byF;rw[c];rfl
theorem Hy {ps:List Pr}(hn:∀ p∈ps,p.2≠k):byF ps k=none:=by
 unfold byF;rw[List.find?_eq_none.2 fun p hp=>by simpa using hn p hp];rfl
theorem ie (v pv:Value)(l:List ak)(ps:List Pr)(J:SlA encSide g v l)(hl:l.length<1099511627776)(hp:SlA em g pv ps)(U:ps.length<1099511627776) :
  Ctr Tryz.prog E 184 #[v,pv] g s fun r g' s'=>s=s'∧Le g g'∧SlA encSide g' r (l.map<|lf<|byF ps):=by
 obtain ⟨p,c,rfl⟩:=za4 J;obtain ⟨q,d,rfl⟩:=za4 hp;refine zb2 (args:=[.slice p l.length c,.slice q ps.length d]) func184 I ntmps184 (bE I)<|rZ (aT I<|rZ<|lU (za3 I<|buildE61)<|bW (aL zl6) fun H=>?_);refine oZ (sK 0 ar I I I I I sB)<|tZ<|sQ<|rZ<|aT I<|bK<|zb6 87 2<|oP (ι:=Nat×Value) (fun i=>[(0,.slice p l.length c),(1,.slice q ps.length d),(5,pp H 0),(6,vi i.1)]) (fun _=>g) (fun i=>rowA encSide 87 i.2 ((l.take i.1).map<|lf<|byF ps)::pt H (bY #[vi 0,vi 0,i.2] 61)::s)
  (fun i=>i.1≤l.length) (fun i=>l.length - i.1) (0,.slice none 0 0) sB rfl rfl (zf7 _) ?_
 rintro ⟨k,w⟩ V;dsimp only at V ⊢;refine sQ<|sW I<|lM I<|lU (eN aW I)<|yL I<|tZ<|iP I (fun L=>?_) (fun L=>?_)
 ·have A:k<l.length:=oM;have M:=za6 J oM;have N:l[((k:Nat):Int).toNat]?=some l[k]:=bd A;have m:(l.take<|k+1).map (lf<|byF ps)=(l.take k).map (lf<|byF ps)++[lf (byF ps) l[k]]:=by rw[tS A,zg6];rfl
  have W:((l.take k).map<|lf<|byF ps).length=k:=by rw[ze7,ze5];omega
  generalize l[k]=x at *;obtain ⟨a,xs⟩:=x;refine kP (tN<|sQ<|bK<|sW I<|lM I<|lU (iA aW aV I I M oM sL)<|lK (iN iV aV I (za7 J) N)<|bW (aL zm1) fun T=>?_);refine oZ (sK 0 aV I I I I I sB)<|tZ<|sQ<|rZ<|aT I<|bK<|oP (ι:=Nat) (fun j=>[(0,.slice p l.length c),(1,.slice q ps.length d),(5,pp H 0),(6,vi k),(7,pp T 0),(8,vi j)]) (fun _=>g) (fun _=>pt T (bY #[vi a,vi xs] 87)::rowA encSide 87 w ((l.take k).map<|lf<|byF ps)::pt H (bY #[vi 0,vi 0,w] 61)::s)
   (fun j=>j≤ps.length∧∀ i (y:i<j) (hl:i<ps.length),ps[i].2≠a) (fun j=>ps.length - j) 0 sB rfl rfl ⟨zf7 _,fun i y=>absurd y oM⟩ ?_
  rintro j ⟨X,n⟩;try dsimp only at X n ⊢
  refine sQ<|sW I<|lM I<|lU (eN ld I)<|yL I<|tZ<|iP I (fun B=>?_) (fun B=>?_)
  ·have C:j<ps.length:=oM;have t:=za6 hp oM;have D:ps[((j:Nat):Int).toNat]?=some ps[j]:=bd C;have F:=fun h=>Hz (ps:=ps) (k:=a) C h fun i y=>n i y oM;have b:ps[j].2≠a→∀ i (y:i<j+1) (hl:i<ps.length),ps[i].2≠a:=fun h i y hl=>by
    by_cases e:i=j
    ·subst e;exact h
    ·exact n i oM hl
   generalize ps[j]=z at *;obtain ⟨z1,z2⟩:=z;dsimp only at F b;refine kP<|tN<|sQ<|bK<|sQ<|dW [] [(0,2),(1,1),(2,2),(3,2),(4,2),(5,2),(6,1),(7,2)] ze4 kR<|pU I (bj dh I zT3 I)<|gB I (qL (v:=vi a) iT3 I<|cO 0 I I)<|yM I<|yM I<|pU I (iA ld qQ I I t oM sL)<|pU I (SU.indexAddrC rq zT3 I t I dC dC)<|gB I (aZ (e:=em) (o:=1) (u:=vi z2) iT3 I (za7 hp) D I)<|pU I (eQ I I)<|du<|tN<|iP I (fun O=>?_) (fun O=>?_)
   ·have hr:lf (byF ps) ⟨a,xs⟩=⟨z1,xs⟩:=by unfold lf;rw[F O.symm];rfl
    rw[hr] at m;refine sW rfl<|lM rfl<|lU (iA ld qQ rfl rfl t oM sL)<|lU (SU.indexAddrC rq zT3 rfl t rfl dC dC)<|lK (aZ (e:=em) (o:=0) (u:=vi z1) iT3 rfl (za7 hp) D rfl)<|lU (bj dh rfl zT3 rfl)<|oZ (oi 0 zT3 rfl rfl rfl rfl (bE rfl)<|by rfl) ?_;refine tZ<|xI<|ST.blockO dC<|tX<|tX<|bX<|tN<|rG<|lU (bj ap I aI I)<|lK (qL (v:=w) bg I<|cO 2 I I)<|lK (qV 0 iV aV I I I)<|lW (bS sty45 I I I (ab sB) dC) ?_;rintro _ _ _ ⟨P,rfl,rfl,rfl⟩;refine lW (aP (e:=encSide) 1 ⟨z1,xs⟩ sty45 I I I I I oM oM) ?_;rintro w' _ _ ⟨rfl,rfl⟩;refine zd4 fun ⟨Q,f⟩=>?_;obtain ⟨Y,Z,rfl⟩:=ag (e:=encSide) (l:=(l.take k).map (lf<|byF ps)++[(⟨z1,xs⟩:ak)]) (i:=1) f rfl;clear f Q;refine lU (bj ap rfl aI rfl)<|oZ (oi 2 aI rfl rfl rfl rfl (bE rfl)<|by rfl) ?_;refine cp<|bN<|tN<|rG<|lM I<|yD I<|lA I<|cp<|dR (.cons _<|.refl _) ?_;exact ct (k+1,_) sB I (by dsimp only;rw[m];rfl) (by dsimp only;omega) (by dsimp only;omega)
   ·exact kP<|bN<|tN<|rG<|lM I<|yD I<|lA I<|cp<|ct (j+1) sB I I ⟨oM,b fun h=>O h.symm⟩ oM
  ·have hr:lf (byF ps) ⟨a,xs⟩=⟨a,xs⟩:=by
    unfold lf;rw[Hy fun z hz=>?_]
    ·rfl
    ·obtain ⟨i,y,rfl⟩:=zc8 hz;exact n i oM y
   rw[hr] at m;refine xI<|tX<|tX<|bX<|tN<|rG<|lU (bj ap I aI I)<|lK (qL (v:=w) bg I<|cO 2 I I)<|lK (qV 0 iV aV I I I)<|lW (bS sty45 I I I (ab sB) dC) ?_;rintro _ _ _ ⟨P,rfl,rfl,rfl⟩;refine lW (aP (e:=encSide) 1 ⟨a,xs⟩ sty45 I I I I I oM oM) ?_;rintro w' _ _ ⟨rfl,rfl⟩;refine zd4 fun ⟨Q,f⟩=>?_;obtain ⟨Y,Z,rfl⟩:=ag (e:=encSide) (l:=(l.take k).map (lf<|byF ps)++[(⟨a,xs⟩:ak)]) (i:=1) f rfl;clear f Q;refine lU (bj ap rfl aI rfl)<|oZ (oi 2 aI rfl rfl rfl rfl (bE rfl)<|by rfl) ?_;refine cp<|bN<|tN<|rG<|lM I<|yD I<|lA I<|cp<|dR (.cons _<|.refl _) ?_;exact ct (k+1,_) sB I (by dsimp only;rw[m];rfl) (by dsimp only;omega) (by dsimp only;omega)
 ·have R:l.take k=l:=tL oM;rw[R];refine xI (tX<|tX<|bX<|tN<|sQ<|fS fun g2 G S=>?_);exact rG<|lU (bj ap I aI I)<|lK (qL (v:=w) bg I<|cO 0 I I)<|aT I<|rE<|dR (s':=s) uR<|za8 (.inl I) results184 I ⟨I,G,S⟩
theorem sV (v:Value)(l:List ak)(x:ak)(d:SlA encSide g v l)(hl:l.length<1099511627776) :
  Ctr Tryz.prog E 209 #[v,.agg #[vi x.cell,vi x.sign]] g s fun r g' s'=>r=vi ((l.countP fun y=>decide<|y=x):Nat)∧g=g'∧s=s':=by
 obtain ⟨p,c,rfl⟩:=za4 d;refine zb2 (args:=[.slice p l.length c,.agg #[vi x.cell,vi x.sign]]) func209 I ntmps209 (bE I)<|rZ (bW (bO I) fun n=>?_);refine aT I<|rZ<|aT I<|sQ<|rZ<|aT I<|bK<|oP (ι:=Nat) (fun k=>[(0,.slice p l.length c),(3,pp n 0),(5,vi (((l.take k).countP fun y=>decide<|y=x):Nat)),(6,vi k)]) (fun _=>g) (fun _=>pt n (bY #[vi x.cell,vi x.sign] 87)::s)
  (fun k=>k≤l.length) (fun k=>l.length - k) 0 sB rfl rfl (zf7 _) ?_
 rintro k o;try dsimp only at o ⊢
 refine sQ<|sW I<|lM I<|lU (eN aW I)<|yL I<|tZ<|iP I (fun e=>?_) (fun e=>?_)
 ·have b:k<l.length:=oM;have f:=za6 d oM;have i:l[((k:Nat):Int).toNat]?=some l[k]:=bd b;have a:(l.take<|k+1).countP (fun y=>decide<|y=x)=(l.take k).countP (fun y=>decide<|y=x)+(if l[k]=x then 1 else 0):=by
   rw[tS b,List.countP_append];congr 1;by_cases h:l[k]=x <;> simp[h]
  have q:(l.take k).countP (fun y=>decide<|y=x)≤k:=zk8 List.countP_le_length (by rw[ze5];omega);generalize l[k]=y at *;obtain ⟨yc,t⟩:=y;refine kP<|tN<|sQ<|bK<|sQ<|dW [] [(0,2),(1,2),(2,2),(3,1),(4,1),(5,2)] ze4 kR<|yM I<|yM I<|pU I (iA aW aV I I f oM sL)<|gB I (iN iV aV I (za7 d) i)<|gB I (qV 0 iV aV I I I)<|pU I (SU.eqlSide ⟨yc,t⟩ x I I)<|du<|tN<|iP I (fun j=>?_) (fun j=>?_)
  ·rw[zg2 j] at a;exact rG<|lM I<|yD I<|lA I<|cp<|bN<|tN<|rG<|lM I<|yD I<|lA I<|cp<|ct (k+1) ⟨I,I,(by rw[a];rfl),rfl,trivial⟩ rfl rfl oM oM
  ·rw[zg1 j] at a;exact kP<|bN<|tN<|rG<|lM I<|yD I<|lA I<|cp<|ct (k+1) ⟨I,I,(by rw[a];rfl),rfl,trivial⟩ rfl rfl oM oM
 ·have m:l.take k=l:=tL oM;rw[m];exact xI<|tX<|tX<|bX<|tN<|sW I<|aT I<|rE<|dR (s':=s) uR<|za8 (.inl I) results209 I ⟨I,I,I⟩
theorem nV:∀ (a b:List ak),(∀ x∈a,(a.countP fun y=>decide<|y=x)≤(b.countP fun y=>decide<|y=x))→∃ r,b.Perm (a++r)
 | [],b,_=>⟨b,List.Perm.refl b⟩
 | x::a,b,h=>by
  have f:=h x dO;rw[List.countP_cons] at f;have g:x∈b:=by
   have i:0<b.countP fun y=>decide (y=x):=by simp at f;omega
   obtain ⟨y,c,j⟩:=List.countP_pos_iff.1 i;rw[← zg4 j];exact c
  obtain ⟨s1,s2,rfl⟩:=List.append_of_mem g;obtain ⟨r,hr⟩:=nV a (s1++s2) fun y c=>by
   have d:=h y (by simp[c]);rw[List.countP_cons,List.countP_append,List.countP_cons] at d;rw[List.countP_append];by_cases e:x=y
   ·subst e;simp at d ⊢;omega
   ·simp[e] at d ⊢;omega
  exact⟨r,List.perm_middle.trans<|by simpa using hr.cons x⟩
theorem uP {a b:List ak}(hl:a.length=b.length)(h:∀ x∈a,(a.countP fun y=>decide<|y=x)=(b.countP fun y=>decide<|y=x)):a.Perm b:=by
 obtain ⟨r,hr⟩:=nV a b fun x c=>Nat.le_of_eq<|h x c;have d:=hr.length_eq;rw[ze6] at d;have e:r=[]:=zf5 oM;subst e;rw[zc7] at hr;exact hr.symm
theorem lj (v u:Value)(l m:List ak)(n:SlA encSide g v l)(H:SlA encSide g u m)(hl:l.length<1099511627776)(hm:m.length<1099511627776) :
  Ctr Tryz.prog E 183 #[v,u] g s fun r g' s'=>r=vb (decide<|mu l=mu m)∧g=g'∧s=s':=by
 obtain ⟨p,c,rfl⟩:=za4 n;obtain ⟨q,d,rfl⟩:=za4 H;have a:mu l=mu m↔l.Perm m:=⟨fun h=>(jb l).symm.trans<|h ▸ jb m,fun h=>BG (zF l) (zF m)<|(jb l).trans<|h.trans (jb m).symm⟩;refine zb2 (args:=[.slice p l.length c,.slice q m.length d]) func183 I ntmps183 (bE I)<|rZ<|aT I<|sQ<|sW I<|lU (eN aW I)<|lM I<|lU (eN aW I)<|lU (nQ I I)<|tZ<|iP I (fun t=>?_) (fun t=>?_)
 ·exact rZ<|aT I<|rE<|tR<|za8 (.inl I) results183 I ⟨by have:¬ mu l=mu m:=fun e=>t (by rw[(a.1 e).length_eq]);simp[this],I,I⟩
 ·refine kP<|tN<|sQ<|rZ<|aT I<|bK ?_;have w:l.length=m.length:=oM;refine oP (ι:=Nat) (fun k=>[(0,.slice p l.length c),(1,.slice q m.length d),(5,vi k)]) (fun _=>g) (fun _=>s) (fun k=>k≤l.length∧∀ j (i:j<k) (hl:j<l.length),(l.countP fun y=>decide<|y=l[j])=(m.countP fun y=>decide<|y=l[j])) (fun k=>l.length - k) 0
   sB rfl rfl ⟨zf7 _,fun j i=>absurd i oM⟩ ?_
  rintro k ⟨M,b⟩;refine sQ<|sW I<|lM I<|lU (eN aW I)<|yL I<|tZ<|iP I (fun D=>?_) (fun D=>?_)
  ·have F:k<l.length:=oM;have z:=za6 n oM;have A:l[((k:Nat):Int).toNat]?=some l[k]:=bd F;have f:(l.countP fun y=>decide<|y=l[k])=(m.countP fun y=>decide<|y=l[k])→∀ j (i:j<k+1) (hl:j<l.length),(l.countP fun y=>decide<|y=l[j])=(m.countP fun y=>decide<|y=l[j]):=fun h j i hl=>by
    by_cases e:j=k
    ·subst e;exact h
    ·exact b j oM hl
   have B:(l.countP fun y=>decide<|y=l[k])≠(m.countP fun y=>decide<|y=l[k])→¬ mu l=mu m:=fun h e=>h<|(a.1 e).countP_eq _;generalize l[k]=x at *;obtain ⟨J,xs⟩:=x;refine kP<|tN<|sQ<|bK<|sQ<|dW [] [(0,2),(1,2),(2,2),(3,2),(4,1),(6,2),(7,2),(8,2),(9,2),(10,1),(5,0),(11,0),(12,2)] ze4 kR<|yM I<|yM I<|yM I<|pU I (iA aW aV I I z oM sL)<|gB I (iN iV aV I (za7 n) A)<|yM I<|yM I<|yM I<|pU I (iA aW aV I I z oM sL)<|gB I (iN iV aV I (za7 n) A)<|mf I (bt call209 I<|sV E g _ _ l ⟨J,xs⟩ n hl) dC (.inr iR) ?_;rintro _ _ _ ⟨rfl,rfl,rfl⟩;refine mf I (bt call209 I<|sV E g _ _ m ⟨J,xs⟩ H hm) dC (.inr iR) ?_;rintro _ _ _ ⟨rfl,rfl,rfl⟩;refine pU I (nQ I I)<|du<|tN<|iP I (fun hd=>?_) (fun hd=>?_)
   ·have G:=B oM;exact rZ<|aT I<|rE<|bR<|tR<|tR<|bR<|tR<|za8 (.inl I) results183 I ⟨by simp[G],I,I⟩
   ·exact kP<|bN<|tN<|rG<|lM I<|yD I<|lA I<|cp<|ct (k+1) sB I I ⟨oM,f oM⟩ oM
  ·have C:mu l=mu m:=a.2 (uP w fun x L=>by
    obtain ⟨j,i,rfl⟩:=zc8 L;exact b j oM i)
   exact xI<|tX<|tX<|bX<|tN<|rZ<|aT I<|rE<|za8 (.inl I) results183 I ⟨by simp[C],I,I⟩
theorem Ar (ps:List Pr):(qU ps).length=2 * ps.length:=by
 induction ps with
 | nil=>rfl
 | cons p ps ih =>
  have hc:qU (p::ps)=p.1::p.2::qU ps:=rfl;rw[hc,ze9,ze9,ze9,ih];omega
def nH (l:List Cl)(id:Int):Int:=((findC l id).getD aJ).dim
def jo (l:List Cl)(id:Int):List ak:=((findC l id).getD aJ).sides
def iT (l:List Cl)(ps:List Pr)(p:Pr):Bool:=decide<|mu ((jo l p.1).map<|lf<|byF ps)=mu ((jo l p.2).map<|lf<|byF ps)
def dE (l:List Cl)(e:Ed):Int :=
 if e.pairs.all (fun p=>(findC l p.1).isSome&&(findC l p.2).isSome) then
  if AE e.pairs then 54 else if e.pairs.any (fun p=>decide<|nH l p.1≠nH l p.2) then 21 else if e.pairs.all (iT l e.pairs) then 0 else 33
 else 30
def Ee (f:Int→Option Int)(c:Cl):Cl:=⟨c.id,c.dim,c.sides.map<|lf f⟩
def eP (l:List Cl)(e:Ed):List Cl:=(cd l<|e.pairs.map Prod.snd).map<|Ee<|byF e.pairs
def fJ (ps:List Pr)(M:List<|Int×List Tm):List<|Int×List Tm:=ps.foldl (fun M p=>M.map<|dx p.2 [(p.1,1)]) M
theorem wJ {ps:List Pr}{k:Nat}(a:k<ps.length)(M:List<|Int×List Tm):fJ (ps.take<|k+1) M=(fJ (ps.take k) M).map (dx ps[k].2 [(ps[k].1,1)]):=by
 unfold fJ;rw[tS a,zj1];rfl
theorem ye (ps:List Pr):∀ M,(fJ ps M).length=M.length:=by
 unfold fJ;induction ps with
 | nil=>intro M;rfl
 | cons p ps ih=>intro M;rw[zi9,ih,ze7]
theorem EW {α:Type}(f:α→α){l:List α}{k:Nat}(a:k<l.length):(l.take<|k+1).map f++l.drop (k+1)=((l.take k).map f++l.drop k).set k (f l[k]):=by
 rw[tS a,zg6,zg9,List.set_append_right _ _<|by rw[ze7,ze5];omega,ze7,ze5,show k - min k l.length=0 by omega];congr 1;rw[zg7 a];rfl
theorem GE {α:Type}(f:α→α){l:List α}{k:Nat}(a:k<l.length):((l.take k).map f++l.drop k)[k]?=some l[k]:=by
 rw[zh4<|by rw[ze7,ze5];omega,ze7,ze5,show k - min k l.length=0 by omega,zg7 a];rfl
theorem ER {L:List Int}(h:∀ a (f:a<L.length) b (hb:b<a),L[a]≠L[b]'oM):L.Nodup:=by
 rw[List.nodup_iff_pairwise_ne,zd1];intro i j g d c e;exact h j d i c e.symm
theorem oD (v ev:Value)(l:List Cl)(e:Ed)(hv:ai g v l)(hf:aM l)(he:EdR g ev e)(x8:e.pairs.length<100000000000)(n2:∀ id,(jo l id).length<1099511627776) :
  Ctr Tryz.prog E 117 #[.agg #[v],ev] g s fun r g' s'=>s=s'∧Le g g'∧FV (dE l e) (if dE l e=0 then eP l e else l) (fJ e.pairs<|(am l).map gW) false r g':=by
 obtain ⟨sv,pv,rfl,t4,b9⟩:=he;obtain ⟨sp,sc,rfl⟩:=za4 t4;obtain ⟨C,D,rfl⟩:=za4 b9;obtain ⟨p,c,rfl⟩:=hv.form;refine zb2 (args:=[.agg #[.slice p l.length c],.agg #[vi e.kind,vi e.cell,vi e.dim,vi e.new,vi e.other,.slice sp e.sides.length sc,.slice C e.pairs.length D]]) func117 I ntmps117 (bE I)<|rZ (bW (bO I) fun Z=>?_);refine bW (bO I) fun b3=>bW (aL zl9) fun b4=>bW (aL zl4) fun b5=>aT I<|rZ<|aT I<|rZ<|aT I<|sQ<|rZ<|aT I<|bK<|zb6 3 1<|zb6 3 1<|oP (ι:=Nat×PH×Value×Value) (fun i=>[(2,pp Z 0),(3,pp b3 0),(4,pp b4 0),(5,pp b5 0),(7,i.2.2.1),(8,i.2.2.2),(9,vi i.1)]) (fun i=>i.2.1)
  (fun i=>rowA encInt 3 i.2.2.1 (qU<|e.pairs.take i.1)::rowA encInt 3 i.2.2.2 ((e.pairs.take i.1).map Prod.snd)::pt b5 (bY #[.slice none 0 0,vb false] 74)::pt b4 (bY #[.slice none 0 0] 29)::pt b3 (.cells (edV e (.slice sp e.sides.length sc)<|.slice C e.pairs.length D) 48 (0,0))::pt Z (bY #[.slice p l.length c] 29)::s)
  (fun i=>i.1≤e.pairs.length∧Le g i.2.1∧(∀ q∈e.pairs.take i.1,(findC l q.1).isSome=true∧(findC l q.2).isSome=true)) (fun i=>e.pairs.length - i.1) (0,g,.slice none 0 0,.slice none 0 0)
  sB rfl rfl ⟨zf7 _,zb9 _,fun q hq=>by simp at hq⟩ ?_
 rintro ⟨k,g1,wa,wg⟩ ⟨hk,M,d4⟩;dsimp only at hk M d4 ⊢;refine sQ<|sW I<|lU (bj aO I jP I)<|lK (qL (v:=.slice C e.pairs.length D) mA I<|cO 4 I I)<|lU (eN ld I)<|yL I<|tZ<|iP I (fun t5=>?_) (fun t5=>?_)
 ·have P:k<e.pairs.length:=oM;have d:=za6 b9 oM;have Q:=za5 b9 M;have a0:=hv.mono M;have A:e.pairs[((k:Nat):Int).toNat]?=some e.pairs[k]:=bd P;have c1:e.pairs.take (k+1)=e.pairs.take k++[e.pairs[k]]:=tS P;have n3:=Ar<|e.pairs.take k;rw[ze5] at n3;have x9:((e.pairs.take k).map Prod.snd).length≤k:=by rw[ze7,ze5];omega
  have a1:¬ ((findC l e.pairs[k].1).isSome=true∧(findC l e.pairs[k].2).isSome=true)→dE l e=30:=fun h=>by
   unfold dE;rw[zg1];intro h2;have h3:=zk1.1 h2 _<|gM P;rw[zj4] at h3;exact h h3
  have f8:qU (e.pairs.take<|k+1)=qU (e.pairs.take k)++[e.pairs[k].1,e.pairs[k].2]:=by rw[c1,D0]
  have h0:(e.pairs.take<|k+1).map Prod.snd=(e.pairs.take k).map Prod.snd++[e.pairs[k].2]:=by rw[c1,zg6];rfl
  generalize e.pairs[k]=x at *;obtain ⟨H,J⟩:=x;dsimp only at a1 f8 h0;cases c3:(findC l H).isSome with
  | false =>
   rw[a1<|by rw[c3];rintro ⟨h,_⟩;cases h];refine kP<|tN<|sQ<|bK<|sQ<|sQ<|dW [] [(0,1),(1,2),(2,1),(3,2),(4,2),(5,2),(6,1),(7,0),(8,2),(9,2),(10,1),(11,2),(12,1),(13,2),(14,2),(15,2),(16,1),(17,0),(18,2),(19,2)] ze4 kR<|gB I (qV 5 aj ae I I I)<|pU I (bj aO I jP I)<|gB I (qL (v:=.slice C e.pairs.length D) mA I<|cO 4 I I)<|yM I<|pU I (iA ld qQ I I d oM sL)<|pU I (SU.indexAddrC rq zT3 I d I dC dC)<|gB I (aZ (e:=em) (o:=0) (u:=vi H) iT3 I (za7 Q) A I)<|mf I (bt call177 I<|dB E g1 _ _ l H a0 hf) dC (.inr iR) ?_;rintro _ g2 _ ⟨rfl,rfl,F⟩;rw[c3];refine pU I (oF I)<|yM I<|yI I<|yG I<|yI I<|yG I<|yG I<|yG I<|yI I<|fO I (gZ I I I dC) dC ⟨by assumption,(by exact .refl _)⟩ ?_;refine yG I<|pU I (wT I I)<|du<|tN<|za2 I<|rZ<|lK (qV 5 aj ae I I I)<|lU (za3 I buildZ74)<|oZ (sK 3 ae I I I I I sB)<|oZ (sK 2 bZ I I I I I sB) ?_;refine aT I<|rE<|tR<|bR<|tR<|tR<|bR<|tR ?_;exact oR 3 2 s (.inl I) results117 I I I aj ae gX bZ I I I I uR ⟨I,M.trans F,_,_,_,_,I,a0.mono F,fun h=>by cases h⟩
  | true =>
  cases d9:(findC l J).isSome with
  | false =>
   rw[a1<|by rw[d9];rintro ⟨_,h⟩;cases h];refine kP<|tN<|sQ<|bK<|sQ<|sQ<|dW [] [(0,1),(1,2),(2,1),(3,2),(4,2),(5,2),(6,1),(7,0),(8,2),(9,2),(10,1),(11,2),(12,1),(13,2),(14,2),(15,2),(16,1),(17,0),(18,2),(19,2)] ze4 kR<|gB I (qV 5 aj ae I I I)<|pU I (bj aO I jP I)<|gB I (qL (v:=.slice C e.pairs.length D) mA I<|cO 4 I I)<|yM I<|pU I (iA ld qQ I I d oM sL)<|pU I (SU.indexAddrC rq zT3 I d I dC dC)<|gB I (aZ (e:=em) (o:=0) (u:=vi H) iT3 I (za7 Q) A I)<|mf I (bt call177 I<|dB E g1 _ _ l H a0 hf) dC (.inr iR) ?_;rintro _ g2 _ ⟨rfl,rfl,F⟩;rw[c3];refine pU rfl (oF rfl)<|yM rfl<|By rfl (gT rfl rfl rfl dC) (qV 5 aj ae rfl rfl rfl) dC<|zb3 rfl (gT rfl rfl rfl dC) (bj aO rfl jP rfl) dC<|By rfl (gT rfl rfl rfl dC) (qL (v:=.slice C e.pairs.length D) mA rfl<|cO 4 rfl rfl) dC<|yJ rfl<|zb3 rfl (gT rfl rfl rfl dC) (iA ld qQ rfl rfl d oM sL) dC<|zb3 rfl (gT rfl rfl rfl dC) (SU.indexAddrC rq zT3 rfl d rfl dC dC) dC<|By rfl (gT rfl rfl rfl dC) (aZ (e:=em) (o:=1) (u:=vi J) iT3 rfl (za7 Q) A rfl) dC<|Jo rfl (gT rfl rfl rfl dC) (bt call177 rfl<|dB E _ _ _ l J (a0.mono<|by assumption) hf) dC (.inr<|by rintro _ g3 _ ⟨rfl,rfl,G⟩;exact⟨by exact kc io io,(by exact .refl _)⟩) ?_;rintro _ g3 _ ⟨rfl,rfl,G⟩;rw[d9];have z:=F.trans G;refine zb3 I (gT I I I dC) (oF I) dC<|pU I (wF I I)<|du<|tN<|za2 I<|rZ<|lK (qV 5 aj ae I I I)<|lU (za3 I buildZ74)<|oZ (sK 3 ae I I I I I sB)<|oZ (sK 2 bZ I I I I I sB) ?_;refine aT I<|rE<|tR<|bR<|tR<|tR<|bR<|tR ?_;exact oR 3 2 s (.inl I) results117 I I I aj ae gX bZ I I I I uR ⟨I,M.trans z,_,_,_,_,I,a0.mono z,fun h=>by cases h⟩
  | true =>
  refine kP<|tN<|sQ<|bK<|sQ<|sQ ?_;refine dW [] [(0,1),(1,2),(2,1),(3,2),(4,2),(5,2),(6,1),(7,0),(8,2),(9,2),(10,1),(11,2),(12,1),(13,2),(14,2),(15,2),(16,1),(17,0),(18,2),(19,2)] ze4 kR<|gB I (qV 5 aj ae I I I)<|pU I (bj aO I jP I)<|gB I (qL (v:=.slice C e.pairs.length D) mA I<|cO 4 I I)<|yM I<|pU I (iA ld qQ I I d oM sL)<|pU I (SU.indexAddrC rq zT3 I d I dC dC)<|gB I (aZ (e:=em) (o:=0) (u:=vi H) iT3 I (za7 Q) A I)<|mf I (bt call177 I<|dB E g1 _ _ l H a0 hf) dC (.inr iR) ?_;rintro _ g2 _ ⟨rfl,rfl,F⟩;rw[c3];refine pU rfl (oF rfl)<|yM rfl<|By rfl (gT rfl rfl rfl dC) (qV 5 aj ae rfl rfl rfl) dC<|zb3 rfl (gT rfl rfl rfl dC) (bj aO rfl jP rfl) dC<|By rfl (gT rfl rfl rfl dC) (qL (v:=.slice C e.pairs.length D) mA rfl<|cO 4 rfl rfl) dC<|yJ rfl<|zb3 rfl (gT rfl rfl rfl dC) (iA ld qQ rfl rfl d oM sL) dC<|zb3 rfl (gT rfl rfl rfl dC) (SU.indexAddrC rq zT3 rfl d rfl dC dC) dC<|By rfl (gT rfl rfl rfl dC) (aZ (e:=em) (o:=1) (u:=vi J) iT3 rfl (za7 Q) A rfl) dC<|Jo rfl (gT rfl rfl rfl dC) (bt call177 rfl<|dB E _ _ _ l J (a0.mono io) hf) dC (.inr<|by rintro _ g3 _ ⟨rfl,rfl,G⟩;exact⟨by exact kc io io,(by exact .refl _)⟩) ?_;rintro _ g3 _ ⟨rfl,rfl,G⟩;rw[d9];have z:=F.trans G;have S:=za5 Q z;refine zb3 I (gT I I I dC) (oF I) dC<|pU I (wF I I)<|du<|tN<|za1 I<|kP<|tN<|sQ ?_;refine dW [14] [(0,2),(1,2),(2,1),(3,2),(4,2),(5,2),(6,1),(7,2),(8,1),(9,2),(10,2),(11,2),(12,1),(13,0),(14,0),(15,2)] ze4 kR ?_;refine yM I<|pU I (bj aO I jP I)<|gB I (qL (v:=.slice C e.pairs.length D) mA I<|cO 4 I I)<|yM I<|pU I (iA ld qQ I I d oM sL)<|pU I (SU.indexAddrC rq zT3 I d I dC dC)<|gB I (aZ (e:=em) (o:=0) (u:=vi H) iT3 I (za7 S) A I)<|pU I (bj aO I jP I)<|gB I (qL (v:=.slice C e.pairs.length D) mA I<|cO 4 I I)<|yM I<|pU I (iA ld qQ I I d oM sL)<|pU I (SU.indexAddrC rq zT3 I d I dC dC)<|gB I (aZ (e:=em) (o:=1) (u:=vi J) iT3 I (za7 S) A I)<|mf I (bS sty43 I I I (ab sB) dC) dC (.inr iR) ?_;rintro _ _ _ ⟨y0,rfl,rfl,rfl⟩;refine JJ (fun w hw=>Ig (e:=encInt) (l:=[H,J]) (n:=1) hw I I dC) ?_;refine Jb fun g4 y t6=>?_;refine mf I (aQ (e:=encInt) (l:=qU<|e.pairs.take k) (m:=[H,J]) 0 sty43 I I I t6 (by simp;omega)<|by simp;omega) dC (.inl dC) ?_;rintro wa' _ _ ⟨rfl,rfl⟩;refine pU I (aS I)<|du<|tN ?_;have N:=za5 S y;refine rG<|lM I<|lU (bj aO I jP I)<|lK (qL (v:=.slice C e.pairs.length D) mA I<|cO 4 I I)<|lM I<|lU (iA ld qQ I I d oM sL)<|lU (SU.indexAddrC rq zT3 I d I dC dC)<|lK (aZ (e:=em) (o:=1) (u:=vi J) iT3 I (za7 N) A I)<|lW (bS sty43 I I I (ab ⟨I,trivial⟩) dC) ?_;rintro _ _ _ ⟨y1,rfl,rfl,rfl⟩;refine lW (aP (e:=encInt) 1 J sty43 I I I I I oM oM) ?_;rintro wg' _ _ ⟨rfl,rfl⟩;refine lA I<|cp<|bN<|tN<|rG<|lM I<|yD I<|lA I<|cp ?_;exact ct (k+1,g4,wa',wg') sB I (by dsimp only;rw[f8,h0];rfl) ⟨by dsimp only;omega,M.trans<|z.trans y,fun q hq=>by
   dsimp only at hq;rw[c1] at hq
   rcases zf4.1 hq with hq | hq
   ·exact d4 q hq
   ·simp at hq;subst hq;exact⟨c3,d9⟩⟩ (by dsimp only;omega)
 ·have t7:e.pairs.take k=e.pairs:=tL oM;rw[t7] at d4 ⊢;have t8:e.pairs.all (fun p=>(findC l p.1).isSome&&(findC l p.2).isSome)=true:=zk1.2 fun p hp=>by
   obtain ⟨h1,h2⟩:=d4 p hp;rw[h1,h2];rfl
  have i1:dE l e=if AE e.pairs then 54 else if e.pairs.any (fun p=>decide<|nH l p.1≠nH l p.2) then 21 else if e.pairs.all (iT l e.pairs) then 0 else 33:=by unfold dE;rw[zg2 t8]
  rw[i1];have n3:=Ar e.pairs;refine xI (tX<|tX<|bX<|tN<|sQ<|sQ<|fS fun g2 F t9=>?_);refine fS fun g3 G u0=>?_;have z:=F.trans G;have a5:dA g3 wa<|qU e.pairs:=Sl.mono t9 G;obtain ⟨qa,da,rfl⟩:=za4 a5;have h4:dA g3 wg<|e.pairs.map Prod.snd:=u0;obtain ⟨qg,dg,rfl⟩:=za4 h4;refine rG<|aT I<|bK ?_;have O:=M.trans z;have i2:=hv.mono O;have S:=za5 b9 O;generalize hL:qU e.pairs=L at *;refine oP (ι:=Nat) (fun i=>[(2,pp Z 0),(3,pp b3 0),(4,pp b4 0),(5,pp b5 0),(7,.slice qa L.length da),(8,.slice qg (e.pairs.map Prod.snd).length dg),(10,vi i)]) (fun _=>g3)
   (fun _=>pt b5 (bY #[.slice none 0 0,vb false] 74)::pt b4 (bY #[.slice none 0 0] 29)::pt b3 (.cells (edV e (.slice sp e.sides.length sc)<|.slice C e.pairs.length D) 48 (0,0))::pt Z (bY #[.slice p l.length c] 29)::s)
   (fun i=>i≤L.length∧∀ a (ha:a<i) (hl:a<L.length) b (hb:b<a),L[a]≠L[b]'oM) (fun i=>L.length - i) 0 sB rfl rfl ⟨zf7 _,fun a ha=>absurd ha oM⟩ ?_
  rintro i ⟨hi,i3⟩;try dsimp only at hi i3 ⊢
  refine sQ<|sW I<|lM I<|lU (eN aA I)<|yL I<|tZ<|iP I (fun n4=>?_) (fun n4=>?_)
  ·have u1:i<L.length:=oM;have n5:=za6 a5 oM;have u2:L[((i:Nat):Int).toNat]?=some L[i]:=bd u1;refine kP<|tN<|sQ<|bK<|rZ<|aT I<|bK<|oP (ι:=Nat) (fun j=>[(2,pp Z 0),(3,pp b3 0),(4,pp b4 0),(5,pp b5 0),(7,.slice qa L.length da),(8,.slice qg (e.pairs.map Prod.snd).length dg),(10,vi i),(11,vi j)]) (fun _=>g3)
    (fun _=>pt b5 (bY #[.slice none 0 0,vb false] 74)::pt b4 (bY #[.slice none 0 0] 29)::pt b3 (.cells (edV e (.slice sp e.sides.length sc)<|.slice C e.pairs.length D) 48 (0,0))::pt Z (bY #[.slice p l.length c] 29)::s)
    (fun j=>j≤i∧∀ b (hb:b<j) (hl:b<L.length),L[i]≠L[b]) (fun j=>i - j) 0 sB rfl rfl ⟨zf7 _,fun b hb=>absurd hb oM⟩ ?_
   rintro j ⟨hj,j0⟩;try dsimp only at hj j0 ⊢
   refine sQ<|sW I<|lM I<|yL I<|tZ<|iP I (fun n6=>?_) (fun n6=>?_)
   ·have u3:j<L.length:=oM;have u4:L[((j:Nat):Int).toNat]?=some L[j]:=bd u3;refine kP<|tN<|sQ<|bK<|sQ<|dW [] [(0,2),(1,2),(2,2),(3,1),(4,2),(5,2),(6,2),(7,1),(8,2)] ze4 kR<|yM I<|yM I<|pU I (iA aA zT3 I I n5 oM sL)<|gB I (eB iT3 I (za7 a5) u2 I)<|yM I<|yM I<|pU I (iA aA zT3 I I n5 oM sL)<|gB I (eB iT3 I (za7 a5) u4 I)<|pU I (eQ I I)<|du<|tN<|iP I (fun j1=>?_) (fun j1=>?_)
    ·have c4:AE e.pairs=true:=by
      unfold AE;rw[hL];refine zf9 fun hn=>?_;have h5:=(List.getElem_inj hn).1 j1;omega
     rw[zg2 c4];exact rZ<|lK (qV 3 aj ae I I I)<|lU (za3 I buildZ74)<|oZ (sK 1 ae I I I I I sB)<|oZ (sK 0 bZ I I I I I sB)<|aT I<|rE<|bR<|tR<|tR<|bR<|bR<|tR<|tR<|bR<|tR<|oR 1 0 s (.inl I) results117 I I I aj ae gX bZ I I I I uR ⟨I,O,_,_,_,_,I,i2,fun h=>by cases h⟩
    ·refine kP<|bN<|tN<|rG<|lM I<|yD I<|lA I<|cp ?_;exact ct (j+1) sB I I ⟨oM,fun b hb hl=>by
      by_cases e9:b=j
      ·subst e9;exact j1
      ·exact j0 b oM hl⟩ oM
   ·refine xI<|tX<|tX<|bX<|bN<|tN<|rG<|lM I<|yD I<|lA I<|cp ?_;exact ct (i+1) sB I I ⟨oM,fun a ha hl b hb=>by
     by_cases e9:a=i
     ·subst e9;exact j0 b oM oM
     ·exact i3 a oM hl b hb⟩ oM
  ·have u6:L.Nodup:=ER fun a ha b hb=>i3 a oM ha b hb;have c4:AE e.pairs=false:=by
    unfold AE;rw[hL];exact zf8 fun h=>h u6
   rw[c4,zg1 Bool.false_ne_true];refine xI<|tX<|tX<|bX<|tN<|rZ<|aT I<|sQ<|rZ<|aT I<|bK<|oP (ι:=Nat×PH) (fun i=>[(2,pp Z 0),(3,pp b3 0),(4,pp b4 0),(5,pp b5 0),(8,.slice qg (e.pairs.map Prod.snd).length dg),(12,vi<|if (e.pairs.take i.1).all (iT l e.pairs) then 0 else 33),(13,vi i.1)]) (fun i=>i.2)
    (fun _=>pt b5 (bY #[.slice none 0 0,vb false] 74)::pt b4 (bY #[.slice none 0 0] 29)::pt b3 (.cells (edV e (.slice sp e.sides.length sc)<|.slice C e.pairs.length D) 48 (0,0))::pt Z (bY #[.slice p l.length c] 29)::s)
    (fun i=>i.1≤e.pairs.length∧Le g3 i.2∧(e.pairs.take i.1).any (fun p=>decide<|nH l p.1≠nH l p.2)=false) (fun i=>e.pairs.length - i.1) (0,g3) sB rfl rfl ⟨zf7 _,zb9 _,rfl⟩ ?_
   rintro ⟨k3,g4⟩ ⟨u7,y,e0⟩;dsimp only at u7 y e0 ⊢;refine sQ<|sW I<|lU (bj aO I jP I)<|lK (qL (v:=.slice C e.pairs.length D) mA I<|cO 2 I I)<|lU (eN ld I)<|yL I<|tZ<|iP I (fun o1=>?_) (fun o1=>?_)
   ·have P:k3<e.pairs.length:=oM;have d:=za6 b9 oM;have N:=za5 S y;have Y:=i2.mono y;have A:e.pairs[((k3:Nat):Int).toNat]?=some e.pairs[k3]:=bd P;have c1:e.pairs.take (k3+1)=e.pairs.take k3++[e.pairs[k3]]:=tS P;have c5:nH l e.pairs[k3].1≠nH l e.pairs[k3].2→e.pairs.any (fun p=>decide<|nH l p.1≠nH l p.2)=true:=fun h=>zj9.2 ⟨_,gM P,zf9 h⟩;have c6:nH l e.pairs[k3].1=nH l e.pairs[k3].2→(e.pairs.take<|k3+1).any (fun p=>decide<|nH l p.1≠nH l p.2)=false:=fun h=>by
     rw[c1,List.any_append,e0,Bool.false_or];simp[h]
    have a9:(e.pairs.take<|k3+1).all (iT l e.pairs)=((e.pairs.take k3).all (iT l e.pairs)&&iT l e.pairs e.pairs[k3]):=by
     rw[c1,List.all_append];simp
    have j2:=n2 e.pairs[k3].1;have l0:=n2 e.pairs[k3].2;generalize e.pairs[k3]=x at *;obtain ⟨H,J⟩:=x;dsimp only at c5 c6 j2 l0;have l1:iT l e.pairs (H,J)=decide (mu ((jo l H).map<|lf<|byF e.pairs)=mu ((jo l J).map<|lf<|byF e.pairs)):=rfl;generalize iT l e.pairs (H,J)=al at *;refine kP<|tN<|sQ<|bK<|lu (ι:=Nat×PH×Rc) (fun i=>[(2,pp Z 0),(3,pp b3 0),(4,pp b4 0),(5,pp b5 0),(8,.slice qg (e.pairs.map Prod.snd).length dg),(12,vi<|if (e.pairs.take k3).all (iT l e.pairs) then 0 else 33),(13,vi k3),(14,pp i.1 0)]) (fun i=>i.2.1)
     (fun i=>pt i.1 (bY #[vi i.2.2.id,vi i.2.2.dim,.slice i.2.2.sv.p i.2.2.sv.n i.2.2.sv.c] 61)::pt b5 (bY #[.slice none 0 0,vb false] 74)::pt b4 (bY #[.slice none 0 0] 29)::pt b3 (.cells (edV e (.slice sp e.sides.length sc)<|.slice C e.pairs.length D) 48 (0,0))::pt Z (bY #[.slice p l.length c] 29)::s)
     (fun i=>Le g4 i.2.1∧an i.2.1 ((findC l H).getD aJ) i.2.2) ?_ ?_
    ·refine C1 [12] ze4 kR ?_;refine Ie (i:=0) I kR (qV 3 aj ae I I I) dC<|iO (i:=1) I kR (bj aO I jP I) dC<|Ie (i:=2) I kR (qL (v:=.slice C e.pairs.length D) mA I<|cO 2 I I) dC<|iO (i:=3) I kR (mV I) dC<|iO (i:=4) I kR (iA ld qQ I I d oM sL) dC<|iO (i:=5) I kR (SU.indexAddrC rq zT3 I d I dC dC) dC<|Ie (i:=6) I kR (aZ (e:=em) (o:=0) (u:=vi H) iT3 I (za7 N) A I) dC ?_
     repeat' (first
      | (refine SB.o (i:=7) rfl (bt call42 rfl<|aK E g4 _ _ l H Y hf) dC (.inr<|by rintro _ g5 _ ⟨rfl,t,r5,rfl,T⟩;exact⟨by assumption,(by exact .cons _<|.refl _)⟩) ?_;rintro _ g5 _ ⟨rfl,t,r5,rfl,T⟩;refine iO (i:=8) I kD (mV I) dC ?_;refine iO (i:=9) I kD (xT I I) dC ?_;refine iO (i:=10) I kD (xT I I) dC ?_)
      | (refine SB.o (i:=7) rfl (bt call42 rfl<|aK E g4 _ _ l H Y hf) dC (.inr<|by rintro _ g5 _ ⟨rfl,t,r5,rfl,T⟩;exact⟨by assumption,(by exact .refl _)⟩) ?_;rintro _ g5 _ ⟨rfl,t,r5,rfl,T⟩;refine iO (i:=8) I kD (mV I) dC ?_;refine iO (i:=9) I kD (xT I I) dC ?_;refine iO (i:=10) I kD (xT I I) dC ?_)
      | (refine SB.o (i:=11) rfl (aL zl6) dC (.inr<|by rintro _ _ _ ⟨a2,rfl,rfl,rfl⟩;exact⟨by exact zb9 _,(by exact .cons _<|.refl _)⟩) ?_;rintro _ _ _ ⟨a2,rfl,rfl,rfl⟩)
      | (refine SB.o (i:=11) rfl (aL zl6) dC (.inr<|by rintro _ _ _ ⟨a2,rfl,rfl,rfl⟩;exact⟨by assumption,(by exact .cons _<|.refl _)⟩) ?_;rintro _ _ _ ⟨a2,rfl,rfl,rfl⟩)
      | (refine SB.on (i:=12) I (sK 0 ar I I I I I sB) (.inl dC) ?_;rintro _ _ _ ⟨rfl,rfl⟩;refine iO (i:=13) I kD (aS I) dC ?_)
      | refine zd8 7 11 kD ?_ ?_
      | refine zd7 11 kD ?_
      | refine zd7 12 kD ?_
      | refine zd7 7 kD ?_
      | (refine H5 kD ?_;exact za9 (a2,g5,r5) sB I I ⟨t,T⟩))
    rintro ⟨a2,g5,r5⟩ ⟨t,T⟩;obtain ⟨u8,l2,l3,l4,m1⟩:=r5;obtain ⟨f1,f2,o2⟩:=T;dsimp only at t f1 f2 o2 ⊢;have p0:=Y.mono t;have b1:=za5 N t;refine lu (ι:=Nat×PH×Rc) (fun i=>[(2,pp Z 0),(3,pp b3 0),(4,pp b4 0),(5,pp b5 0),(8,.slice qg (e.pairs.map Prod.snd).length dg),(12,vi<|if (e.pairs.take k3).all (iT l e.pairs) then 0 else 33),(13,vi k3),(14,pp a2 0),(16,pp i.1 0)]) (fun i=>i.2.1)
     (fun i=>pt i.1 (bY #[vi i.2.2.id,vi i.2.2.dim,.slice i.2.2.sv.p i.2.2.sv.n i.2.2.sv.c] 61)::pt a2 (bY #[vi u8,vi l2,.slice l3 l4 m1] 61)::pt b5 (bY #[.slice none 0 0,vb false] 74)::pt b4 (bY #[.slice none 0 0] 29)::pt b3 (.cells (edV e (.slice sp e.sides.length sc)<|.slice C e.pairs.length D) 48 (0,0))::pt Z (bY #[.slice p l.length c] 29)::s)
     (fun i=>Le g5 i.2.1∧an i.2.1 ((findC l J).getD aJ) i.2.2) ?_ ?_
    ·refine C1 [12] ze4 kR ?_;refine Ie (i:=0) I kR (qV 4 aj ae I I I) dC<|iO (i:=1) I kR (bj aO I jP I) dC<|Ie (i:=2) I kR (qL (v:=.slice C e.pairs.length D) mA I<|cO 3 I I) dC<|iO (i:=3) I kR (mV I) dC<|iO (i:=4) I kR (iA ld qQ I I d oM sL) dC<|iO (i:=5) I kR (SU.indexAddrC rq zT3 I d I dC dC) dC<|Ie (i:=6) I kR (aZ (e:=em) (o:=1) (u:=vi J) iT3 I (za7 b1) A I) dC ?_
     repeat' (first
      | (refine SB.o (i:=7) rfl (bt call42 rfl<|aK E g5 _ _ l J p0 hf) dC (.inr<|by rintro _ g6 _ ⟨rfl,f,r6,rfl,U⟩;exact⟨by assumption,(by exact .cons _<|.refl _)⟩) ?_;rintro _ g6 _ ⟨rfl,f,r6,rfl,U⟩;refine iO (i:=8) I kD (mV I) dC ?_;refine iO (i:=9) I kD (xT I I) dC ?_;refine iO (i:=10) I kD (xT I I) dC ?_)
      | (refine SB.o (i:=7) rfl (bt call42 rfl<|aK E g5 _ _ l J p0 hf) dC (.inr<|by rintro _ g6 _ ⟨rfl,f,r6,rfl,U⟩;exact⟨by assumption,(by exact .refl _)⟩) ?_;rintro _ g6 _ ⟨rfl,f,r6,rfl,U⟩;refine iO (i:=8) I kD (mV I) dC ?_;refine iO (i:=9) I kD (xT I I) dC ?_;refine iO (i:=10) I kD (xT I I) dC ?_)
      | (refine SB.o (i:=11) rfl (aL zl6) dC (.inr<|by rintro _ _ _ ⟨c7,rfl,rfl,rfl⟩;exact⟨by exact zb9 _,(by exact .cons _<|.refl _)⟩) ?_;rintro _ _ _ ⟨c7,rfl,rfl,rfl⟩)
      | (refine SB.o (i:=11) rfl (aL zl6) dC (.inr<|by rintro _ _ _ ⟨c7,rfl,rfl,rfl⟩;exact⟨by assumption,(by exact .cons _<|.refl _)⟩) ?_;rintro _ _ _ ⟨c7,rfl,rfl,rfl⟩)
      | (refine SB.on (i:=12) I (sK 0 ar I I I I I sB) (.inl dC) ?_;rintro _ _ _ ⟨rfl,rfl⟩;refine iO (i:=13) I kD (aS I) dC ?_)
      | refine zd8 7 11 kD ?_ ?_
      | refine zd7 11 kD ?_
      | refine zd7 12 kD ?_
      | refine zd7 7 kD ?_
      | (refine H5 kD ?_;exact za9 (c7,g6,r6) sB I I ⟨f,U⟩))
    rintro ⟨c7,g6,r6⟩ ⟨f,U⟩;obtain ⟨y2,p1,p2,p3,p4⟩:=r6;obtain ⟨f3,f4,p5⟩:=U;dsimp only at f f3 f4 p5 ⊢;have u9:nH l H=l2:=by unfold nH;rw[f2]
    have v0:nH l J=p1:=by unfold nH;rw[f4]
    rw[u9,v0] at c5 c6;have p6:SlA encSide g6 (.slice l3 l4 m1)<|jo l H:=za5 o2 f;have p7:SlA encSide g6 (.slice p2 p3 p4)<|jo l J:=p5;have h6:=za5 b1 f;have W:=t.trans f;refine sQ<|rZ<|lU (bj ap I zT3 I)<|lK (qL (v:=vi l2) iT3 I<|cO 1 I I)<|lU (bj ap I zT3 I)<|lK (qL (v:=vi p1) iT3 I<|cO 0 I I)<|lU (nQ I I)<|tZ<|iP I (fun m2=>?_) (fun m2=>?_)
    ·rw[zg2<|c5 m2];exact rZ<|lK (qV 5 aj ae I I I)<|lU (za3 I buildZ74)<|oZ (sK 3 ae I I I I I sB)<|oZ (sK 2 bZ I I I I I sB)<|aT I<|rE<|tR<|bR<|tR<|tR<|bR<|tR<|oR 3 2 s (.inl I) results117 I I I aj ae gX bZ I I I I uR ⟨I,O.trans<|y.trans W,_,_,_,_,I,Y.mono W,fun h=>by cases h⟩
    ·have h7:=c6<|Decidable.not_not.1 m2;have b6:e.pairs.length<1099511627776:=oM;refine kP<|tN<|sQ<|dW [] [(0,2),(1,1),(2,2),(3,1),(5,2),(6,1),(7,2),(8,1),(4,0),(9,0),(10,0),(11,2)] ze4 kR<|pU I (bj ap I aI I)<|gB I (qL (v:=.slice l3 l4 m1) bg I<|cO 1 I I)<|pU I (bj aO I jP I)<|gB I (qL (v:=.slice C e.pairs.length D) mA I<|cO 4 I I)<|pU I (bj ap I aI I)<|gB I (qL (v:=.slice p2 p3 p4) bg I<|cO 0 I I)<|pU I (bj aO I jP I)<|gB I (qL (v:=.slice C e.pairs.length D) mA I<|cO 4 I I)<|mf I (bt call184 I<|ie E g6 _ _ _ (jo l H) e.pairs p6 j2 h6 b6) dC (.inr iR) ?_;rintro v137 g7 _ ⟨rfl,V,v1⟩;refine mf rfl (bt call184 rfl<|ie E g7 _ _ _ (jo l J) e.pairs (za5 p7 V) l0 (za5 h6 V) b6) dC (.inr<|by rintro v142 g8 _ ⟨rfl,B,p9⟩;exact⟨by exact kc io io,(by exact .refl _)⟩) ?_;rintro v142 g8 _ ⟨rfl,B,p9⟩;have c9:=V.trans B;refine mf I (bt call183 I<|lj E g8 _ _ _ _ _ (za5 v1 B) p9 (by rw[ze7];exact j2)<|by rw[ze7];exact l0) dC (.inr iR) ?_;rintro _ _ _ ⟨rfl,rfl,rfl⟩;rw[← l1];refine pU I (oF I)<|du<|tN (iQ I (fun hq=>?_) fun hq=>?_)
     ·have m3:al=false:=by simpa using hq
      rw[m3,Bool.and_false] at a9;exact rG<|lA I<|cp<|bN<|tN<|rG<|lM I<|yD I<|lA I<|cp<|dR (.cons _<|.cons _<|.refl _)<|ct (k3+1,g8) ⟨I,I,I,I,I,(by rw[a9];rfl),rfl,trivial⟩ rfl rfl ⟨by dsimp only;omega,y.trans<|W.trans c9,h7⟩ (by dsimp only;omega)
     ·have m3:al=true:=by simpa using hq
      rw[m3,Bool.and_true] at a9;exact kP<|bN<|tN<|rG<|lM I<|yD I<|lA I<|cp<|dR (.cons _<|.cons _<|.refl _)<|ct (k3+1,g8) ⟨I,I,I,I,I,(by rw[a9];rfl),rfl,trivial⟩ rfl rfl ⟨by dsimp only;omega,y.trans<|W.trans c9,h7⟩ (by dsimp only;omega)
   ·have q0:e.pairs.take k3=e.pairs:=tL oM;rw[q0] at e0 ⊢;rw[e0,zg1 Bool.false_ne_true];have Y:=i2.mono y;have d0:=O.trans y;cases x6:e.pairs.all (iT l e.pairs) with
    | false =>
     have e33:(if false=true then (0:Int) else 33)=33:=rfl;rw[e33];exact xI<|tX<|tX<|bX<|tN<|sQ<|sW I<|lU (nQ I I)<|tZ<|za2 I<|rZ<|lK (qV 3 aj ae I I I)<|lU (za3 I buildZ74)<|lM I<|oZ (sK 1 ae I I I I I sB)<|oZ (sK 0 bZ I I I I I sB)<|aT I<|rE<|tR<|oR 1 0 s (.inl I) results117 I I I aj ae gX bZ I I I I uR ⟨I,d0,_,_,_,_,I,Y,fun h=>by cases h⟩
    | true =>
    have e00:(if true=true then (0:Int) else 33)=0:=rfl;rw[e00,zg2 rfl];have q1:(e.pairs.map Prod.snd).length<1099511627776:=by rw[ze7];omega
    have b6:e.pairs.length<1099511627776:=oM;have N:=za5 S y;have q2:dA g4 (.slice qg (e.pairs.map Prod.snd).length dg)<|e.pairs.map Prod.snd:=za5 h4 y;have q3:=ir hf<|e.pairs.map Prod.snd;have v2:∀ x∈cd l (e.pairs.map Prod.snd),x.sides.length<1099511627776:=fun x hx=>q3.2 x hx;have v3:((am l).map gW).length<1099511627776:=by rw[ze7];exact (bG hf).1
    have v4:eP l e=(cd l<|e.pairs.map Prod.snd).map (Ee<|byF e.pairs):=rfl;rw[v4];generalize v5:cd l (e.pairs.map Prod.snd)=R at *;refine xI<|tX<|tX<|bX<|tN<|sQ<|sW I<|lU (nQ I I)<|tZ<|za1 I<|kP<|tN<|rZ<|lK (qV 3 aj ae I I I)<|lM I<|lW (bt call180 I<|lr E g4 _ _ _ l (e.pairs.map Prod.snd) Y hf q2 q1) ?_;rintro _ _ _ ⟨rfl,u5,X,rfl,a3,rfl⟩;rw[v5] at a3;refine zd4 fun ⟨w0,m4⟩=>?_;obtain ⟨q5,d5,rfl⟩:=ag (i:=0) m4 rfl;have v6:0<X.length→based (.slice q5 X.length d5)=true:=fun h=>(by obtain ⟨b0,c0,he⟩:=bI (i:=0) m4 rfl h;rw[he];rfl);clear m4 w0;refine bW (aL zl9) fun e4=>?_;refine oZ (sK 0 ae I I I I I sB) ?_;refine tZ<|sQ<|rZ<|aT I<|bK ?_;have x7:=a3.length;have y3:=q3.1;refine oP (ι:=Nat×PH×List Rc) (fun i=>[(2,pp Z 0),(3,pp b3 0),(4,pp b4 0),(5,pp b5 0),(18,pp e4 0),(19,vi i.1)]) (fun i=>i.2.1)
     (fun i=>pt e4 (bY #[.slice q5 X.length d5] 29)::rowA encCell 61 (.slice q5 X.length d5) i.2.2::pt b5 (bY #[.slice none 0 0,vb false] 74)::pt b4 (bY #[.slice none 0 0] 29)::pt b3 (.cells (edV e (.slice sp e.sides.length sc)<|.slice C e.pairs.length D) 48 (0,0))::pt Z (bY #[.slice p l.length c] 29)::s)
     (fun i=>i.1≤R.length∧Le g4 i.2.1∧ay (an i.2.1) ((R.take i.1).map (Ee<|byF e.pairs)++R.drop i.1) i.2.2) (fun i=>R.length - i.1) (0,g4,X) sB rfl rfl ⟨zf7 _,zb9 _,a3⟩ ?_
    rintro ⟨k5,g5,ds⟩ ⟨v7,t,c2⟩;dsimp only at v7 t c2 ⊢;have v8:=c2.length;rw[ze6,ze7,ze5,zf1] at v8;refine sQ<|sW I<|lU (bj dw I cg I)<|lK (qL (v:=.slice q5 X.length d5) ei I<|cO 0 I I)<|lU (eN aB I)<|yL I<|tZ<|iP I (fun q4=>?_) (fun q4=>?_)
    ·have n0:k5<R.length:=oM;have q9:k5<ds.length:=oM;have f7:=v6 oM;have r0:ds[((k5:Nat):Int).toNat]?=some ds[k5]:=bd q9;have v9:=c2.get (GE (Ee<|byF e.pairs) n0)<|bd q9;have w1:=EW (Ee<|byF e.pairs) n0;have w2:=v2 _<|gM n0;have b1:=za5 N t;generalize ds[k5]=x at *;generalize R[k5]=cx at *;obtain ⟨xi,xd,xp,xn,xc⟩:=x;obtain ⟨e1,e2,h8⟩:=v9;dsimp only at e1 e2 h8;subst e1 e2;refine kP<|tN<|sQ<|bK ?_;refine dW [14] [(0,2),(1,1),(2,2),(3,2),(4,1),(5,2),(6,2),(7,2),(8,1),(9,2),(10,1),(11,0),(12,2),(13,2),(14,0)] ze4 kR<|pU I (bj dw I cg I)<|gB I (qL (v:=.slice q5 X.length d5) ei I<|cO 0 I I)<|yM I<|pU I (bj dw I cg I)<|gB I (qL (v:=.slice q5 X.length d5) ei I<|cO 0 I I)<|yM I<|pU I (iA aB ar I I f7 oM sL)<|pU I (fC ap I aI I f7)<|gB I (aZ (e:=encCell) (o:=2) bg I (zb7 1 I) r0 I)<|pU I (bj aO I jP I)<|gB I (qL (v:=.slice C e.pairs.length D) mA I<|cO 4 I I)<|mf I (bt call184 I<|ie E g5 _ _ _ cx.sides e.pairs h8 w2 b1 b6) dC (.inr iR) ?_;rintro v171 g6 _ ⟨rfl,f,r1⟩;obtain ⟨q6,d6,rfl⟩:=za4 r1;refine pU I (iA aB ar I I f7 oM sL)<|pU I (fC ap I aI I f7)<|H8 I (JF (e:=encCell) (a:=(⟨cx.id,cx.dim,⟨xp,xn,xc⟩⟩:Rc)) (j:=((k5:Nat):Int).toNat) (o:=2) 1 ⟨cx.id,cx.dim,⟨q6,(cx.sides.map<|lf<|byF e.pairs).length,d6⟩⟩ aI I I I r0 I I dC I) (.inl dC) ?_;rintro _ _ _ ⟨rfl,rfl⟩;refine du<|bN<|tN<|rG<|lM I<|yD I<|lA I<|cp ?_;exact ct (k5+1,g6,ds.set k5 ⟨cx.id,cx.dim,⟨q6,(cx.sides.map<|lf<|byF e.pairs).length,d6⟩⟩) sB I I ⟨by dsimp only;omega,t.trans f,by
      dsimp only;rw[w1];exact ay.set (R:=an g6) (a:=Ee (byF e.pairs) cx) ⟨I,I,r1⟩ k5 (c2.mono fun _ _=>an.mono f)⟩ (by dsimp only;omega)
    ·have r2:R.take k5=R:=tL oM;have r3:R.drop k5=[]:=List.drop_eq_nil_of_le oM;rw[r2,r3,zc7] at c2;have r4:ds.length=X.length:=oM;rw[← r4];refine xI (tX<|tX<|bX<|tN<|sQ<|cP (zk2 _ _ _)<|fS fun g6 f w3=>?_);have w5:ai g6 (.slice q5 ds.length d5)<|R.map<|Ee<|byF e.pairs:=⟨ds,w3,c2.mono fun _ _=>an.mono f⟩;have d1:=t.trans f;have w6:=Y.mono d1;refine rG<|lK (qV 4 aj ae I I I)<|lW (bt call178 I<|fZ E g6 _ _ l w6 hf) ?_;rintro _ g7 _ ⟨rfl,V,iv,rfl,h9⟩;obtain ⟨q7,n7,d7,rfl⟩:=h9.form;refine bW (aL zl8) fun r7=>oZ (sK 0 qR I I I I I sB)<|tZ<|sQ<|rZ<|aT I<|bK ?_;have d2:=d1.trans V;have r8:=za5 N d2;have w7:=w5.mono V;refine oP (ι:=Nat×PH×Option Addr×Nat×Nat) (fun i=>[(2,pp Z 0),(3,pp b3 0),(4,pp b4 0),(5,pp b5 0),(18,pp e4 0),(20,pp r7 0),(21,vi i.1)]) (fun i=>i.2.1)
      (fun i=>pt r7 (bY #[.slice i.2.2.1 i.2.2.2.1 i.2.2.2.2] 72)::pt e4 (bY #[.slice q5 ds.length d5] 29)::pt b5 (bY #[.slice none 0 0,vb false] 74)::pt b4 (bY #[.slice none 0 0] 29)::pt b3 (.cells (edV e (.slice sp e.sides.length sc)<|.slice C e.pairs.length D) 48 (0,0))::pt Z (bY #[.slice p l.length c] 29)::s)
      (fun i=>i.1≤e.pairs.length∧Le g7 i.2.1∧Ims i.2.1 (.slice i.2.2.1 i.2.2.2.1 i.2.2.2.2) (fJ (e.pairs.take i.1)<|(am l).map gW)) (fun i=>e.pairs.length - i.1) (0,g7,q7,n7,d7) sB rfl rfl ⟨zf7 _,zb9 _,h9⟩ ?_
     rintro ⟨k8,g8,q8,n8,d8⟩ ⟨w9,B,b7⟩;dsimp only at w9 B b7 ⊢;refine sQ<|sW I<|lU (bj aO I jP I)<|lK (qL (v:=.slice C e.pairs.length D) mA I<|cO 4 I I)<|lU (eN ld I)<|yL I<|tZ<|iP I (fun r9=>?_) (fun r9=>?_)
     ·have P:k8<e.pairs.length:=oM;have d:=za6 b9 oM;have i0:=za5 r8 B;have A:e.pairs[((k8:Nat):Int).toNat]?=some e.pairs[k8]:=bd P;have s2:=wJ P<|(am l).map gW;generalize e.pairs[k8]=x at *;obtain ⟨H,J⟩:=x;dsimp only at s2;refine kP<|tN<|sQ<|bK<|dW [16] [(0,1),(1,2),(2,1),(3,2),(4,2),(5,2),(6,1),(7,2),(8,1),(9,2),(10,2),(11,2),(12,1),(13,0),(14,0),(15,0),(16,0)] ze4 kR<|gB I (qV 0 isAgg72 qR I I I)<|pU I (bj aO I jP I)<|gB I (qL (v:=.slice C e.pairs.length D) mA I<|cO 4 I I)<|yM I<|pU I (iA ld qQ I I d oM sL)<|pU I (SU.indexAddrC rq zT3 I d I dC dC)<|gB I (aZ (e:=em) (o:=1) (u:=vi J) iT3 I (za7 i0) A I)<|pU I (bj aO I jP I)<|gB I (qL (v:=.slice C e.pairs.length D) mA I<|cO 4 I I)<|yM I<|pU I (iA ld qQ I I d oM sL)<|pU I (SU.indexAddrC rq zT3 I d I dC dC)<|gB I (aZ (e:=em) (o:=0) (u:=vi H) iT3 I (za7 i0) A I)<|mf I (bt call181 I<|eS E g8 _ H 1<|.inr<|.inl I) dC (.inr iR) ?_;rintro _ g9 _ ⟨rfl,rfl,t0⟩;refine mf I (bS sty184 I I I (ab ⟨I,trivial⟩) dC) dC (.inr iR) ?_;rintro _ _ _ ⟨t1,rfl,rfl,rfl⟩;refine I5 fun g10 n1 t2=>?_;have x0:SlA fF g10 (.slice (some ⟨t1,0,none⟩) 1 1) [(H,1)]:=kb t2 rfl rfl;have b8:=t0.trans n1;refine mf I (bt call182 I<|jc E g10 _ _ _ _ J _ (b7.mono b8) (by rw[ye];exact v3) x0) dC (.inr<|by rintro _ g11 _ ⟨rfl,d3,x3,rfl,a4⟩;exact⟨by exact kc io io,(by exact .refl _)⟩) ?_;rintro _ g11 _ ⟨rfl,d3,x3,rfl,a4⟩;obtain ⟨x4,n11,d11,rfl⟩:=a4.form;refine H8 I (sK 0 qR I I I I I sB) (.inl dC) ?_;rintro _ _ _ ⟨rfl,rfl⟩;refine du<|bN<|tN<|rG<|lM I<|yD I<|lA I<|cp ?_;exact ct (k8+1,g11,x4,n11,d11) sB I I ⟨by dsimp only;omega,B.trans<|b8.trans d3,by dsimp only;rw[s2];exact a4⟩ (by dsimp only;omega)
     ·have t3:e.pairs.take k8=e.pairs:=tL oM;rw[t3] at b7;have x5:=w7.mono B;refine xI<|tX<|tX<|bX<|tN<|sQ (C1 [3,4] ze4 kR (Ie (i:=0) I kR (qV 1 aj ae I I I) dC ?_))
      repeat' (first
       | (refine SB.o (i:=1) rfl (IE<|qV 0 isAgg72 qR rfl rfl rfl) dC (.inr<|by rintro _ _ _ ⟨rfl,rfl,rfl⟩;exact⟨by exact zb9 _,(by exact .refl _)⟩) ?_;rintro _ _ _ ⟨rfl,rfl,rfl⟩;refine iO (i:=2) I kD (za3 I<|buildS74 _ _ _) dC ?_)
       | (refine SB.ob (i:=1) I (IE<|qV 0 isAgg72 qR I I I) dC kD ?_;rintro _ _ _ ⟨rfl,rfl,rfl⟩;refine iO (i:=2) I kD (za3 I<|buildS74 _ _ _) dC ?_)
       | (refine SB.on (i:=3) I (sK 3 ae I I I I I sB) (.inl dC) ?_;rintro _ _ _ ⟨rfl,rfl⟩)
       | (refine SB.on (i:=4) I (sK 2 bZ I I I I I sB) (.inl dC) ?_;rintro _ _ _ ⟨rfl,rfl⟩;refine iO (i:=5) I kD (aS I) dC ?_)
       | refine zd8 1 3 kD ?_ ?_
       | refine zd7 3 kD ?_
       | refine zd7 4 kD ?_
       | refine zd7 1 kD ?_
       | (refine H5 kD ?_;refine tN ?_;refine rE ?_;exact oR 3 2 s (.inl I) results117 I I I aj ae gX bZ I I I I uR ⟨I,d0.trans<|d2.trans B,_,_,_,_,I,x5,fun _=>b7⟩))
def ui (fv:Value)(e:Ed)(A:List Cl)(code:Int)(B:List Cl)(img:Int→List Tm)(bk:Bool):Prop :=
 ∀ (E:World) (g:PH) (s:Own) (bx mb ms:Nat) (u v:Value) (rs:List Rc),ai g u A→ay zq A rs→EdR g v e →
  cQ Tryz.prog E fv [pp bx 0,v] g (edP bx u mb ms false::mp mb (rs.map au)::mp ms []::(qS A rs++s)) (fun r g' s'=>Le g g'∧r=vi code∧(if code=0 then ∃ rs' ts,ay (an g') B rs'∧FU ts∧(ts.map Prod.fst).Nodup∧(∀ k,Ir ts k=img k)∧s'=edP bx u mb ms bk::mp mb (rs'.map au)::mp ms (xj ts)::(gt ts++s) else ∃ h,s'=h++s))
def GY (k:Int):List Tm:=[(k,1)]
theorem tt.gen {c:Value}{e:Ed}{code:Int}{B:List Cl}{bk:Bool}(h:tt c e A code B bk):ui c e A code B GY bk:=fun E g s bx f ms u v rs i j l=>by
 obtain ⟨n,cap,m,o,p⟩:=h E g s bx f ms u v rs i j l;refine⟨n,cap,m,o,p.mono ?_⟩;rintro r g' s' ⟨q,w,a⟩;refine⟨q,w,?_⟩;by_cases d:code=0
 ·rw[zg2 d] at a ⊢;obtain ⟨b,x,rfl⟩:=a;exact⟨b,[],x,fun t y=>by simp at y,List.nodup_nil,fun k=>I,I⟩
 ·rw[zg1 d] at a ⊢;exact a
def jt (g:PH)(code:Int)(D:List Cl)(ims:List<|Int×List Tm)(bk:Bool)(r:Value)(g':PH):Prop:=∃ u p n c b,r = .tuple #[.agg #[u],.agg #[.slice p n c,vb b],vi code]∧gr (mns g' g) u D∧(code=0→b=bk∧Ims g' (.slice p n c) ims)∧(code≠0→b=false∧Ims g' (.slice p n c) [])
theorem jt.old {g:PH}{code:Int}{D:List Cl}{a:List<|Int×List Tm}{bk:Bool}{r:Value}{g':PH}(h:jt g code D a bk r g'):fM code D a bk r g':=by
 obtain ⟨u,p,n,c,b,d,e,f⟩:=h;exact⟨u,p,n,c,b,d,e.cells<|fN _ _,f⟩
theorem gr.nil (g:PH):gr g (.slice none 0 0) []:=⟨[],RK.nil _ _ g,trivial⟩
theorem BI (v ev:Value)(l:List Cl)(e:Ed)(k:ai g v l)(m:aM l)(n:EdR g ev e)(d:List<|Int×List Tm)(bk:Bool)(b:eU rk e.kind=none∨(aq l).2≠0) :
  Ctr Tryz.prog E 32 #[.agg #[v],ev] g s fun r g' s'=>s=s'∧Le g g'∧jt g 1 [] d bk r g':=by
 obtain ⟨z,hz⟩:=Tryz.mtyKinds;obtain ⟨sv,pv,rfl,f,i⟩:=n;obtain ⟨sp,q,rfl⟩:=za4 f;obtain ⟨t,u,rfl⟩:=za4 i;obtain ⟨p,c,rfl⟩:=k.form;refine zb2 (args:=[.agg #[.slice p l.length c],.agg #[vi e.kind,vi e.cell,vi e.dim,vi e.new,vi e.other,.slice sp e.sides.length q,.slice t e.pairs.length u]]) func32 I ntmps32 (bE I) ?_;cases hg:eU rk e.kind with
 | none =>
  refine rZ (bW (bO I) fun w=>?_);refine bW (bO I) fun x=>bW (aL zl9) fun y=>bW (aL zl4) fun A=>aT I<|sQ<|dW [] [(1,2),(2,1),(0,0),(3,0),(4,2),(5,2),(6,2),(7,2),(8,2)] ze4 kR<|pU I (bj aO I zT3 I)<|gB I (qL iT3 I<|cO 2 I I)<|mf I (bt call86 I<|nr E g _) dC (.inr iR) ?_;rintro _ g1 _ ⟨rfl,a,B,rfl,j⟩;refine oQ I (SQ.eq (v':=.tuple #[z,vb false]) (qn hz I I<|bo.known j)<|by rw[hg];rfl) dC (.inr ⟨by assumption,(by exact .refl _)⟩) ?_;refine yM I<|pU I (xT I I)<|pU I (xT I I)<|pU I (aS I)<|pU I (aS I)<|du<|tN<|sQ<|sW I<|lU (oF I)<|lM I<|yA I<|yA I<|yA I<|yP I<|tZ<|za2 I<|rZ<|lU (za3 I buildE29)<|lU (za3 I buildZ74)<|oZ (sK 1 ae I I I I I sB)<|oZ (sK 0 bZ I I I I I sB) ?_;refine aT I<|rE<|tR ?_;exact oR 1 0 s (.inl I) results32 I I I aj ae gX bZ I I I I uR ⟨I,a,_,_,_,_,_,I,gr.nil _,(fun h=>by cases h),fun _=>⟨I,Ims.nil _⟩⟩
 | some fv =>
  have hc:decide ((aq l).2=0)=false:=zf8 (by
   rcases b with h | h
   ·rw[hg] at h;cases h
   ·exact h)
  refine rZ (bW (bO I) fun w=>?_);refine bW (bO I) fun x=>bW (aL zl9) fun y=>bW (aL zl4) fun A=>aT I<|sQ<|dW [] [(1,2),(2,1),(0,0),(3,0),(4,2),(5,2),(6,2),(7,2),(8,2)] ze4 kR<|pU I (bj aO I zT3 I)<|gB I (qL iT3 I<|cO 2 I I)<|mf I (bt call86 I<|nr E g _) dC (.inr iR) ?_;rintro _ g1 _ ⟨rfl,a,B,rfl,j⟩;refine oQ I (SQ.eq (v':=.tuple #[fv,vb true]) (qn hz I I<|bo.known j)<|by rw[hg];rfl) dC (.inr ⟨by assumption,(by exact .refl _)⟩) ?_;refine yM I<|pU I (xT I I)<|pU I (xT I I)<|pU I (aS I)<|pU I (aS I)<|du<|tN<|sQ<|sW I<|lU (oF I)<|lM I<|lR (gT I I I dC) (qV 3 aj ae I I I) dC<|IQ (gT I I I dC) (bt call31 I<|mP E g1 _ _ l (k.mono a) m false hc) dC ?_;rintro _ _ _ ⟨rfl,rfl,rfl⟩;refine lY I I I (oF I)<|yF I<|tZ<|za2 I<|rZ<|lU (za3 I buildE29)<|lU (za3 I buildZ74)<|oZ (sK 1 ae I I I I I sB)<|oZ (sK 0 bZ I I I I I sB) ?_;refine aT I<|rE<|tR ?_;exact oR 1 0 s (.inl I) results32 I I I aj ae gX bZ I I I I uR ⟨I,a,_,_,_,_,_,I,gr.nil _,(fun h=>by cases h),fun _=>⟨I,Ims.nil _⟩⟩
theorem BH (v ev:Value)(l:List Cl)(e:Ed)(R:ai g v l)(S:aM l)(he:EdR g ev e)(hr:(aq l).2=0)(T:Value)(code:Int)(B:List Cl)(bk:Bool)(hg:eU rk e.kind=some T)(img:Int→List Tm)(F:ui T e (aa l) code B img bk)(hB:code=0→aM B∧(B.map Cl.id).Nodup) :
  Ctr Tryz.prog E 32 #[.agg #[v],ev] g s fun r g' s'=>s=s'∧Le g g'∧jt g (aX code B).1 (aX code B).2 ((if bk then aa B else aa l).map fun c=>(c.id,img c.id)) bk r g':=by
 obtain ⟨z,hz⟩:=Tryz.mtyKinds;have U:=he;obtain ⟨sv,pv,rfl,V,W⟩:=he;obtain ⟨sp,O,rfl⟩:=za4 V;obtain ⟨P,Q,rfl⟩:=za4 W;obtain ⟨p,c,rfl⟩:=R.form;have hc:decide ((aq l).2=0)=true:=zf9 hr;have X:((aa l).map Cl.id).Nodup:=by
  rw[List.Nodup,zk5];exact (i9 hr).asc.imp fun h=>by omega
 have Y:=aF S;refine zb2 (args:=[.agg #[.slice p l.length c],.agg #[vi e.kind,vi e.cell,vi e.dim,vi e.new,vi e.other,.slice sp e.sides.length O,.slice P e.pairs.length Q]]) func32 I ntmps32 (bE I)<|rZ (bW (bO I) fun Z=>?_);refine bW (bO I) fun b3=>bW (aL zl9) fun b4=>bW (aL zl4) fun b5=>aT I<|sQ<|dW [] [(1,2),(2,1),(0,0),(3,0),(4,2),(5,2),(6,2),(7,2),(8,2)] ze4 kR<|pU I (bj aO I zT3 I)<|gB I (qL iT3 I<|cO 2 I I)<|mf I (bt call86 I<|nr E g _) dC (.inr iR) ?_;rintro _ g1 _ ⟨rfl,a,bq,rfl,hk⟩;refine oQ I (SQ.eq (v':=.tuple #[T,vb true]) (qn hz I I<|bo.known hk)<|by rw[hg];rfl) dC (.inr ⟨by assumption,(by exact .refl _)⟩) ?_;refine yM I<|pU I (xT I I)<|pU I (xT I I)<|pU I (aS I)<|pU I (aS I)<|du<|tN<|sQ<|sW I<|lU (oF I)<|lM I<|lR (gT I I I dC) (qV 3 aj ae I I I) dC<|IQ (gT I I I dC) (bt call31 I<|mP E g1 _ _ l (R.mono a) S true hc) dC ?_;rintro _ _ _ ⟨rfl,rfl,rfl⟩;refine lY I I I (oF I)<|yF I<|tZ<|za1 I<|kP<|tN<|rZ<|lK (qV 3 aj ae I I I)<|lW (bt call87 I<|EN E g1 _ _ l (R.mono a) S X) ?_;rintro _ g2 _ ⟨d,bx,u,q,ms,rs,rfl,hu,hO,rfl⟩;refine aT I<|sW I<|lM I<|lK (qV ((qS (aa l) rs).length+2+3) jS dY I (by exact (vK (qS (aa l) rs) _ 2).trans I) I) ?_;refine lW (DO I I<|F E g2 _ bx q ms u _ rs hu hO<|U.mono<|a.trans d) ?_;rintro _ g3 _ ⟨f,rfl,b⟩;by_cases j:code=0
 ·obtain ⟨G,a0⟩:=hB j;subst j;rw[zg2 rfl] at b;obtain ⟨H,D,J,a1,a2,L,rfl⟩:=b;refine SL.to (g':=g3) (s':=edP bx u q ms bk::mp q (H.map au)::mp ms (xj D)::pt b5 (bY #[.slice none 0 0,vb false] 74)::pt b4 (bY #[.slice none 0 0] 29)::pt b3 (bY #[vi e.kind,vi e.cell,vi e.dim,vi e.new,vi e.other,.slice sp e.sides.length O,.slice P e.pairs.length Q] 48)::pt Z (bY #[.slice p l.length c] 29)::(gt D++s)) (fun w hw=>hw.perm (((List.perm_append_comm_assoc (gt D) [pt b5<|.cells #[.slice none 0 0,vb false] 74 (0,0),pt b4<|.cells #[.slice none 0 0] 29 (0,0),pt b3<|.cells #[vi e.kind,vi e.cell,vi e.dim,vi e.new,vi e.other,.slice sp e.sides.length O,.slice P e.pairs.length Q] 48 (0,0),pt Z<|.cells #[.slice p l.length c] 29 (0,0)] s).cons _).cons _ |>.cons _)) ?_;have M:=aF G;have k:aX 0 B=if (aq<|aa B).2≠0 then ((aq<|aa B).2,[]) else (0,aa B):=rfl
  rw[k];refine aT I (rZ<|bW (aL zl9) fun t=>?_);refine tZ (sQ<|sW I<|yE I<|tZ<|za2 I<|sQ<|cP (List.perm_middle (l₁:=[pt t<|.cells #[.slice none 0 0] 29 (0,0),edP bx u q ms bk]))<|IB fun g4 i a3=>?_);refine rG<|lM I<|lW (bt call88 I<|AU E g4 _ bx q ms u bk B H (J.mono fun _ _=>an.mono i) a0 G a3 1 I) ?_;rintro _ g5 _ ⟨rfl,m,u5,rfl,N⟩;have x:=N.cells<|fN _ _;obtain ⟨p5,c5,rfl⟩:=x.form;refine oZ (sK 0 ae I I I I I sB)<|tZ<|rG<|lK (qV 0 aj ae I I I)<|lW (bt call75 I<|nx E g5 _ _ (aa B) x M) ?_;rintro _ _ _ ⟨rfl,rfl,rfl⟩;refine lM I<|yX I<|yX I<|aT I<|sQ<|sW I<|lU (nQ I I)<|tZ<|iP I (fun y=>?_) (fun y=>?_)
  ·have A:(if (aq<|aa B).2≠0 then ((aq<|aa B).2,[]) else ((0:Int),aa B))=((aq<|aa B).2,[]):=zg2 y;rw[A];exact rZ<|lU (za3 I buildE29)<|lU (za3 I buildZ74)<|lM I<|oZ (sK 4 ae I I I I I sB)<|oZ (sK 3 bZ I I I I I sB)<|aT I<|rE<|tR<|oR 4 3 s (.inl I) results32 I I I aj ae gX bZ I I I I (.cons _<|.cons _<|.cons _<|.cons _<|.cons _<|.cons _<|.cons _<|List.sublist_append_right _ _) ⟨I,a.trans<|d.trans<|f.trans<|i.trans m,_,_,_,_,_,I,gr.nil _,fun h=>absurd h y,fun _=>⟨I,Ims.nil _⟩⟩
  ·have A:(if (aq<|aa B).2≠0 then ((aq<|aa B).2,[]) else ((0:Int),aa B))=(0,aa B):=zg1 y;rw[A];refine kP<|tN<|sQ<|SC.drawT 1 [4,5] [(0,1),(1,2),(2,1),(3,0),(4,0),(5,0),(6,2)] ze4 kR<|gB rfl (qV 0 aj ae rfl rfl rfl)<|yM rfl<|gB rfl (qV 0 aj ae rfl rfl rfl)<|mf rfl (bt call89 rfl<|C3 E g5 [pt t<|.cells #[.slice p5 (aa B).length c5] 29 (0,0),edP bx u q ms bk,mp ms<|xj D,pt b5<|.cells #[.slice none 0 0,vb false] 74 (0,0),pt b4<|.cells #[.slice none 0 0] 29 (0,0),pt b3<|.cells #[vi e.kind,vi e.cell,vi e.dim,vi e.new,vi e.other,.slice sp e.sides.length O,.slice P e.pairs.length Q] 48 (0,0),pt Z<|.cells #[.slice p l.length c] 29 (0,0)] s bx q ms u _ bk (aa l) (aa B) D a1 a2 (hu.mono<|f.trans<|i.trans m) x Y.1 M.1 1 2 rfl rfl) dC (.inr<|by rintro _ g6 _ ⟨rfl,n,iv,rfl,C⟩;exact⟨by assumption,(by exact .cons_cons _<|List.nil_sublist _)⟩) ?_;rintro _ g6 _ ⟨rfl,n,iv,rfl,C⟩;obtain ⟨p6,n6,c6,rfl⟩:=C.form;refine H8 I (sK 4 ae I I I I I sB) (.inl dC) ?_;rintro _ _ _ ⟨rfl,rfl⟩;refine H8 I (sK 3 bZ I I I I I sB) (.inl dC) ?_;rintro _ _ _ ⟨rfl,rfl⟩;refine pU I (aS I)<|du<|tN<|rE ?_;exact oR 4 3 s (.inl I) results32 I I I aj ae gX bZ I I I I uR ⟨I,a.trans<|d.trans<|f.trans<|i.trans<|m.trans n,_,_,_,_,_,I,(N.mono<|kx<|a.trans<|d.trans<|f.trans i).mono<|iL n,fun _=>⟨I,by rw[show (fun c:Cl=>(c.id,img c.id))=fun c:Cl=>(c.id,Ir D c.id) from funext fun c=>by rw[L]];exact C⟩,fun h=>absurd I h⟩
 ·rw[zg1 j] at b;obtain ⟨h,rfl⟩:=b;have k:aX code B=(code,[]):=zg2 j;rw[k];refine JD (List.sublist_append_right _ _) (aT I<|rZ<|bW (aL zl9) fun t=>?_);refine tZ<|sQ<|sW I<|yE I<|tZ<|iP I (fun h0=>?_) (fun h0=>?_)
  ·exact absurd h0 j
  ·refine kP<|tN<|sQ<|sW I<|lU (nQ I I)<|tZ<|iP I (fun y=>?_) (fun y=>?_)
   ·exact rZ<|lU (za3 I buildE29)<|lU (za3 I buildZ74)<|lM I<|oZ (sK 2 ae I I I I I sB)<|oZ (sK 1 bZ I I I I I sB)<|aT I<|rE<|tR<|oR 2 1 s (.inl I) results32 I I I aj ae gX bZ I I I I uR ⟨I,a.trans<|d.trans f,_,_,_,_,_,I,gr.nil _,fun h=>absurd h j,fun _=>⟨I,Ims.nil _⟩⟩
   ·exact absurd j y
set_option maxHeartbeats 1000000
theorem Rt.findC (h:Rt A)(id:Int):findC A id=ah A id:=by
 unfold Go.Proofs.YtpmoadbbfobbcaaGreatDoor.findC;rw[h.tab];rfl
theorem Rt.ids (h:Rt A):(A.map Cl.id).Nodup:=by
 rw[List.Nodup,zk5];exact h.asc.imp fun h=>by omega
theorem Rt.few64 (h:Rt A)(hc:c∈A):c.sides.length≤64:=(jr (h.form c hc).ok).1
theorem Rt.signs (h:Rt A)(hc:c∈A):∀ x∈c.sides,x.sign=1∨x.sign = -1:=(h.form c hc).sg
theorem Rt.difS (h:Rt A)(hc:c∈A):(c.sides.map ak.cell).Nodup:=by
 rw[List.Nodup,zk5];exact (h.form c hc).asc.imp fun h=>by omega
theorem Rt.getD (_:Rt A)(id:Int):((ah A id).getD aJ)=aJ∨((ah A id).getD aJ)∈A:=by
 cases h:ah A id with
 | none=>exact .inl rfl
 | some c=>exact .inr (aC h).1
theorem Rt.fits (h:Rt A):aM A:=⟨by have:=h.few;omega,fun c hc=>by have:=h.few64 hc;omega⟩
theorem Rt.mem_above (h:Rt A){id:Int}:id∈aG A k↔∃ c∈A,c.id=id∧oG c k=true:=by
 unfold aG;rw[h.tab,zf3];constructor
 ·rintro ⟨c,hc,rfl⟩;obtain ⟨a,b⟩:=zh5.1 hc;exact⟨c,a,I,b⟩
 ·rintro ⟨c,a,rfl,b⟩;exact⟨c,zh5.2 ⟨a,b⟩,I⟩
theorem Rt.not_self (h:Rt A)(k:Int):k ∉ aG A k:=fun e=>by
 obtain ⟨c,hc,rfl,b⟩:=h.mem_above.1 e;unfold oG at b;obtain ⟨x,f,g⟩:=zj9.1 b;obtain ⟨d,a,i⟩:=(h.form c hc).found x f;rw[zg4 g,h.find hc] at a;cases a;omega
theorem Rt.edge (h:Rt A)(hc:c∈A)(hd:c.dim=1):∃ z0 z1,c.sides=[z0,z1]∧((z0.sign=1∧z1.sign = -1)∨(z0.sign = -1∧z1.sign=1)):=by
 have a:=h.form c hc;have d:=a.cnt;have f:c.sides.length=2:=by
  unfold aY at d;simp[hd] at d;omega
 obtain ⟨z0,z1,b⟩:∃ z0 z1,c.sides=[z0,z1]:=by
  match g:c.sides,f with
  | [z0,z1],_=>exact⟨z0,z1,rfl⟩
 refine⟨z0,z1,b,?_⟩;have e:=a.one hd;have i:=a.sg z0 (by rw[b];simp);have j:=a.sg z1 (by rw[b];simp);rw[b] at e;simp[nG] at e;omega
theorem sX (h:Rt A)(e:Ed):df A e=tq A e:=by
 unfold df tq;rw[h.findC,h.findC,Bool.and_comm]
theorem yZ (h:Rt A)(e:Ed):∀ x∈mn A e,x.sign=1∨x.sign = -1:=by
 unfold mn
 rcases h.getD e.other with a | a
 ·rw[a];intro x b;cases b
 ·exact h.signs a
theorem wZ (h:Rt A)(e:Ed):(mn A e).length≤64:=by
 unfold mn
 rcases h.getD e.other with a | a
 ·rw[a];decide
 ·exact h.few64 a
theorem o8 {m:Int}{a x:List Tm}(h:m=k):dx k a (m,x)=(m,a):=zg2 h
theorem mG {m:Int}{a x:List Tm}(h:¬ m=k):dx k a (m,x)=(m,x):=zg1 h
def Cb (A:List Cl)(e:Ed)(k:Int):List Tm:=if k=e.cell then fY A e else if k=e.other then [] else [(k,1)]
theorem BA (h:Rt A)(e:Ed)(f:aG A e.cell=[e.other]):(((am A).map gW).map<|dx e.cell<|fY A e).map (dx e.other [])=A.map fun c=>(c.id,Cb A e c.id):=by
 have d:e.cell≠e.other:=fun g=>by
  have:=h.not_self e.cell;rw[f,g] at this;exact this dO
 rw[h.tab,zi6,zi6];refine zc9 fun c _=>?_;show dx e.other [] (dx e.cell (fY A e) (c.id,[(c.id,1)]))=_;unfold Cb;by_cases a:c.id=e.cell
 ·rw[o8 a,mG<|by rw[a];exact d,zg2 a]
 ·rw[mG a,zg1 a];by_cases b:c.id=e.other
  ·rw[o8 b,zg2 b]
  ·rw[mG b,zg1 b]
theorem wG (h:Rt A)(e:Ed):bD A e=e6 A e:=by
 unfold bD e6;rw[h.findC,h.findC,h.findC];have a:(e.new<1∨e.other<1∨e.new=e.other)↔(min e.new e.other<1∨e.new=e.other):=oM;simp only[a] <;> cases ah A e.cell <;> rfl
theorem vB {e:Ed}:∀ {S:List ak},(S.map ak.cell).Nodup→eW e S=if S.any (fun x=>decide<|x.cell=e.cell) then [⟨e.other,Ha S e.cell⟩] else []
 | [],_=>rfl
 | x::S,hn=>by
  rw[zg5,zk3] at hn;by_cases a:x.cell=e.cell
  ·have b:∀ y∈S,y.cell≠e.cell:=fun y c e'=>hn.1<|zf3.2 ⟨y,c,by rw[e',a]⟩;have d:S.filter (fun x=>decide<|x.cell=e.cell)=[]:=List.filter_eq_nil_iff.2 fun y c=>by simp[b y c]
   unfold eW Ha;simp[a,d]
  ·have ih:=vB (e:=e) hn.2;unfold eW Ha at ih ⊢;simp[a] at ih ⊢;exact ih
theorem zQ {c:Cl}:∀ {B:List Cl},(B.map Cl.id).Nodup→(∃ x∈B,x.id=c.id)→mx B c=B.map fun y=>if y.id=c.id then c else y
 | [],_,⟨x,d,_⟩=>by cases d
 | x::B,hn,d=>by
  rw[zg5,zk3] at hn;unfold mx;by_cases a:c.id=x.id
  ·rw[zg2 a,zg5,zg2 a.symm];congr 1;have:B.map (fun y=>if y.id=c.id then c else y)=B.map id:=zc9 fun y b=>by
    rw[zg1 fun e=>hn.1<|zf3.2 ⟨y,b,by rw[e,a]⟩];rfl
   rw[this,List.map_id]
  ·rw[zg1 a,zg5,zg1 fun e=>a e.symm];congr 1;refine zQ hn.2 ?_;obtain ⟨y,b,f⟩:=d
   rcases zf2.1 b with rfl | b
   ·exact absurd f.symm a
   ·exact⟨y,b,f⟩
theorem Af (h:(ah A k).isSome=false):∀ x∈A,x.id≠k:=fun x b c=>by
 have a:(ah A k).isSome=true:=by
  unfold ah;rw[List.find?_isSome];exact⟨x,b,by simpa using c⟩
 rw[h] at a;cases a
theorem Fd {S:List ak}{z0 z1:ak}(hl:S=[z0,z1])(h:(z0.sign=1∧z1.sign = -1)∨(z0.sign = -1∧z1.sign=1)):lh S true=⟨(lh S true).cell,1⟩∧lh S false=⟨(lh S false).cell,-1⟩:=by
 subst hl;obtain ⟨c,s0⟩:=z0;obtain ⟨c1,s1⟩:=z1
 rcases h with ⟨a,b⟩ | ⟨a,b⟩ <;> dsimp only at a b <;> subst a <;> subst b <;> exact⟨rfl,rfl⟩
theorem qr (h:Rt A)(e:Ed)(hc:e6 A e=0):oe A e=A.map (bQ e (lh ((findC A e.cell).getD aJ).sides false).cell)++[⟨e.new,0,[]⟩,⟨e.other,1,[⟨e.new,-1⟩,⟨(lh ((findC A e.cell).getD aJ).sides true).cell,1⟩]⟩]:=by
 rw[h.findC];unfold e6 at hc;cases t:ah A e.cell with
 | none=>rw[t] at hc;cases hc
 | some c =>
 rw[t] at hc;dsimp only at hc;split at hc
 ·cases hc
 rename_i hd;split at hc
 ·cases hc
 rename_i q;split at hc
 ·cases hc
 rename_i o;rw[zj5,not_or,zj8,zj8] at o;have hd:c.dim=1:=Decidable.not_not.1 hd;obtain ⟨f,l⟩:=aC t;obtain ⟨z0,z1,hz,u⟩:=h.edge f hd;obtain ⟨G,H⟩:=Fd hz u;unfold oe;rw[t,Option.getD_some];generalize lh c.sides true=zt at *;generalize lh c.sides false=zf at *;have g:(gI A e<|aG A e.cell).map Cl.id=A.map Cl.id:=by
  unfold gI;rw[zi6];refine zc9 fun y _=>?_;show (if y.id∈aG A e.cell then xF e y else y).id=y.id;split <;> rfl
 have b:∀ k,(∃ x∈gI A e (aG A e.cell),x.id=k)→∃ x∈A,x.id=k:=fun k ⟨x,d,a⟩=>by
  have i:k∈(gI A e<|aG A e.cell).map Cl.id:=zf3.2 ⟨x,d,a⟩;rw[g] at i;obtain ⟨y,j,a⟩:=zf3.1 i;exact⟨y,j,a⟩
 have m:=Af o.1;have n:=Af o.2;have r:mx (gI A e<|aG A e.cell) ⟨e.new,0,[]⟩=gI A e (aG A e.cell)++[⟨e.new,0,[]⟩]:=ox fun x d a=>by
  obtain ⟨y,j,a⟩:=b e.new ⟨x,d,a⟩;exact m y j a
 have s:mx (gI A e (aG A e.cell)++[⟨e.new,0,[]⟩]) ⟨e.other,1,[⟨e.new,-1⟩,zt]⟩=(gI A e (aG A e.cell)++[⟨e.new,0,[]⟩])++[⟨e.other,1,[⟨e.new,-1⟩,zt]⟩]:=ox fun x d a=>by
  rcases zf4.1 d with d | d
  ·obtain ⟨y,j,a⟩:=b e.other ⟨x,d,a⟩;exact n y j a
  ·simp at d;subst d;exact q<|.inr a
 have v:e.cell≠e.new:=fun a=>m c f (by rw[l,a]);have w:e.cell≠e.other:=fun a=>n c f (by rw[l,a]);have B:(((gI A e (aG A e.cell)++[(⟨e.new,0,[]⟩:Cl)])++[(⟨e.other,1,[⟨e.new,-1⟩,zt]⟩:Cl)]).map Cl.id).Nodup:=by
  rw[← s,← r];exact kV<|kV (by rw[g];exact h.ids)
 rw[r,s,zQ B]
 ·rw[zg6,zg6,zg9];congr 1
  ·unfold gI;rw[zi6];refine zc9 fun y j=>?_;show (if (if y.id∈aG A e.cell then xF e y else y).id=e.cell then _ else _)=_;have C:(if y.id∈aG A e.cell then xF e y else y).id=y.id:=by split <;> rfl
   rw[C];unfold bQ;by_cases i:y.id=e.cell
   ·have D:y=c:=h.same j f (by rw[i,l]);subst D;rw[zg2 i,zg2 i,i,hd,H]
   ·rw[zg1 i,zg1 i,vB<|h.difS j];by_cases p:oG y e.cell=true
    ·have E:y.id∈aG A e.cell:=h.mem_above.2 ⟨y,j,rfl,p⟩;unfold oG at p;rw[zg2 E,zg2 p];rfl
    ·have E:y.id ∉ aG A e.cell:=fun J=>by
      obtain ⟨z,hz,a,F⟩:=h.mem_above.1 J;rw[h.same hz j a] at F;exact p F
     unfold oG at p;rw[zg1 E,zg1 p,zc7]
  ·simp only[zg5,List.map_nil,List.cons_append,Ix];rw[zg1<|by exact fun a=>v a.symm,zg1<|by exact fun a=>w a.symm,G]
 ·have i:e.cell∈(gI A e<|aG A e.cell).map Cl.id:=by
   rw[g];exact zf3.2 ⟨c,f,l⟩
  obtain ⟨x,d,a⟩:=zf3.1 i;exact (by exact⟨x,List.mem_append_left _<|List.mem_append_left _ d,a⟩)
theorem ShC.refl (c:Cl):ShC c c:=⟨rfl,rfl,.refl _⟩
theorem Ey (h:Rt A)(e:Ed)(hc:e6 A e=0):ShL (oe A e)<|dZ A e:=by
 refine⟨dZ A e,?_,?_⟩
 ·rw[qr h e hc];exact List.perm_append_comm
 ·have:∀ l:List Cl,ay ShC l l:=fun l=>by
   induction l with
   | nil=>trivial
   | cons x l ih=>exact⟨ShC.refl x,ih⟩
  exact this _
def tx (e:Ed)(k:Int):List Tm:=if k=e.cell then dG e else [(k,1)]
theorem wE (h:Rt A)(e:Ed):((am A).map gW).map (dx e.cell<|dG e)=A.map fun c=>(c.id,tx e c.id):=by
 rw[h.tab,zi6];refine zc9 fun c _=>?_;show dx e.cell (dG e) (c.id,[(c.id,1)])=_;unfold tx;by_cases a:c.id=e.cell
 ·rw[o8 a,zg2 a]
 ·rw[mG a,zg1 a]
theorem nY (h:Rt A)(e:Ed):dE A e=jZ A e:=by
 have a:nH A=Eb A:=funext fun id=>by unfold nH Eb;rw[h.findC]
 have b:jo A=xG A:=funext fun id=>by unfold jo xG;rw[h.findC]
 have c:iT A e.pairs=Cd A e.pairs:=funext fun p=>by unfold iT Cd;rw[b]
 have d:(fun p:Pr=>(findC A p.1).isSome&&(findC A p.2).isSome)=fun p=>(ah A p.1).isSome&&(ah A p.2).isSome:=funext fun p=>by rw[h.findC,h.findC]
 unfold dE jZ;rw[a,c,d]
theorem E4 (A:List Cl)(e:Ed):ShL (ky A e)<|eP A e:=by
 refine⟨ky A e,.refl _,?_⟩;unfold ky eP;have:cd A (e.pairs.map Prod.snd)=um A (e.pairs.map Prod.snd):=rfl;rw[this];generalize um A (e.pairs.map Prod.snd)=l;induction l with
 | nil=>trivial
 | cons c l ih=>exact⟨⟨rfl,rfl,jb _⟩,ih⟩
theorem tD {k:Int}:∀ {ps:List Pr} (a:List Tm),(ps.map Prod.snd).Nodup→ps.foldl (fun p q=>dx q.2 [(q.1,1)] p) (k,a)=(k,match byF ps k with | some t=>[(t,1)] | none=>a)
 | [],_,_=>rfl
 | q::ps,a,hn=>by
  rw[zg5,zk3] at hn;rw[zi9];by_cases b:k=q.2
  ·have c:dx q.2 [(q.1,1)] (k,a)=(k,[(q.1,1)]):=zg2 b;have f:byF ps k=none:=by
    unfold byF;rw[Option.map_eq_none_iff,List.find?_eq_none];intro p hp g;exact hn.1<|zf3.2 ⟨p,hp,by rw[← b];simpa using g⟩
   have d:byF (q::ps) k=some q.1:=by unfold byF;rw[List.find?_cons_of_pos (by simpa using b.symm)];rfl
   rw[c,tD _ hn.2,f,d]
  ·have c:dx q.2 [(q.1,1)] (k,a)=(k,a):=zg1 b;have d:byF (q::ps) k=byF ps k:=by unfold byF;rw[List.find?_cons_of_neg (by simpa using fun e=>b e.symm)]
   rw[c,tD _ hn.2,d]
theorem qw:∀ (ps:List Pr) (M:List<|Int×List Tm),fJ ps M=M.map fun p=>ps.foldl (fun p q=>dx q.2 [(q.1,1)] p) p
 | [],M=>by simp[fJ]
 | q::ps,M=>by
  have a:fJ (q::ps) M=fJ ps (M.map<|dx q.2 [(q.1,1)]):=rfl;rw[a,qw ps,zi6];rfl
theorem wV (h:Rt A)(e:Ed)(hd:AE e.pairs=false):fJ e.pairs ((am A).map gW)=A.map fun c=>(c.id,tT e c.id):=by
 have hn:(e.pairs.map Prod.snd).Nodup:=uD (by
  unfold AE at hd;rw[hP,Decidable.not_not] at hd;exact hd)
 rw[h.tab,qw,zi6];refine zc9 fun c _=>?_;show e.pairs.foldl (fun p q=>dx q.2 [(q.1,1)] p) (c.id,[(c.id,1)])=_;rw[tD _ hn];unfold tT;cases byF e.pairs c.id <;> rfl
theorem DH {e:Ed}(h:jZ A e=0):AE e.pairs=false:=by
 unfold jZ at h;split at h
 ·split at h
  ·cases h
  ·rename_i a;simpa using a
 ·cases h
end Go.Proofs.YtpmoadbbfobbcaaGreatDoor
