/- 16 -/
import Derived.Test.YtdepcjnaieflmaaGreatDoorMs15
set_option linter.unusedSimpArgs false
set_option linter.unusedVariables false
namespace Go.Proofs.YtdepcjnaieflmaaGreatDoor
open _root_.Go.Proofs.Tryz _root_.Go.Proofs.YtdepcjnaieflmaaGreatDoor.Tryz
open Go Go.Sy Go.Pl Go.Proofs
set_option maxRecDepth 100000
set_option maxHeartbeats 16000000
theorem A4 {B L R:List Cl}(b:Rt L)(d:Rt R):∀ c∈fp B L R,(0≤c.dim∧c.dim≤8)∧c.sides.length≤64∧(∀ x∈c.sides,x.sign=1∨x.sign = -1)∧(c.sides.map am.cell).Nodup∧(c.dim>1→0<c.sides.length):=by
 have key:∀ {A:List Cl},Rt A→∀ c∈A,(0≤c.dim∧c.dim≤8)∧c.sides.length≤64∧(∀ x∈c.sides,x.sign=1∨x.sign = -1)∧(c.sides.map am.cell).Nodup∧(c.dim>1→0<c.sides.length):=fun {A} h c hc=>by
  refine⟨(h.form c hc).dim,h.few64 hc,h.signs hc,h.difS hc,fun hd=>?_⟩;have a:=(h.form c hc).cnt;unfold aO at a;simp at a;have:=a.2 oM;omega
 intro c hc
 rcases lz hc with h | h
 ·exact key b c h
 ·exact key d c h
theorem Fh {B L R:List Cl}(a:Rt L)(b:Rt R){c:Cl}(hc:c∈fp B L R):AOk (fp B L R) c:=by
 obtain ⟨_,e,f,_,_⟩:=A4 a b c hc;refine⟨e,f,fun x _=>?_⟩;unfold ay;cases g:ab (fp B L R) x.cell with
 | none=>simp[aA]
 | some d =>
  obtain ⟨_,i,j,_,_⟩:=A4 a b d (aH g).1;exact⟨i,j⟩
theorem GC (E:World)(g:PH)(a:Value)(S:List Cl)(e:l5 g a S)(b:∀ c∈S,(0≤c.dim∧c.dim≤8)∧c.sides.length≤64):E9 E a (.func (.func 30) #[] #[]) (jc S) S g:=by
 intro g' s c r d hc hr;obtain ⟨k,l⟩:=b c hc;refine cz.mk (cap:=[]) call30<|(xw E g' s a S c r (e.mono d) hr oM oM).mono ?_;rintro x g2 s2 ⟨f,i,j⟩;exact⟨f,j,i.symm⟩
theorem G2 (E:World)(g:PH)(j:Value)(S:List Cl)(k:l5 g j S)(d:∀ c∈S,AOk S c∧(c.dim>1→0<c.sides.length)∧(c.sides.map am.cell).Nodup):E9 E j (.func (.func 31) #[] #[]) (jB S) S g:=by
 intro g' s c r e hc hr;obtain ⟨q,t,u⟩:=d c hc;have f:=k.mono e;obtain ⟨m,rs,rfl,hm,l⟩:=k;refine cz.mk (cap:=[]) call31 ?_;obtain ⟨n,rd,o,p,a⟩:=r;have i:rd=c.dim:=hr.2.1;subst i;refine zb2 (args:=[.map<|some m,.agg #[vi n,vi c.dim,.slice o p a]]) func31 I ntmps31 (bE I) ?_;by_cases hd:c.dim>1
 ·have hq:jB S c=decide (bC S c≠0):=by unfold jB;rw[zg2 hd,Bool.true_and]
  refine rZ (bW (bO I) fun v=>?_);refine aT I<|rZ<|lU (fA ao I zT3 I)<|lK (qL iT3 I<|cO 0 I I)<|lU (SU.eq (v':=vb true) (gR I I)<|ze5 vb<|zg2 hd)<|lM I<|yC I<|SL.gq (gT I I I dC) (qV 0 dn ar I I I) dC<|ze4 (gT I I I dC) (SO.call call32 I<|xq E g' _ _ S c ⟨n,c.dim,⟨o,p,a⟩⟩ f hr q (t hd) u) dC ?_;rintro _ g2 _ ⟨rfl,w,b⟩;subst w;exact yP I<|aT I<|rE<|dR (s':=s) uR<|za8 (.inl I) results31 I ⟨by rw[hq],b,I⟩
 ·have hq:jB S c=false:=by unfold jB;rw[zg1 hd,Bool.false_and]
  refine rZ (bW (bO I) fun v=>?_);exact aT I<|rZ<|lU (fA ao I zT3 I)<|lK (qL iT3 I<|cO 0 I I)<|lU (SU.eq (v':=vb false) (gR I I)<|ze5 vb<|zg1 hd)<|lM I<|yA I<|yA I<|yA I<|yF I<|aT I<|rE<|dR (s':=s) uR<|za8 (.inl I) results31 I ⟨by rw[hq],zb9 _,I⟩
theorem FA {B L R:List Cl}{x:Int}(a:dL L R x=false)(b:dL R B x=false)(c:dL L B x=false):pickT B L R x=none:=by
 unfold pickT;rw[a,b,c];rfl
theorem EH {B L R:List Cl}{x:Int}(h:(dL L R x||dL R B x)=true):pickT B L R x=some (ab L x):=by
 unfold pickT;rw[zg4 h]
theorem Gx {B L R:List Cl}{x:Int}(a:dL L R x=false)(b:dL R B x=false)(c:dL L B x=true):pickT B L R x=some (ab R x):=by
 unfold pickT;rw[a,b,c];rfl
theorem Fg {g:PH}{B L R:List Cl}{pre:List Int}{rs:List Rc}(h:ax (ak g) (pre.filterMap fun id=>(pickT B L R id).join) rs):∀ y∈rs,y.id∈pre:=fun y a=>by
 obtain ⟨c,hc,hr⟩:=zx h a;obtain ⟨id,b,d⟩:=List.mem_filterMap.1 hc;rw[hr.1,ws d];exact b
theorem Tryz.buildZm29 (w:World):(Instr.build 29 #[]).run Tryz.prog w = .ok (.agg #[.slice none 0 0]) w:=by
 simp[Instr.build,Instr.fill];rfl
structure wH (g:PH)(vb vl vr:Value)(B L R:List Cl):Prop where
 hb:l5 g vb B
 hl:l5 g vl L
 hr:l5 g vr R
theorem wH.mono {g g':PH}{vb vl a:Value}{B L R:List Cl}(h:wH g vb vl a B L R)(hl:Le g g'):wH g' vb vl a B L R:=⟨h.hb.mono hl,h.hl.mono hl,h.hr.mono hl⟩
theorem fI (E:World)(hE:E.drawn=0)(g:PH)(s:Own)(v u w:Value)(b l r:List Cl)(hv:ai g v b)(hu:ai g u l)(hw:ai g w r)(fb:aK b)(fl:aK l)(fr:aK r)(rb:(aq b).2=0)(rl:(aq l).2=0)(rr:(aq r).2=0)(hi:∀ x,x∈b∨x∈l∨x∈r→a8 x.id)(hn:b.length+(l.length+r.length)≤4000) :
  Ctr Tryz.prog E 8 #[.agg #[v],.agg #[u],.agg #[w]] g s (fun x g' s'=>s=s'∧Le g g'∧∃ y z,x = .tuple #[.agg #[y],z]∧ai g' y (bL (aa b) (aa l)<|aa r).1∧dw g' z (bL (aa b) (aa l)<|aa r).2):=by
 obtain ⟨pb,cb,rfl⟩:=hv.form;obtain ⟨pl,cl,rfl⟩:=hu.form;obtain ⟨pr,cr,rfl⟩:=hw.form;have rB:=iS rb;have rL:=iS rl;have rR:=iS rr;have t0:=aw b;have t1:=aw l;have t2:=aw r;have fB:=aB fb;have fL:=aB fl;have fR:=aB fr;have h0:∀ {x:Cl} {a:List Cl},x∈aa a→∃ y∈a,y.id=x.id:=fun {x a} hx=>by
  unfold aa at hx;obtain ⟨y,hy,rfl⟩:=zf5.1 hx;exact⟨y,(fK (key:=Cl.id) a).mem_iff.1 hy,I⟩
 have n5:∀ A∈[aa b,aa l,aa r],∀ x∈A,a8 x.id:=fun A hA x hx=>by
  simp at hA
  rcases hA with rfl | rfl | rfl
  ·obtain ⟨y,Q,h2⟩:=h0 hx;rw[← h2];exact hi y<|.inl Q
  ·obtain ⟨y,Q,h2⟩:=h0 hx;rw[← h2];exact hi y<|.inr<|.inl Q
  ·obtain ⟨y,Q,h2⟩:=h0 hx;rw[← h2];exact hi y<|.inr<|.inr Q
 refine Ctr.ofX (args:=[.agg #[.slice pb b.length cb],.agg #[.slice pl l.length cl],.agg #[.slice pr r.length cr]]) func8 I ntmps8 (bE I)<|XC.seq<|XC.region<|XL.o (bO I) dC ?_;rintro _ _ _ ⟨b3,rfl,rfl,rfl⟩;refine XL.o (bO I) dC ?_;rintro _ _ _ ⟨b4,rfl,rfl,rfl⟩;refine XL.o (bO I) dC ?_;rintro _ _ _ ⟨b5,rfl,rfl,rfl⟩;refine XL.o (aL zm2) dC ?_;rintro _ _ _ ⟨b6,rfl,rfl,rfl⟩;refine XL.u (aS I) dC<|XL.nil<|XT.thenN<|XC.scope<|XC.seq<|XC.seq<|XC.region<|XL.q (qV 3 aj ag I I I) dC<|XL.q (qV 2 aj ag I I I) dC<|XL.q (qV 1 aj ag I I I) dC<|XL.o (bS sty119 I I I (ae sB) dC) dC ?_;rintro _ _ _ ⟨q7,rfl,rfl,rfl⟩;refine XL.freeze fun g1 c6 l4=>?_;have m1:SlA dS g1 (.slice (some ⟨q7,0,none⟩) 3 3) [⟨pb,b.length,cb⟩,⟨pl,l.length,cl⟩,⟨pr,r.length,cr⟩]:=SlA.lit l4 rfl rfl;have e9:=hv.mono c6;have f7:=hu.mono c6;have f8:=hw.mono c6;refine XL.o (SO.call call25 I<|pG E g1 _ _ [b,l,r] [⟨pb,b.length,cb⟩,⟨pl,l.length,cl⟩,⟨pr,r.length,cr⟩] m1 ⟨e9,f7,f8,trivial⟩ (by simp[fb,fl,fr]) dO (by simp[rb,rl,rr])) dC ?_;rintro _ _ _ ⟨rfl,rfl,rfl⟩;refine XL.u (SU.not I) dC<|XL.nil<|XT.thenN<|XC.condF I<|XC.skip<|XT.thenN<|XC.cut (ι:=PH×Value×Value×Value×Nat×Nat×Nat) (fun i=>[(6,pp b6 0),(8,pp i.2.2.2.2.1 0),(9,pp i.2.2.2.2.2.1 0),(10,pp i.2.2.2.2.2.2 0)]) (fun i=>i.1) (fun i=>pt i.2.2.2.2.1 (bY #[i.2.1] 65)::pt i.2.2.2.2.2.1 (bY #[i.2.2.1] 65)::pt i.2.2.2.2.2.2 (bY #[i.2.2.2.1] 65)::pt b6 (bY #[.slice none 0 0] 29)::pt b5 (bY #[.slice pr r.length cr] 29)::pt b4 (bY #[.slice pl l.length cl] 29)::pt b3 (bY #[.slice pb b.length cb] 29)::s)
  (fun i=>Le g1 i.1∧wH i.1 i.2.1 i.2.2.1 i.2.2.2.1 (aa b) (aa l) (aa r)) ?_ ?_
 ·refine XC.drawX [9,10,11] ze6 kR kR ?_;refine SX.q (i:=0) I kR (qV 3 aj ag I I I) dC<|SX.q (i:=2) I kR (qV 2 aj ag I I I) dC<|SX.q (i:=4) I kR (qV 1 aj ag I I I) dC ?_
  repeat' (first
   | ((with_reducible refine SB.k 11 ?_);first | (refine SB.on (i:=11) rfl (SO.store1 0 wh rfl rfl rfl rfl (bE rfl) rfl) (.inl dC) ?_;rintro _ _ _ ⟨rfl,rfl⟩) | (refine SB.on (i:=11) rfl (SO.store1 1 wh rfl rfl rfl rfl (bE rfl) rfl) (.inl dC) ?_;rintro _ _ _ ⟨rfl,rfl⟩) | (refine SB.on (i:=11) rfl (SO.store1 2 wh rfl rfl rfl rfl (bE rfl) rfl) (.inl dC) ?_;rintro _ _ _ ⟨rfl,rfl⟩))
   | ((with_reducible refine SB.k 10 ?_);first | (refine SB.on (i:=10) rfl (SO.store1 1 wh rfl rfl rfl rfl (bE rfl) rfl) (.inl dC) ?_;rintro _ _ _ ⟨rfl,rfl⟩) | (refine SB.on (i:=10) rfl (SO.store1 0 wh rfl rfl rfl rfl (bE rfl) rfl) (.inl dC) ?_;rintro _ _ _ ⟨rfl,rfl⟩) | (refine SB.on (i:=10) rfl (SO.store1 2 wh rfl rfl rfl rfl (bE rfl) rfl) (.inl dC) ?_;rintro _ _ _ ⟨rfl,rfl⟩))
   | ((with_reducible refine SB.k 9 ?_);first | (refine SB.on (i:=9) rfl (SO.store1 2 wh rfl rfl rfl rfl (bE rfl) rfl) (.inl dC) ?_;rintro _ _ _ ⟨rfl,rfl⟩) | (refine SB.on (i:=9) rfl (SO.store1 1 wh rfl rfl rfl rfl (bE rfl) rfl) (.inl dC) ?_;rintro _ _ _ ⟨rfl,rfl⟩) | (refine SB.on (i:=9) rfl (SO.store1 0 wh rfl rfl rfl rfl (bE rfl) rfl) (.inl dC) ?_;rintro _ _ _ ⟨rfl,rfl⟩))
   | ((with_reducible refine SB.k 8 ?_);first | (refine SB.o (i:=8) rfl (aL zl9) dC (.inr (by rintro _ _ _ ⟨C,rfl,rfl,rfl⟩;exact⟨by assumption,(by exact .cons _<|.refl _)⟩)) ?_;rintro _ _ _ ⟨C,rfl,rfl,rfl⟩) | (refine SB.o (i:=8) rfl (aL zl9) dC (.inr (by rintro _ _ _ ⟨C,rfl,rfl,rfl⟩;exact⟨by exact zb9 _,(by exact .cons _<|.refl _)⟩)) ?_;rintro _ _ _ ⟨C,rfl,rfl,rfl⟩) | (refine SB.o (i:=8) rfl (aL zl9) dC (.inr (by rintro _ _ _ ⟨C,rfl,rfl,rfl⟩;exact⟨by assumption,(by exact .cons _<|.cons _<|.refl _)⟩)) ?_;rintro _ _ _ ⟨C,rfl,rfl,rfl⟩) | (refine SB.o (i:=8) rfl (aL zl9) dC (.inr (by rintro _ _ _ ⟨C,rfl,rfl,rfl⟩;exact⟨by exact zb9 _,(by exact .cons _<|.cons _<|.refl _)⟩)) ?_;rintro _ _ _ ⟨C,rfl,rfl,rfl⟩) | (refine SB.o (i:=8) rfl (aL zl9) dC (.inr (by rintro _ _ _ ⟨C,rfl,rfl,rfl⟩;exact⟨by assumption,(by exact .cons _<|.cons _<|.cons _<|.refl _)⟩)) ?_;rintro _ _ _ ⟨C,rfl,rfl,rfl⟩) | (refine SB.o (i:=8) rfl (aL zl9) dC (.inr (by rintro _ _ _ ⟨C,rfl,rfl,rfl⟩;exact⟨by exact zb9 _,(by exact .cons _<|.cons _<|.cons _<|.refl _)⟩)) ?_;rintro _ _ _ ⟨C,rfl,rfl,rfl⟩))
   | ((with_reducible refine SB.k 7 ?_);first | (refine SB.o (i:=7) rfl (aL zl9) dC (.inr (by rintro _ _ _ ⟨Z,rfl,rfl,rfl⟩;exact⟨by assumption,(by exact .cons _<|.refl _)⟩)) ?_;rintro _ _ _ ⟨Z,rfl,rfl,rfl⟩) | (refine SB.o (i:=7) rfl (aL zl9) dC (.inr (by rintro _ _ _ ⟨Z,rfl,rfl,rfl⟩;exact⟨by exact zb9 _,(by exact .cons _<|.refl _)⟩)) ?_;rintro _ _ _ ⟨Z,rfl,rfl,rfl⟩) | (refine SB.o (i:=7) rfl (aL zl9) dC (.inr (by rintro _ _ _ ⟨Z,rfl,rfl,rfl⟩;exact⟨by assumption,(by exact .cons _<|.cons _<|.refl _)⟩)) ?_;rintro _ _ _ ⟨Z,rfl,rfl,rfl⟩) | (refine SB.o (i:=7) rfl (aL zl9) dC (.inr (by rintro _ _ _ ⟨Z,rfl,rfl,rfl⟩;exact⟨by exact zb9 _,(by exact .cons _<|.cons _<|.refl _)⟩)) ?_;rintro _ _ _ ⟨Z,rfl,rfl,rfl⟩) | (refine SB.o (i:=7) rfl (aL zl9) dC (.inr (by rintro _ _ _ ⟨Z,rfl,rfl,rfl⟩;exact⟨by assumption,(by exact .cons _<|.cons _<|.cons _<|.refl _)⟩)) ?_;rintro _ _ _ ⟨Z,rfl,rfl,rfl⟩) | (refine SB.o (i:=7) rfl (aL zl9) dC (.inr (by rintro _ _ _ ⟨Z,rfl,rfl,rfl⟩;exact⟨by exact zb9 _,(by exact .cons _<|.cons _<|.cons _<|.refl _)⟩)) ?_;rintro _ _ _ ⟨Z,rfl,rfl,rfl⟩))
   | ((with_reducible refine SB.k 6 ?_);first | (refine SB.o (i:=6) rfl (aL zl9) dC (.inr (by rintro _ _ _ ⟨b8,rfl,rfl,rfl⟩;exact⟨by assumption,(by exact .cons _<|.refl _)⟩)) ?_;rintro _ _ _ ⟨b8,rfl,rfl,rfl⟩) | (refine SB.o (i:=6) rfl (aL zl9) dC (.inr (by rintro _ _ _ ⟨b8,rfl,rfl,rfl⟩;exact⟨by exact zb9 _,(by exact .cons _<|.refl _)⟩)) ?_;rintro _ _ _ ⟨b8,rfl,rfl,rfl⟩) | (refine SB.o (i:=6) rfl (aL zl9) dC (.inr (by rintro _ _ _ ⟨b8,rfl,rfl,rfl⟩;exact⟨by assumption,(by exact .cons _<|.cons _<|.refl _)⟩)) ?_;rintro _ _ _ ⟨b8,rfl,rfl,rfl⟩) | (refine SB.o (i:=6) rfl (aL zl9) dC (.inr (by rintro _ _ _ ⟨b8,rfl,rfl,rfl⟩;exact⟨by exact zb9 _,(by exact .cons _<|.cons _<|.refl _)⟩)) ?_;rintro _ _ _ ⟨b8,rfl,rfl,rfl⟩) | (refine SB.o (i:=6) rfl (aL zl9) dC (.inr (by rintro _ _ _ ⟨b8,rfl,rfl,rfl⟩;exact⟨by assumption,(by exact .cons _<|.cons _<|.cons _<|.refl _)⟩)) ?_;rintro _ _ _ ⟨b8,rfl,rfl,rfl⟩) | (refine SB.o (i:=6) rfl (aL zl9) dC (.inr (by rintro _ _ _ ⟨b8,rfl,rfl,rfl⟩;exact⟨by exact zb9 _,(by exact .cons _<|.cons _<|.cons _<|.refl _)⟩)) ?_;rintro _ _ _ ⟨b8,rfl,rfl,rfl⟩))
   | ((with_reducible refine SB.k 5 ?_);first | (refine SB.o (i:=5) rfl (SO.call call26 rfl<|eF E g3 _ _ r (f8.mono G) fr rR.ids) dC (.inr (by rintro _ g4 _ ⟨rfl,d,T⟩;exact⟨by exact Le.trans io io,(by exact .refl _)⟩)) ?_;rintro _ g4 _ ⟨rfl,d,T⟩;obtain ⟨m4,b1,rfl,a2,a3⟩:=T;have M:=G.trans d) | (refine SB.o (i:=5) rfl (SO.call call26 rfl<|eF E g3 _ _ r (f8.mono G) fr rR.ids) dC (.inr (by rintro _ g4 _ ⟨rfl,d,T⟩;exact⟨by exact Le.trans io io,(by exact .cons _<|.refl _)⟩)) ?_;rintro _ g4 _ ⟨rfl,d,T⟩;obtain ⟨m4,b1,rfl,a2,a3⟩:=T;have M:=G.trans d) | (refine SB.o (i:=5) rfl (SO.call call26 rfl<|eF E g3 _ _ r (f8.mono G) fr rR.ids) dC (.inr (by rintro _ g4 _ ⟨rfl,d,T⟩;exact⟨by exact Le.trans io io,(by exact .cons _<|.cons _<|.refl _)⟩)) ?_;rintro _ g4 _ ⟨rfl,d,T⟩;obtain ⟨m4,b1,rfl,a2,a3⟩:=T;have M:=G.trans d) | (refine SB.o (i:=5) rfl (SO.call call26 rfl<|eF E g3 _ _ r (f8.mono G) fr rR.ids) dC (.inr (by rintro _ g4 _ ⟨rfl,d,T⟩;exact⟨by exact Le.trans io io,(by exact .cons _<|.cons _<|.cons _<|.refl _)⟩)) ?_;rintro _ g4 _ ⟨rfl,d,T⟩;obtain ⟨m4,b1,rfl,a2,a3⟩:=T;have M:=G.trans d))
   | ((with_reducible refine SB.k 3 ?_);first | (refine SB.o (i:=3) rfl (SO.call call26 rfl<|eF E g2 _ _ l (f7.mono H) fl rL.ids) dC (.inr (by rintro _ g3 _ ⟨rfl,f,b2⟩;exact⟨by exact Le.trans io io,(by exact .refl _)⟩)) ?_;rintro _ g3 _ ⟨rfl,f,b2⟩;obtain ⟨m3,b7,rfl,a4,a5⟩:=b2;have G:=H.trans f) | (refine SB.o (i:=3) rfl (SO.call call26 rfl<|eF E g2 _ _ l (f7.mono H) fl rL.ids) dC (.inr (by rintro _ g3 _ ⟨rfl,f,b2⟩;exact⟨by exact Le.trans io io,(by exact .cons _<|.refl _)⟩)) ?_;rintro _ g3 _ ⟨rfl,f,b2⟩;obtain ⟨m3,b7,rfl,a4,a5⟩:=b2;have G:=H.trans f) | (refine SB.o (i:=3) rfl (SO.call call26 rfl<|eF E g2 _ _ l (f7.mono H) fl rL.ids) dC (.inr (by rintro _ g3 _ ⟨rfl,f,b2⟩;exact⟨by exact Le.trans io io,(by exact .cons _<|.cons _<|.refl _)⟩)) ?_;rintro _ g3 _ ⟨rfl,f,b2⟩;obtain ⟨m3,b7,rfl,a4,a5⟩:=b2;have G:=H.trans f) | (refine SB.o (i:=3) rfl (SO.call call26 rfl<|eF E g2 _ _ l (f7.mono H) fl rL.ids) dC (.inr (by rintro _ g3 _ ⟨rfl,f,b2⟩;exact⟨by exact Le.trans io io,(by exact .cons _<|.cons _<|.cons _<|.refl _)⟩)) ?_;rintro _ g3 _ ⟨rfl,f,b2⟩;obtain ⟨m3,b7,rfl,a4,a5⟩:=b2;have G:=H.trans f))
   | ((with_reducible refine SB.k 1 ?_);first | (refine SB.o (i:=1) rfl (SO.call call26 rfl<|eF E g1 _ _ b e9 fb rB.ids) dC (.inr (by rintro _ g2 _ ⟨rfl,H,c1⟩;exact⟨by assumption,(by exact .refl _)⟩)) ?_;rintro _ g2 _ ⟨rfl,H,c1⟩;obtain ⟨m2,c2,rfl,a9,b0⟩:=c1) | (refine SB.o (i:=1) rfl (SO.call call26 rfl<|eF E g1 _ _ b e9 fb rB.ids) dC (.inr (by rintro _ g2 _ ⟨rfl,H,c1⟩;exact⟨by assumption,(by exact .cons _<|.refl _)⟩)) ?_;rintro _ g2 _ ⟨rfl,H,c1⟩;obtain ⟨m2,c2,rfl,a9,b0⟩:=c1) | (refine SB.o (i:=1) rfl (SO.call call26 rfl<|eF E g1 _ _ b e9 fb rB.ids) dC (.inr (by rintro _ g2 _ ⟨rfl,H,c1⟩;exact⟨by assumption,(by exact .cons _<|.cons _<|.refl _)⟩)) ?_;rintro _ g2 _ ⟨rfl,H,c1⟩;obtain ⟨m2,c2,rfl,a9,b0⟩:=c1) | (refine SB.o (i:=1) rfl (SO.call call26 rfl<|eF E g1 _ _ b e9 fb rB.ids) dC (.inr (by rintro _ g2 _ ⟨rfl,H,c1⟩;exact⟨by assumption,(by exact .cons _<|.cons _<|.cons _<|.refl _)⟩)) ?_;rintro _ g2 _ ⟨rfl,H,c1⟩;obtain ⟨m2,c2,rfl,a9,b0⟩:=c1))
   | ((with_reducible refine SX.k 8 ?_);first | refine SX.br3 1 7 8 kD ?_ ?_ ?_ | refine SX.br3 1 6 8 kD ?_ ?_ ?_ | refine SX.br3 1 6 7 kD ?_ ?_ ?_ | refine SX.br4 3 6 7 8 kD ?_ ?_ ?_ ?_)
   | ((with_reducible refine SX.k 7 ?_);first | refine zd9 1 8 kD ?_ ?_ | refine zd9 1 7 kD ?_ ?_ | refine zd9 1 6 kD ?_ ?_ | refine SX.br3 3 7 8 kD ?_ ?_ ?_ | refine SX.br3 3 6 8 kD ?_ ?_ ?_ | refine SX.br3 3 6 7 kD ?_ ?_ ?_ | refine SX.br4 5 6 7 8 kD ?_ ?_ ?_ ?_)
   | ((with_reducible refine SX.k 6 ?_);first | refine zd8 1 kD ?_ | refine zd9 3 8 kD ?_ ?_ | refine zd9 3 7 kD ?_ ?_ | refine zd9 3 6 kD ?_ ?_ | refine SX.br3 6 7 8 kD ?_ ?_ ?_ | refine SX.br3 5 7 8 kD ?_ ?_ ?_ | refine SX.br3 5 6 8 kD ?_ ?_ ?_ | refine SX.br3 5 6 7 kD ?_ ?_ ?_)
   | ((with_reducible refine SX.k 5 ?_);first | refine zd8 3 kD ?_ | refine zd9 7 8 kD ?_ ?_ | refine zd9 6 8 kD ?_ ?_ | refine zd9 6 7 kD ?_ ?_ | refine zd9 5 8 kD ?_ ?_ | refine zd9 5 7 kD ?_ ?_ | refine zd9 5 6 kD ?_ ?_)
   | ((with_reducible refine SX.k 4 ?_);first | refine zd8 8 kD ?_ | refine zd8 7 kD ?_ | refine zd8 6 kD ?_ | refine zd8 5 kD ?_)
   | ((with_reducible refine SX.k 3 ?_);refine zd8 9 kD ?_)
   | ((with_reducible refine SX.k 2 ?_);refine zd8 10 kD ?_)
   | ((with_reducible refine SX.k 1 ?_);refine zd8 11 kD ?_)
   | ((with_reducible refine SX.k 0 ?_);first | (refine SX.nil kD<|ST.ofXT ?_;refine XT.to (g':=g4) (s':=pt b8 (bY #[.map<|some m2] 65)::pt Z (bY #[.map<|some m3] 65)::pt C (bY #[.map<|some m4] 65)::pt b6 (bY #[.slice none 0 0] 29)::pt b5 (bY #[.slice pr r.length cr] 29)::pt b4 (bY #[.slice pl l.length cl] 29)::pt b3 (bY #[.slice pb b.length cb] 29)::s) (fun w hw=>hw.perm<|by exact .refl _) ?_;exact XT.mid (g4,.map<|some m2,.map<|some m3,.map<|some m4,b8,Z,C) sB I I ⟨M,⟨m2,c2,I,a9.mono<|f.trans d,b0.mono fun _ _ h=>ak.mono (f.trans d) h⟩,⟨m3,b7,I,a4.mono d,a5.mono fun _ _ h=>ak.mono d h⟩,⟨m4,b1,I,a2,a3⟩⟩) | (refine SX.nil kD<|ST.ofXT ?_;refine XT.to (g':=g4) (s':=pt b8 (bY #[.map<|some m2] 65)::pt Z (bY #[.map<|some m3] 65)::pt C (bY #[.map<|some m4] 65)::pt b6 (bY #[.slice none 0 0] 29)::pt b5 (bY #[.slice pr r.length cr] 29)::pt b4 (bY #[.slice pl l.length cl] 29)::pt b3 (bY #[.slice pb b.length cb] 29)::s) (fun w hw=>hw.perm<|by exact .swap _ _ _) ?_;exact XT.mid (g4,.map<|some m2,.map<|some m3,.map<|some m4,b8,Z,C) sB I I ⟨M,⟨m2,c2,I,a9.mono<|f.trans d,b0.mono fun _ _ h=>ak.mono (f.trans d) h⟩,⟨m3,b7,I,a4.mono d,a5.mono fun _ _ h=>ak.mono d h⟩,⟨m4,b1,I,a2,a3⟩⟩) | (refine SX.nil kD<|ST.ofXT ?_;refine XT.to (g':=g4) (s':=pt b8 (bY #[.map<|some m2] 65)::pt Z (bY #[.map<|some m3] 65)::pt C (bY #[.map<|some m4] 65)::pt b6 (bY #[.slice none 0 0] 29)::pt b5 (bY #[.slice pr r.length cr] 29)::pt b4 (bY #[.slice pl l.length cl] 29)::pt b3 (bY #[.slice pb b.length cb] 29)::s) (fun w hw=>hw.perm<|by exact .cons _<|.swap _ _ _) ?_;exact XT.mid (g4,.map<|some m2,.map<|some m3,.map<|some m4,b8,Z,C) sB I I ⟨M,⟨m2,c2,I,a9.mono<|f.trans d,b0.mono fun _ _ h=>ak.mono (f.trans d) h⟩,⟨m3,b7,I,a4.mono d,a5.mono fun _ _ h=>ak.mono d h⟩,⟨m4,b1,I,a2,a3⟩⟩) | (refine SX.nil kD<|ST.ofXT ?_;refine XT.to (g':=g4) (s':=pt b8 (bY #[.map<|some m2] 65)::pt Z (bY #[.map<|some m3] 65)::pt C (bY #[.map<|some m4] 65)::pt b6 (bY #[.slice none 0 0] 29)::pt b5 (bY #[.slice pr r.length cr] 29)::pt b4 (bY #[.slice pl l.length cl] 29)::pt b3 (bY #[.slice pb b.length cb] 29)::s) (fun w hw=>hw.perm<|by exact .trans (.cons _<|.swap _ _ _)<|.swap _ _ _) ?_;exact XT.mid (g4,.map<|some m2,.map<|some m3,.map<|some m4,b8,Z,C) sB I I ⟨M,⟨m2,c2,I,a9.mono<|f.trans d,b0.mono fun _ _ h=>ak.mono (f.trans d) h⟩,⟨m3,b7,I,a4.mono d,a5.mono fun _ _ h=>ak.mono d h⟩,⟨m4,b1,I,a2,a3⟩⟩) | (refine SX.nil kD<|ST.ofXT ?_;refine XT.to (g':=g4) (s':=pt b8 (bY #[.map<|some m2] 65)::pt Z (bY #[.map<|some m3] 65)::pt C (bY #[.map<|some m4] 65)::pt b6 (bY #[.slice none 0 0] 29)::pt b5 (bY #[.slice pr r.length cr] 29)::pt b4 (bY #[.slice pl l.length cl] 29)::pt b3 (bY #[.slice pb b.length cb] 29)::s) (fun w hw=>hw.perm<|by exact .trans (.swap _ _ _)<|.cons _<|.swap _ _ _) ?_;exact XT.mid (g4,.map<|some m2,.map<|some m3,.map<|some m4,b8,Z,C) sB I I ⟨M,⟨m2,c2,I,a9.mono<|f.trans d,b0.mono fun _ _ h=>ak.mono (f.trans d) h⟩,⟨m3,b7,I,a4.mono d,a5.mono fun _ _ h=>ak.mono d h⟩,⟨m4,b1,I,a2,a3⟩⟩) | (refine SX.nil kD<|ST.ofXT ?_;refine XT.to (g':=g4) (s':=pt b8 (bY #[.map<|some m2] 65)::pt Z (bY #[.map<|some m3] 65)::pt C (bY #[.map<|some m4] 65)::pt b6 (bY #[.slice none 0 0] 29)::pt b5 (bY #[.slice pr r.length cr] 29)::pt b4 (bY #[.slice pl l.length cl] 29)::pt b3 (bY #[.slice pb b.length cb] 29)::s) (fun w hw=>hw.perm<|by exact .trans (.swap _ _ _)<|.trans (.cons _<|.swap _ _ _)<|.swap _ _ _) ?_;exact XT.mid (g4,.map<|some m2,.map<|some m3,.map<|some m4,b8,Z,C) sB I I ⟨M,⟨m2,c2,I,a9.mono<|f.trans d,b0.mono fun _ _ h=>ak.mono (f.trans d) h⟩,⟨m3,b7,I,a4.mono d,a5.mono fun _ _ h=>ak.mono d h⟩,⟨m4,b1,I,a2,a3⟩⟩))
   | (refine SX.k 9 ?_;refine SX.br4 1 6 7 8 kD ?_ ?_ ?_ ?_))
 rintro ⟨g4,q8,q9,r0,b8,Z,C⟩ ⟨d,T⟩;dsimp only at d T ⊢;refine XC.to (g':=g4) (s':=pt b8 (bY #[q8] 65)::pt Z (bY #[q9] 65)::pt C (bY #[r0] 65)::pt b6 (bY #[.slice none 0 0] 29)::s) (fun w hw=>hw.sublist<|.cons_cons _<|.cons_cons _<|.cons_cons _<|.cons_cons _<|.cons _<|.cons _<|.cons _<|.refl _)<|XC.freeze fun g5 h7 J=>?_;refine XC.freeze fun g6 e0 F=>?_;refine XC.freeze fun g7 c7 j=>?_;have r1:=T.mono<|h7.trans<|e0.trans c7;have J:=c7 _ _<|e0 _ _ J;have F:=c7 _ _ F;have n6:=c6.trans<|d.trans<|h7.trans<|e0.trans c7;clear T d h7 e0 c7 e9 f7 f8 m1 l4 c6;generalize aa b=B at *;generalize aa l=L at *;generalize aa r=R at *;obtain ⟨⟨m2,c2,rfl,a9,b0⟩,⟨m3,b7,rfl,a4,a5⟩,m4,b1,rfl,a2,a3⟩:=r1;have a0:l5 g7 (.map<|some m2) B:=⟨m2,c2,rfl,a9,b0⟩;have O:l5 g7 (.map<|some m3) L:=⟨m3,b7,rfl,a4,a5⟩;have N:l5 g7 (.map<|some m4) R:=⟨m4,b1,rfl,a2,a3⟩;refine XC.seq<|XC.region<|XL.o (SO.mkMap) dC ?_;rintro _ _ _ ⟨ms,rfl,rfl,rfl⟩;refine XL.o (aL zl9) dC ?_;rintro _ _ _ ⟨c9,rfl,rfl,rfl⟩;refine XL.on (sK 0 wh I I I I I sB) ?_;rintro _ _ _ ⟨rfl,rfl⟩;refine XL.nil<|XT.thenN<|XC.seq<|XC.region<|XL.o (aL zeroValue32) dC ?_;rintro _ _ _ ⟨d8,rfl,rfl,rfl⟩;refine XL.nil<|XT.thenN<|XC.seq<|XC.label<|XT.thenN<|XC.seq<|XC.seq<|XC.to (g':=g7) (s':=pt c9 (bY #[.map<|some ms] 65)::pt d8 (bY #[.slice none 0 0] 32)::mp ms ([]:List (Int×Value))::pt b6 (bY #[.slice none 0 0] 29)::s) (fun w hw=>hw.perm<|zk4 _ _ _)<|XC.freeze fun g8 e1 t=>?_;have J:=e1 _ _ J;have F:=e1 _ _ F;have j:=e1 _ _ j;refine XC.region<|XL.q (qL (v:=.map<|some m2) ep I<|cK J I) dC<|XL.q (qL (v:=.map<|some m3) ep I<|cK F I) dC<|XL.q (qL (v:=.map<|some m4) ep I<|cK j I) dC<|XL.o (bS sty121 I I I (ae sB)<|bE I) dC ?_;rintro _ _ _ ⟨r2,rfl,rfl,rfl⟩;refine XL.freeze fun g9 n0 n1=>?_;have n2:SlA De g9 (.slice (some ⟨r2,0,none⟩) 3 3) [m2,m3,m4]:=SlA.lit n1 rfl rfl;have n7:=e1.trans n0;refine XL.o (SO.call call27 I<|o6 E g9 _ _ 3 3) dC ?_;rintro _ gA _ ⟨rfl,h8,ba,rfl,r3⟩;have U:=n7.trans h8;have c5:=n0.trans h8;have r4:=m8 E hE gA ba _ 3 [m2,m3,m4] [B,L,R] r3 (za5 n2 h8) ⟨a0.mono U,O.mono U,N.mono U,trivial⟩ n5 (by rw[List.flatten_cons,List.flatten_cons,List.flatten_cons,List.flatten_nil,zc7,ze8,ze8] ;omega) dO;refine XL.nil<|XT.thenN<|XC.block ?_;have a0:=a0.mono U;have O:=O.mono U;have N:=N.mono U;have J:=c5 _ _ J;have F:=c5 _ _ F;have j:=c5 _ _ j;have t:=c5 _ _ t;have n8:=n6.trans U;clear a9 b0 a4 a5 a2 a3 n2 n1;refine XC.to (g':=gA) (s':=rowA encInt 3 (.slice none 0 0) []::pt d8 (bY #[.slice none 0 0] 32)::mp ms (([]:List Rc).map ap)::pt b6 (bY #[.slice none 0 0] 29)::s) (fun w hw=>hw.nilRow 3 1)<|XC.rangeFuncB (α:=Int) (ι:=PH×Value×List Int×List Rc) (κ:=Unit) (encs:=fun v=>[vi v]) (xs:=fV [B,L,R]) (g0:=gA) (fun i=>i.1) (fun i=>rowA encInt 3 i.2.1 i.2.2.1::pt d8 (bY #[i.2.1] 32)::mp ms (i.2.2.2.map ap)::[])
  (fun pre i=>Le gA i.1∧i.2.2.1=(pre.filter fun id=>(pickT B L R id).isNone)∧ax (ak i.1) (pre.filterMap fun id=>(pickT B L R id).join) i.2.2.2) (gA,.slice none 0 0,[],[]) (pt b6 (bY #[.slice none 0 0] 29)::s)
  (fun x=>[(39,vi x),(8,pp b8 0),(9,pp Z 0),(10,pp C 0),(11,pp c9 0),(12,pp d8 0)]) (fun _ x _ _=>[(13,vi x),(8,pp b8 0),(9,pp Z 0),(10,pp C 0),(11,pp c9 0),(12,pp d8 0)]) (fun _ _=>[])
  rfl rfl call82 (fun _=>rfl) rfl rfl r4 (fun _ _ h=>h.1) (fun pre i g' hJ hl=>⟨(g',i.2),⟨hJ.1.trans hl,hJ.2.1,hJ.2.2.mono fun _ _ h=>ak.mono hl h⟩,rfl,rfl⟩) ⟨zb9 _,rfl,trivial⟩
  (fun x a h=>sr (h.sub (g:=[(8,pp b8 0),(9,pp Z 0),(10,pp C 0),(11,pp c9 0),(12,pp d8 0)]) sB) dC) ?_ ?_ ?_
 ·intro y pre x i sx hJ;exact XC.region<|XL.u (aS I) dC<|XL.nil<|XT.assignEndA () sB I
 ·rintro y pre x suf ⟨S,ov,acc,rs⟩ sx _ - p6 ⟨p,c3,a1⟩;dsimp only at p c3 a1 ⊢;have a0:=a0.mono p;have O:=O.mono p;have N:=N.mono p;have J:=p _ _ J;have F:=p _ _ F;have j:=p _ _ j;have t:=p _ _ t;have t3:acc.length<1000000:=by
   have Q:acc.length≤pre.length:=by rw[c3];exact zc6 _ _
   have h2:=ze5 List.length p6;have h3:(fV [B,L,R]).length≤[B,L,R].flatten.length:=by unfold fV;rw[ze9];exact ij _
   rw[List.flatten_cons,List.flatten_cons,List.flatten_cons,List.flatten_nil,zc7,ze8,ze8] at h3;rw[ze8] at h2;omega
  have h9:∀ z∈rs,z.id≠x:=fun z hz=>by
   have Q:=Fg a1 z hz;have h2:=lL [B,L,R];rw[p6,List.pairwise_append] at h2;have:=h2.2.2 _ Q x dO;omega
  have X:(pre++[x]).filter (fun id=>(pickT B L R id).isNone)=acc++if (pickT B L R x).isNone then [x] else []:=by
   rw[zh9,← c3];refine ze5 _ ?_;rw[zj1];rfl
  have n:(pre++[x]).filterMap (fun id=>(pickT B L R id).join)=(pre.filterMap fun id=>(pickT B L R id).join)++(pickT B L R x).join.toList:=by
   rw[List.filterMap_append];refine ze5 _ ?_;rw[List.filterMap_cons,List.filterMap_nil];cases (pickT B L R x).join <;> rfl
  refine XC.facts fun ⟨w0,d0⟩=>?_;obtain ⟨p0,c0,rfl⟩:=ah (e:=encInt) (l:=acc) (i:=0) d0 rfl;clear d0 w0;have look:∀ {m:Nat} {A:List Cl},l5 S (.map<|some m) A→∃ (ri rd:Int) (V:Option Addr) (W rc:Nat) (d4:List Rc),Mp S m (d4.map ap)∧(eu (d4.map ap) x).getD (.agg #[vi 0,vi 0,.slice none 0 0]) = .agg #[vi ri,vi rd,.slice V W rc]∧(eu (d4.map ap) x).isSome=(ab A x).isSome∧ak S ((ab A x).getD aA) ⟨ri,rd,⟨V,W,rc⟩⟩:=fun {m A} hT=>by
   obtain ⟨m',d4,Q,h2,h3⟩:=hT;obtain rfl:m=m':=by injection Q with h;injection h
   obtain ⟨⟨ri,rd,V,W,rc⟩,h4,h5,h6⟩:=dG h3 ib x;exact⟨ri,rd,V,W,rc,d4,h2,h4,h5,h6⟩
  rcases Bool.eq_false_or_eq_true (dL L R x) with Q | Q
  ·-- both sides agree
   have d9:=EH (B:=B) (L:=L) (R:=R) (x:=x) (by rw[Q];rfl);obtain ⟨ri,rd,V,W,rc,d4,d5,d6,Y,K⟩:=look O;rw[d9] at X n;rw[show (Option.isNone (some<|ab L x):Bool)=false from rfl,zg3 dC,zc7] at X;cases hf:ab L x with
   | none =>
    rw[hf] at Y K n;have n:(pre++[x]).filterMap (fun id=>(pickT B L R id).join)=pre.filterMap fun id=>(pickT B L R id).join:=by rw[n];exact zc7 _
    refine XC.block<|XC.seq<|XC.region<|XL.q (qL (v:=.map<|some m3) ep I<|cK F I) dC<|XL.u (aS I) dC<|XL.nil<|XT.thenN<|XC.seq<|XC.block<|XC.seq<|XC.region<|XL.q (qL (v:=.map<|some m3) ep I<|cK F I) dC<|XL.q (qL (v:=.map<|some m4) ep I<|cK j I) dC<|XL.u (mV I) dC<|XL.o (SO.call call28 I<|bn E S _ _ _ L R x O N fL) dC ?_;rintro _ _ _ ⟨rfl,rfl,rfl⟩;rw[Q];refine XL.u (mV I) dC<|XL.off (gZ I I I dC) dC<|XL.off (gZ I I I dC) dC<|XL.off (gZ I I I dC) dC<|XL.off (gZ I I I dC) dC<|XL.u (wT I I) dC<|XL.u (aS I) dC<|XL.nil<|XT.thenN<|XC.condT I<|XC.skip<|XT.blockN<|XT.thenN<|XC.seq<|XC.region<|XL.u (mV I) dC<|XL.u (mV I) dC<|XL.q (SQ.eq (v':=.tuple #[.agg #[vi ri,vi rd,.slice V W rc],vb false]) (SQ.lookupOk mty65 I I<|bh.known d5) (by rw[d6,Y];rfl)) dC ?_;refine XL.u (mV I) dC<|XL.u (xT I I) dC<|XL.u (xT I I) dC<|XL.o (aL zl8) dC ?_;rintro _ _ _ ⟨i0,rfl,rfl,rfl⟩;refine XL.on (sK 0 ar I I I I I sB) ?_;rintro _ _ _ ⟨rfl,rfl⟩;exact XL.u (aS I) dC<|XL.nil<|XT.thenN<|XC.seq<|XC.region<|XL.u (mV I) dC<|XL.nil<|XT.thenN<|XC.condF I<|XC.skip<|XT.blockN<|XT.drop (.cons _<|.refl _)<|XT.roundEnd2 (S,_,acc,rs) I I ⟨p,X.symm,by dsimp only;rw[n];exact a1⟩<|zb9 _
   | some c =>
    rw[hf] at Y K n;have n:(pre++[x]).filterMap (fun id=>(pickT B L R id).join)=(pre.filterMap fun id=>(pickT B L R id).join)++[c]:=n;have i1:c.id=x:=(aH hf).2;have K:ak S c ⟨ri,rd,⟨V,W,rc⟩⟩:=K;have i2:x=ri:=(K.1.trans i1).symm;subst i2;have d7:gy (rs.map ap) x (.agg #[vi x,vi rd,.slice V W rc])=(rs++[(⟨x,rd,⟨V,W,rc⟩⟩:Rc)]).map ap:=by
     have Q:=kK ⟨x,rd,⟨V,W,rc⟩⟩ rs;rw[jU h9] at Q;exact Q
    refine XC.block<|XC.seq<|XC.region<|XL.q (qL (v:=.map<|some m3) ep I<|cK F I) dC<|XL.u (aS I) dC<|XL.nil<|XT.thenN<|XC.seq<|XC.block<|XC.seq<|XC.region<|XL.q (qL (v:=.map<|some m3) ep I<|cK F I) dC<|XL.q (qL (v:=.map<|some m4) ep I<|cK j I) dC<|XL.u (mV I) dC<|XL.o (SO.call call28 I<|bn E S _ _ _ L R x O N fL) dC ?_;rintro _ _ _ ⟨rfl,rfl,rfl⟩;rw[Q];refine XL.u (mV I) dC<|XL.off (gZ I I I dC) dC<|XL.off (gZ I I I dC) dC<|XL.off (gZ I I I dC) dC<|XL.off (gZ I I I dC) dC<|XL.u (wT I I) dC<|XL.u (aS I) dC<|XL.nil<|XT.thenN<|XC.condT I<|XC.skip<|XT.blockN<|XT.thenN<|XC.seq<|XC.region<|XL.u (mV I) dC<|XL.u (mV I) dC<|XL.q (SQ.eq (v':=.tuple #[.agg #[vi x,vi rd,.slice V W rc],vb true]) (SQ.lookupOk mty65 I I<|bh.known d5) (by rw[d6,Y];rfl)) dC ?_;refine XL.u (mV I) dC<|XL.u (xT I I) dC<|XL.u (xT I I) dC<|XL.o (aL zl8) dC ?_;rintro _ _ _ ⟨i0,rfl,rfl,rfl⟩;refine XL.on (sK 0 ar I I I I I sB) ?_;rintro _ _ _ ⟨rfl,rfl⟩;refine XL.u (aS I) dC<|XL.nil<|XT.thenN<|XC.seq<|XC.region<|XL.u (mV I) dC<|XL.nil<|XT.thenN<|XC.condT I<|XC.region<|XL.q (qL (v:=.map<|some ms) ep I<|cK t I) dC<|XL.u (mV I) dC<|XL.q (SQ.eq (v':=.agg #[vi x,vi rd,.slice V W rc]) (qV 0 dn ar I I I) I) dC<|XL.on (SO.mapUpdate 3 mty65 I I I I) ?_;rintro _ _ _ ⟨rfl,rfl⟩;rw[d7];exact XL.nil<|XT.blockN<|XT.drop (.cons _<|.refl _)<|XT.roundEnd2 (S,_,acc,rs++[⟨x,rd,⟨V,W,rc⟩⟩]) I I ⟨p,X.symm,by dsimp only;rw[n];exact a1.append ⟨K,trivial⟩⟩<|zb9 _
  ·rcases Bool.eq_false_or_eq_true (dL R B x) with h2 | h2
   ·have d9:=EH (B:=B) (L:=L) (R:=R) (x:=x) (by rw[Q,h2];rfl);obtain ⟨ri,rd,V,W,rc,d4,d5,d6,Y,K⟩:=look O;rw[d9] at X n;rw[show (Option.isNone (some<|ab L x):Bool)=false from rfl,zg3 dC,zc7] at X;cases hf:ab L x with
    | none =>
     rw[hf] at Y K n;have n:(pre++[x]).filterMap (fun id=>(pickT B L R id).join)=pre.filterMap fun id=>(pickT B L R id).join:=by rw[n];exact zc7 _
     refine XC.block<|XC.seq<|XC.region<|XL.q (qL (v:=.map<|some m3) ep I<|cK F I) dC<|XL.u (aS I) dC<|XL.nil<|XT.thenN<|XC.seq<|XC.block<|XC.seq<|XC.region<|XL.q (qL (v:=.map<|some m3) ep I<|cK F I) dC<|XL.q (qL (v:=.map<|some m4) ep I<|cK j I) dC<|XL.u (mV I) dC<|XL.o (SO.call call28 I<|bn E S _ _ _ L R x O N fL) dC ?_;rintro _ _ _ ⟨rfl,rfl,rfl⟩;rw[Q];refine XL.u (mV I) dC<|XL.gq (gT I I I dC) (qL (v:=.map<|some m4) ep I<|cK j I) dC<|XL.gq (gT I I I dC) (qL (v:=.map<|some m2) ep I<|cK J I) dC<|XL.gu (gT I I I dC) (mV I) dC<|XL.go (gT I I I dC) (SO.call call28 I<|bn E S _ _ _ R B x N a0 fR) dC ?_;rintro _ _ _ ⟨rfl,rfl,rfl⟩;rw[h2];refine XL.u (wF I I) dC<|XL.u (aS I) dC<|XL.nil<|XT.thenN<|XC.condT I<|XC.skip<|XT.blockN<|XT.thenN<|XC.seq<|XC.region<|XL.u (mV I) dC<|XL.u (mV I) dC<|XL.q (SQ.eq (v':=.tuple #[.agg #[vi ri,vi rd,.slice V W rc],vb false]) (SQ.lookupOk mty65 I I<|bh.known d5) (by rw[d6,Y];rfl)) dC ?_;refine XL.u (mV I) dC<|XL.u (xT I I) dC<|XL.u (xT I I) dC<|XL.o (aL zl8) dC ?_;rintro _ _ _ ⟨i0,rfl,rfl,rfl⟩;refine XL.on (sK 0 ar I I I I I sB) ?_;rintro _ _ _ ⟨rfl,rfl⟩;exact XL.u (aS I) dC<|XL.nil<|XT.thenN<|XC.seq<|XC.region<|XL.u (mV I) dC<|XL.nil<|XT.thenN<|XC.condF I<|XC.skip<|XT.blockN<|XT.drop (.cons _<|.refl _)<|XT.roundEnd2 (S,_,acc,rs) I I ⟨p,X.symm,by dsimp only;rw[n];exact a1⟩<|zb9 _
    | some c =>
     rw[hf] at Y K n;have n:(pre++[x]).filterMap (fun id=>(pickT B L R id).join)=(pre.filterMap fun id=>(pickT B L R id).join)++[c]:=n;have i1:c.id=x:=(aH hf).2;have K:ak S c ⟨ri,rd,⟨V,W,rc⟩⟩:=K;have i2:x=ri:=(K.1.trans i1).symm;subst i2;have d7:gy (rs.map ap) x (.agg #[vi x,vi rd,.slice V W rc])=(rs++[(⟨x,rd,⟨V,W,rc⟩⟩:Rc)]).map ap:=by
      have Q:=kK ⟨x,rd,⟨V,W,rc⟩⟩ rs;rw[jU h9] at Q;exact Q
     refine XC.block<|XC.seq<|XC.region<|XL.q (qL (v:=.map<|some m3) ep I<|cK F I) dC<|XL.u (aS I) dC<|XL.nil<|XT.thenN<|XC.seq<|XC.block<|XC.seq<|XC.region<|XL.q (qL (v:=.map<|some m3) ep I<|cK F I) dC<|XL.q (qL (v:=.map<|some m4) ep I<|cK j I) dC<|XL.u (mV I) dC<|XL.o (SO.call call28 I<|bn E S _ _ _ L R x O N fL) dC ?_;rintro _ _ _ ⟨rfl,rfl,rfl⟩;rw[Q];refine XL.u (mV I) dC<|XL.gq (gT I I I dC) (qL (v:=.map<|some m4) ep I<|cK j I) dC<|XL.gq (gT I I I dC) (qL (v:=.map<|some m2) ep I<|cK J I) dC<|XL.gu (gT I I I dC) (mV I) dC<|XL.go (gT I I I dC) (SO.call call28 I<|bn E S _ _ _ R B x N a0 fR) dC ?_;rintro _ _ _ ⟨rfl,rfl,rfl⟩;rw[h2];refine XL.u (wF I I) dC<|XL.u (aS I) dC<|XL.nil<|XT.thenN<|XC.condT I<|XC.skip<|XT.blockN<|XT.thenN<|XC.seq<|XC.region<|XL.u (mV I) dC<|XL.u (mV I) dC<|XL.q (SQ.eq (v':=.tuple #[.agg #[vi x,vi rd,.slice V W rc],vb true]) (SQ.lookupOk mty65 I I<|bh.known d5) (by rw[d6,Y];rfl)) dC ?_;refine XL.u (mV I) dC<|XL.u (xT I I) dC<|XL.u (xT I I) dC<|XL.o (aL zl8) dC ?_;rintro _ _ _ ⟨i0,rfl,rfl,rfl⟩;refine XL.on (sK 0 ar I I I I I sB) ?_;rintro _ _ _ ⟨rfl,rfl⟩;refine XL.u (aS I) dC<|XL.nil<|XT.thenN<|XC.seq<|XC.region<|XL.u (mV I) dC<|XL.nil<|XT.thenN<|XC.condT I<|XC.region<|XL.q (qL (v:=.map<|some ms) ep I<|cK t I) dC<|XL.u (mV I) dC<|XL.q (SQ.eq (v':=.agg #[vi x,vi rd,.slice V W rc]) (qV 0 dn ar I I I) I) dC<|XL.on (SO.mapUpdate 3 mty65 I I I I) ?_;rintro _ _ _ ⟨rfl,rfl⟩;rw[d7];exact XL.nil<|XT.blockN<|XT.drop (.cons _<|.refl _)<|XT.roundEnd2 (S,_,acc,rs++[⟨x,rd,⟨V,W,rc⟩⟩]) I I ⟨p,X.symm,by dsimp only;rw[n];exact a1.append ⟨K,trivial⟩⟩<|zb9 _
   ·rcases Bool.eq_false_or_eq_true (dL L B x) with h3 | h3
    ·have d9:=Gx Q h2 h3;obtain ⟨ri,rd,V,W,rc,d4,d5,d6,Y,K⟩:=look N;rw[d9] at X n;rw[show (Option.isNone (some<|ab R x):Bool)=false from rfl,zg3 dC,zc7] at X;cases hf:ab R x with
     | none =>
      rw[hf] at Y K n;have n:(pre++[x]).filterMap (fun id=>(pickT B L R id).join)=pre.filterMap fun id=>(pickT B L R id).join:=by rw[n];exact zc7 _
      refine XC.block<|XC.seq<|XC.region<|XL.q (qL (v:=.map<|some m3) ep I<|cK F I) dC<|XL.u (aS I) dC<|XL.nil<|XT.thenN<|XC.seq<|XC.block<|XC.seq<|XC.region<|XL.q (qL (v:=.map<|some m3) ep I<|cK F I) dC<|XL.q (qL (v:=.map<|some m4) ep I<|cK j I) dC<|XL.u (mV I) dC<|XL.o (SO.call call28 I<|bn E S _ _ _ L R x O N fL) dC ?_;rintro _ _ _ ⟨rfl,rfl,rfl⟩;rw[Q];refine XL.u (mV I) dC<|XL.gq (gT I I I dC) (qL (v:=.map<|some m4) ep I<|cK j I) dC<|XL.gq (gT I I I dC) (qL (v:=.map<|some m2) ep I<|cK J I) dC<|XL.gu (gT I I I dC) (mV I) dC<|XL.go (gT I I I dC) (SO.call call28 I<|bn E S _ _ _ R B x N a0 fR) dC ?_;rintro _ _ _ ⟨rfl,rfl,rfl⟩;rw[h2];refine XL.u (wF I I) dC<|XL.u (aS I) dC<|XL.nil<|XT.thenN<|XC.condF I<|XC.seq<|XC.region<|XL.q (qL (v:=.map<|some m3) ep I<|cK F I) dC<|XL.q (qL (v:=.map<|some m2) ep I<|cK J I) dC<|XL.u (mV I) dC<|XL.o (SO.call call28 I<|bn E S _ _ _ L B x O a0 fL) dC ?_;rintro _ _ _ ⟨rfl,rfl,rfl⟩;rw[h3];refine XL.u (aS I) dC<|XL.nil<|XT.thenN<|XC.condT I<|XC.region<|XL.q (qL (v:=.map<|some m4) ep I<|cK j I) dC<|XL.u (aS I) dC<|XL.nil<|XT.blockN<|XT.thenN<|XC.seq<|XC.region<|XL.u (mV I) dC<|XL.u (mV I) dC<|XL.q (SQ.eq (v':=.tuple #[.agg #[vi ri,vi rd,.slice V W rc],vb false]) (SQ.lookupOk mty65 I I<|bh.known d5) (by rw[d6,Y];rfl)) dC ?_;refine XL.u (mV I) dC<|XL.u (xT I I) dC<|XL.u (xT I I) dC<|XL.o (aL zl8) dC ?_;rintro _ _ _ ⟨i0,rfl,rfl,rfl⟩;refine XL.on (sK 0 ar I I I I I sB) ?_;rintro _ _ _ ⟨rfl,rfl⟩;exact XL.u (aS I) dC<|XL.nil<|XT.thenN<|XC.seq<|XC.region<|XL.u (mV I) dC<|XL.nil<|XT.thenN<|XC.condF I<|XC.skip<|XT.blockN<|XT.drop (.cons _<|.refl _)<|XT.roundEnd2 (S,_,acc,rs) I I ⟨p,X.symm,by dsimp only;rw[n];exact a1⟩<|zb9 _
     | some c =>
      rw[hf] at Y K n;have n:(pre++[x]).filterMap (fun id=>(pickT B L R id).join)=(pre.filterMap fun id=>(pickT B L R id).join)++[c]:=n;have i1:c.id=x:=(aH hf).2;have K:ak S c ⟨ri,rd,⟨V,W,rc⟩⟩:=K;have i2:x=ri:=(K.1.trans i1).symm;subst i2;have d7:gy (rs.map ap) x (.agg #[vi x,vi rd,.slice V W rc])=(rs++[(⟨x,rd,⟨V,W,rc⟩⟩:Rc)]).map ap:=by
       have Q:=kK ⟨x,rd,⟨V,W,rc⟩⟩ rs;rw[jU h9] at Q;exact Q
      refine XC.block<|XC.seq<|XC.region<|XL.q (qL (v:=.map<|some m3) ep I<|cK F I) dC<|XL.u (aS I) dC<|XL.nil<|XT.thenN<|XC.seq<|XC.block<|XC.seq<|XC.region<|XL.q (qL (v:=.map<|some m3) ep I<|cK F I) dC<|XL.q (qL (v:=.map<|some m4) ep I<|cK j I) dC<|XL.u (mV I) dC<|XL.o (SO.call call28 I<|bn E S _ _ _ L R x O N fL) dC ?_;rintro _ _ _ ⟨rfl,rfl,rfl⟩;rw[Q];refine XL.u (mV I) dC<|XL.gq (gT I I I dC) (qL (v:=.map<|some m4) ep I<|cK j I) dC<|XL.gq (gT I I I dC) (qL (v:=.map<|some m2) ep I<|cK J I) dC<|XL.gu (gT I I I dC) (mV I) dC<|XL.go (gT I I I dC) (SO.call call28 I<|bn E S _ _ _ R B x N a0 fR) dC ?_;rintro _ _ _ ⟨rfl,rfl,rfl⟩;rw[h2];refine XL.u (wF I I) dC<|XL.u (aS I) dC<|XL.nil<|XT.thenN<|XC.condF I<|XC.seq<|XC.region<|XL.q (qL (v:=.map<|some m3) ep I<|cK F I) dC<|XL.q (qL (v:=.map<|some m2) ep I<|cK J I) dC<|XL.u (mV I) dC<|XL.o (SO.call call28 I<|bn E S _ _ _ L B x O a0 fL) dC ?_;rintro _ _ _ ⟨rfl,rfl,rfl⟩;rw[h3];refine XL.u (aS I) dC<|XL.nil<|XT.thenN<|XC.condT I<|XC.region<|XL.q (qL (v:=.map<|some m4) ep I<|cK j I) dC<|XL.u (aS I) dC<|XL.nil<|XT.blockN<|XT.thenN<|XC.seq<|XC.region<|XL.u (mV I) dC<|XL.u (mV I) dC<|XL.q (SQ.eq (v':=.tuple #[.agg #[vi x,vi rd,.slice V W rc],vb true]) (SQ.lookupOk mty65 I I<|bh.known d5) (by rw[d6,Y];rfl)) dC ?_;refine XL.u (mV I) dC<|XL.u (xT I I) dC<|XL.u (xT I I) dC<|XL.o (aL zl8) dC ?_;rintro _ _ _ ⟨i0,rfl,rfl,rfl⟩;refine XL.on (sK 0 ar I I I I I sB) ?_;rintro _ _ _ ⟨rfl,rfl⟩;refine XL.u (aS I) dC<|XL.nil<|XT.thenN<|XC.seq<|XC.region<|XL.u (mV I) dC<|XL.nil<|XT.thenN<|XC.condT I<|XC.region<|XL.q (qL (v:=.map<|some ms) ep I<|cK t I) dC<|XL.u (mV I) dC<|XL.q (SQ.eq (v':=.agg #[vi x,vi rd,.slice V W rc]) (qV 0 dn ar I I I) I) dC<|XL.on (SO.mapUpdate 3 mty65 I I I I) ?_;rintro _ _ _ ⟨rfl,rfl⟩;rw[d7];exact XL.nil<|XT.blockN<|XT.drop (.cons _<|.refl _)<|XT.roundEnd2 (S,_,acc,rs++[⟨x,rd,⟨V,W,rc⟩⟩]) I I ⟨p,X.symm,by dsimp only;rw[n];exact a1.append ⟨K,trivial⟩⟩<|zb9 _
    ·have d9:=FA Q h2 h3;rw[d9] at X n;have n:(pre++[x]).filterMap (fun id=>(pickT B L R id).join)=pre.filterMap fun id=>(pickT B L R id).join:=by rw[n];exact zc7 _
     refine XC.block<|XC.seq<|XC.region<|XL.q (qL (v:=.map<|some m3) ep I<|cK F I) dC<|XL.u (aS I) dC<|XL.nil<|XT.thenN<|XC.seq<|XC.block<|XC.seq<|XC.region<|XL.q (qL (v:=.map<|some m3) ep I<|cK F I) dC<|XL.q (qL (v:=.map<|some m4) ep I<|cK j I) dC<|XL.u (mV I) dC<|XL.o (SO.call call28 I<|bn E S _ _ _ L R x O N fL) dC ?_;rintro _ _ _ ⟨rfl,rfl,rfl⟩;rw[Q];refine XL.u (mV I) dC<|XL.gq (gT I I I dC) (qL (v:=.map<|some m4) ep I<|cK j I) dC<|XL.gq (gT I I I dC) (qL (v:=.map<|some m2) ep I<|cK J I) dC<|XL.gu (gT I I I dC) (mV I) dC<|XL.go (gT I I I dC) (SO.call call28 I<|bn E S _ _ _ R B x N a0 fR) dC ?_;rintro _ _ _ ⟨rfl,rfl,rfl⟩;rw[h2];refine XL.u (wF I I) dC<|XL.u (aS I) dC<|XL.nil<|XT.thenN<|XC.condF I<|XC.seq<|XC.region<|XL.q (qL (v:=.map<|some m3) ep I<|cK F I) dC<|XL.q (qL (v:=.map<|some m2) ep I<|cK J I) dC<|XL.u (mV I) dC<|XL.o (SO.call call28 I<|bn E S _ _ _ L B x O a0 fL) dC ?_;rintro _ _ _ ⟨rfl,rfl,rfl⟩;rw[h3];refine XL.u (aS I) dC<|XL.nil<|XT.thenN<|XC.condF I<|XC.seq<|XC.region<|XL.q (qL (v:=.slice p0 acc.length c0) ik I<|cO 1 I I) dC<|XL.u (mV I) dC<|XL.o (bS sty32 I I I (ae ⟨I,trivial⟩) dC) dC ?_;rintro _ _ _ ⟨t4,rfl,rfl,rfl⟩;refine XL.o (aP (e:=encInt) (l:=acc) 0 x sty32 I I I I I oM oM) dC ?_;rintro ov' _ _ ⟨rfl,rfl⟩;refine XL.facts fun ⟨w0,d0⟩=>?_;obtain ⟨q1,d1,rfl⟩:=ah (e:=encInt) (l:=acc++[x]) (i:=0) d0 rfl;clear d0 w0;refine XL.on (sK 1 gh I I I I I sB) ?_;rintro _ _ _ ⟨rfl,rfl⟩;exact XL.nil<|XT.thenN<|XC.exit<|XT.blockO dC<|XT.thenX<|XT.blockX<|XT.roundEnd2 (S,_,acc++[x],rs) I I ⟨p,X.symm,by dsimp only;rw[n];exact a1⟩<|zb9 _
 ·rintro D ⟨S,ov,acc,rs⟩ ⟨p,c3,a1⟩;dsimp only at p c3 a1 ⊢;have i3:acc=eI B L R:=c3;have hS:ax (ak S) (fp B L R) rs:=a1;clear c3 a1;subst i3;have J:=p _ _ J;have t:=p _ _ t;have j0:=n8.trans p;refine XT.facts fun ⟨w0,d0⟩=>?_;obtain ⟨p0,c0,rfl⟩:=ah (e:=encInt) (l:=eI B L R) (i:=1) d0 rfl;clear d0 w0;refine XT.blockN<|XT.thenN<|XC.seq<|XC.seq<|XC.region<|XL.q (qL (v:=.slice p0 (eI B L R).length c0) ik I<|cO 2 I I) dC<|XL.u (eN az I) dC<|XL.u (gR I I) dC<|XL.nil<|XT.thenN<|XC.ifP I (fun i3=>?_) (fun i3=>?_)
  ·have j1:eI B L R≠[]:=fun e=>by rw[e] at i3;simp at i3
   have P:bL B L R=([],eI B L R):=by unfold bL;rw[zg4 j1]
   refine XC.cut (ι:=Unit) (fun _=>[(6,pp b6 0),(7,.slice p0 (eI B L R).length c0)]) (fun _=>S) (fun _=>pt D (.deferred<|some [])::rowA encInt 3 (.slice p0 (eI B L R).length c0) (eI B L R)::pt d8 (bY #[.slice p0 (eI B L R).length c0] 32)::mp ms (rs.map ap)::pt b6 (bY #[.slice none 0 0] 29)::s) (fun _=>True) ?_ ?_
   ·refine XC.drawX [2] ze6 kR kR ?_;refine SX.u (i:=0) I kR (za3 I buildZm29) dC ?_;refine zd9 1 2 kR ?_ ?_
    ·refine SB.o (i:=1) I (SQ.sof<|qL (v:=.slice p0 (eI B L R).length c0) ik I<|cO 2 I I) dC (.inr iR) ?_;rintro _ _ _ ⟨rfl,rfl,rfl⟩;refine zd8 2 kR ?_
     ·refine SB.on (i:=2) I (sK 4 ag I I I I I sB) (.inl dC) ?_;rintro _ _ _ ⟨rfl,rfl⟩;refine SX.u (i:=3) I kR (aS I) dC ?_;refine SX.nil kR<|ST.ofXT ?_;exact XT.mid () sB I I trivial
    ·refine SB.on (i:=2) I (sK 4 ag I I I I I sB) (.inl dC) ?_;rintro _ _ _ ⟨rfl,rfl⟩;refine zd8 1 kR ?_
     ·refine SB.ob (i:=1) I (SQ.sof<|qL (v:=.slice p0 (eI B L R).length c0) ik I<|cO 2 I I) dC kR ?_;rintro _ _ _ ⟨rfl,rfl,rfl⟩;refine SX.u (i:=3) I kR (aS I) dC ?_;refine SX.nil kR<|ST.ofXT ?_;exact XT.mid () sB I I trivial
   rintro _ -;refine XC.ret<|XT.thenR<|XT.scopeR<|XT.leave1 (.inl I)<|fT fun gC c4 r5=>?_;exact ST.retCD1 2 s (.inl I) results8 I I aj ag I I uR ⟨I,j0.trans c4,_,_,I,by rw[P];exact ai.nil gC,by rw[P];exact r5⟩
  ·have o1:eI B L R=[]:=zf7 oM;have l3:=A4 (B:=B) rL rR;have r6:=fun c hc=>Fh (B:=B) (c:=c) rL rR hc;have j2:=sS B L R;have s2:=og B L R;have o2:∀ c∈fp B L R,a8 c.id:=fun c hc=>by
    rcases lz hc with h | h
    ·exact n5 L dO c h
    ·exact n5 R dO c h
   have r7:=fun Q h2=>EF (B:=B) rL rR Q h2 oM;generalize p1:fp B L R=SS at *;have p7:=hS.length;refine XC.skip<|XT.thenN<|XC.seq<|XC.to (g':=S) (s':=mp ms (rs.map ap)::pt D (.deferred<|some [])::pt b6 (bY #[.slice none 0 0] 29)::s) (fun w hw=>(hw.sublist (s':=pt D (.deferred<|some [])::mp ms (rs.map ap)::pt b6 (bY #[.slice none 0 0] 29)::s)<|.cons_cons _<|.cons _<|.cons _<|.refl _).perm<|zk4 _ _ _)<|XC.freezeMap fun gC c4 p9=>?_;have p2:l5 gC (.map<|some ms) SS:=⟨ms,rs,rfl,p9,hS.mono fun _ _ h=>ak.mono c4 h⟩;have J:=c4 _ _ J;have t:=c4 _ _ t;refine XC.region<|XL.u (SU.mkFunc I) dC<|XL.u (aS I) dC<|XL.nil<|XT.thenN<|XC.seq<|XC.seq<|XC.region<|XL.u (mV I) dC<|XL.o (SO.callV I I<|cz.mk (cap:=[pp c9 0]) call29<|F9 E hE gC _ c9 _ 30 #[] SS (jc SS) t p2 j2 o2 oM (GC E gC _ SS p2 fun c hc=>⟨(l3 c hc).1,(l3 c hc).2.1⟩)) dC ?_;rintro _ gD _ ⟨rfl,e2,q0⟩;obtain ⟨q1,d1,rfl⟩:=za4 q0;refine XL.u (aS I) dC<|XL.nil<|XT.thenN<|XC.seq<|XC.region<|XL.u (mV I) dC<|XL.u (eN az I) dC<|XL.u (gR I I) dC<|XL.nil<|XT.thenN ?_;have l0:=j0.trans<|c4.trans e2;refine XC.ifP I (fun p3=>?_) (fun p3=>?_)
   ·have j1:br (jc SS) SS≠[]:=fun e=>by rw[e] at p3;simp at p3
    have P:bL B L R=([],br (jc SS) SS):=by unfold bL;rw[p1,zg3 (by simp[o1]),zg4 j1]
    refine XC.seq<|XC.region<|XL.u (za3 I buildZm29) dC<|XL.u (mV I) dC<|XL.on (sK 1 ag I I I I I sB) ?_;rintro _ _ _ ⟨rfl,rfl⟩;exact XL.u (aS I) dC<|XL.nil<|XT.thenN<|XC.ret<|XT.thenR<|XT.scopeR<|XT.leave1 (.inl I)<|ST.retCD1 0 s (.inl I) results8 I I aj ag I I uR ⟨I,l0,_,_,I,by rw[P];exact ai.nil gD,by rw[P];exact q0⟩
   ·have l1:br (jc SS) SS=[]:=zf7 oM;have p4:=p2.mono e2;have t:=e2 _ _ t;refine XC.skip<|XT.thenN<|XC.seq<|XC.seq<|XC.region<|XL.u (mV I) dC<|XL.o (SO.callV I I<|cz.mk (cap:=[pp c9 0]) call29<|F9 E hE gD _ c9 _ 31 #[] SS (jB SS) t p4 j2 o2 oM (G2 E gD _ SS p4 fun c hc=>⟨r6 c hc,(l3 c hc).2.2.2.2,(l3 c hc).2.2.2.1⟩)) dC ?_;rintro _ gE _ ⟨rfl,e4,q4⟩;obtain ⟨q2,d2,rfl⟩:=za4 q4;refine XL.u (aS I) dC<|XL.nil<|XT.thenN<|XC.seq<|XC.region<|XL.u (mV I) dC<|XL.u (eN az I) dC<|XL.u (gR I I) dC<|XL.nil<|XT.thenN ?_;have l2:=l0.trans e4;refine XC.ifP I (fun p5=>?_) (fun p5=>?_)
    ·have j1:br (jB SS) SS≠[]:=fun e=>by rw[e] at p5;simp at p5
     have P:bL B L R=([],br (jB SS) SS):=by unfold bL;rw[p1,zg3 (by simp[o1]),zg3 (by simp[l1]),zg4 j1]
     refine XC.seq<|XC.region<|XL.u (za3 I buildZm29) dC<|XL.u (mV I) dC<|XL.on (sK 1 ag I I I I I sB) ?_;rintro _ _ _ ⟨rfl,rfl⟩;exact XL.u (aS I) dC<|XL.nil<|XT.thenN<|XC.ret<|XT.thenR<|XT.scopeR<|XT.leave1 (.inl I)<|ST.retCD1 0 s (.inl I) results8 I I aj ag I I uR ⟨I,l2,_,_,I,by rw[P];exact ai.nil gE,by rw[P];exact q4⟩
    ·have n3:br (jB SS) SS=[]:=zf7 oM;have n4:=r7 l1 n3;have P:bL B L R=(SS,[]):=by unfold bL;rw[p1,zg3 (by simp[o1]),zg3 (by simp[l1]),zg3 (by simp[n3]),zg3 oM]
     have r8:=p4.mono e4;have r9:=p9.mono<|e2.trans e4;have t:=e4 _ _ t;have t5:(rs.map ap).length=SS.length:=by rw[ze9];exact p7.symm
     refine XC.skip<|XT.thenN<|XC.seq<|XC.seq<|XC.region<|XL.q (qL (v:=.map<|some ms) ep I<|cK t I) dC<|XL.q (SQ.lenMap underlying65 I<|bh.known r9) dC<|XL.u (SU.eq (v':=vb false) (gR I I)<|ze5 vb<|zg1 oM) dC<|XL.nil<|XT.thenN<|XC.condF I<|XC.skip<|XT.thenN<|XC.seq<|XC.region<|XL.q (qL (v:=.map<|some ms) ep I<|cK t I) dC<|XL.o (SO.call call35 I<|t7 E hE gE _ _ SS r8 j2 o2 oM) dC ?_;rintro _ gF _ ⟨rfl,q5,uF,rfl,hF⟩;refine XL.o (SO.call call34 I<|e8 E gF _ uF SS hF n4.fits) dC ?_;rintro _ gG _ ⟨rfl,q6,uG,rfl,hG⟩;rw[n4.canon] at hG;obtain ⟨q3,d3,rfl⟩:=hG.form;refine XL.on (sK 1 ag I I I I I sB) ?_;rintro _ _ _ ⟨rfl,rfl⟩;exact XL.u (aS I) dC<|XL.nil<|XT.thenN<|XC.ret<|XT.scopeR<|XT.leave1 (.inl I)<|ST.retCD1 0 s (.inl I) results8 I I aj ag I I uR ⟨I,l2.trans<|q5.trans q6,_,_,I,by rw[P];exact hG,by rw[P];exact zc1 gG 1⟩
open Go Go.Sy Go.Pl Go.Proofs Go.Shelf Go.Sort
set_option maxHeartbeats 4000000
theorem CZ (E:World)(g:PH)(s:Own)(v:Value)(l:List Cl)(T:ai g v l)(Q:aK l) :
  Ctr Tryz.prog E 34 #[.agg #[v]] g s (fun r g' s'=>Le g g'∧∃ v ds,r = .agg #[v]∧s'=rowA encCell 37 v ds::s∧ax (ak g') (aa l) ds):=by
 obtain ⟨rs,C,u⟩:=T;have R:=u.length;have U:=Q.1;have z:=ax.sortBy (f:=Cl.id) (h:=Rc.id) (fun a b h=>h.1.symm) u;obtain ⟨p,c,rfl⟩:=za4 C;refine zb2 (args:=[.agg #[.slice p rs.length c]]) func34 I ntmps34 (bE I)<|rZ (bW (bO I) fun V=>?_);refine bW (aL zm2) fun S=>tZ<|rZ<|lU (fA dj I cj I)<|lK (qL ef I<|cO 1 I I)<|lW (SO.call call91 I<|Bk E g _ _ 92 #[] Rc.id (F5 E g) rs C oM) ?_;rintro r3 _ _ ⟨rfl,rfl⟩;refine zd4 fun ⟨W,A⟩=>?_;obtain ⟨q,d,rfl⟩:=ah (i:=0) A rfl;have K:0<(sortBy Rc.id rs).length→based (.slice q (sortBy Rc.id rs).length d)=true:=fun h=>(by obtain ⟨b0,c0,X⟩:=bw (i:=0) A rfl h;rw[X];rfl);clear A W;refine aT I<|sQ<|sW I<|lU (eN aC I)<|lM I<|tZ<|bK ?_;have Y:(sortBy Rc.id rs).length=rs.length:=eK rs;refine oP (ι:=PH×List Rc×List Rc×List Cl×List Cl) (fun i=>[(2,pp S 0),(3,.slice q (sortBy Rc.id rs).length d),(9,vi (sortBy Rc.id rs).length),(10,vi i.2.1.length)]) (fun i=>i.1)
  (fun i=>rowA encCell 37 (.slice q (sortBy Rc.id rs).length d) (i.2.1++i.2.2.1)::pt S (bY #[.slice none 0 0] 29)::pt V (bY #[.slice p rs.length c] 29)::s)
  (fun i=>Le g i.1∧ax (dK<|mns i.1 g) i.2.2.2.1 i.2.1∧ax (ak g) i.2.2.2.2 i.2.2.1∧aa l=i.2.2.2.1++i.2.2.2.2.map co∧(i.2.1.length+i.2.2.1.length=(sortBy Rc.id rs).length∧∀ x∈i.2.2.2.2,x∈l)) (fun i=>i.2.2.1.length)
  (g,[],sortBy Rc.id rs,[],sortBy Cl.id l) sB rfl rfl ⟨zb9 g,trivial,z,by simp[aa],by simp,fun x Z=>(fH l x).1 Z⟩ ?_
 rintro ⟨g1,ds,rest,dl,rl⟩ ⟨j,hd,hr,k,e,m⟩;dsimp only at j hd hr k e m ⊢;have a0:=hr.length;refine rZ<|yL I<|tZ<|sQ<|iP I (fun L=>?_) (fun L=>?_)
 ·cases rest with
  | nil=>simp at e;omega
  | cons x rest =>
  obtain ⟨n,M,D,B,N⟩:=hr.cons_right;subst D;have O:n.sides.length<1099511627776:=Q.2 n (m n dO);simp only[zf2] at e;have F:(ds++x::rest)[((ds.length:Nat):Int).toNat]?=some x:=bP oM;have t:based (.slice q (sortBy Rc.id rs).length d)=true:=K oM;refine kP (tN (sQ (bK (sW I (aT I (rG (lM I (lM I (lM I (lM I (lU (iA aC ar I I t oM sL) (lU (fC ao I aI I t) (lK (aZ (o:=2) bi I (zb7 0 I) F I) (lW (SO.call call93 I (Bj E g1 _ _ 94 #[] am.cell (Bw E g1) n.sides (B.2.2.mono j) O)) ?_))))))))))))));rintro r20 _ _ ⟨rfl,rfl⟩;refine SL.freezeRowK fun g2 w G=>?_;obtain ⟨H,d2,rfl⟩:=G.form;refine lU (iA aC ar I I t oM sL) (lU (fC ao I aI I t) (oZ (SO.partA (o:=2) 0 ⟨x.id,x.dim,H,_,d2⟩ aI I I I F I I dC I) (SL.nil (bN (tN (rG (yD I (lM I (SL.nil ?_)))))))));exact ST.again (g2,ds++[⟨x.id,x.dim,H,(sortBy am.cell n.sides).length,d2⟩],rest,dl++[co n],M) ⟨I,I,I,bD lN,trivial⟩ I (by
    dsimp only;rw[show (ds++x::rest).set ((ds.length:Nat):Int).toNat ⟨x.id,x.dim,H,(sortBy am.cell n.sides).length,d2⟩=ds++[⟨x.id,x.dim,H,(sortBy am.cell n.sides).length,d2⟩]++rest by rw[dU oM];simp];rfl) ⟨j.trans w,(hd.mono fun _ _=>dK.mono (iw w)).append ⟨(by exact⟨B.1,B.2.1,G.mono (jV j)⟩:dK (mns g2 g) (co n) ⟨x.id,x.dim,H,(sortBy am.cell n.sides).length,d2⟩),trivial⟩,N,by rw[k];simp,lN,fun y hy=>m y (by simp[hy])⟩ lN
 ·have P:rest=[]:=zf7 oM;subst P;have J:rl=[]:=hr.nil_right;subst J;refine xI<|tX<|tX<|bX<|tN<|sW I<|lU (za3 I<|build29 _ I)<|oZ (sK 1 ag I I I I I sB)<|tZ<|rE<|ST.retCD 1 (rowA encCell 37 (.slice q (sortBy Rc.id rs).length d) (ds++[])::s) (.inl I) results34 I aj ag I I (.cons_cons _<|.cons _<|.cons _<|.refl _) ⟨j,_,_,I,I,?_⟩;rw[k,zc7];simpa using hd.mono fun _ _ h=>h.cr<|fo _ _
def Tryz.sortCl_ren:Ren :=
 {
  f:=fun x =>
   match x with
   | 6=>40
   | 15=>97
   | 14=>96
   | 28=>149
   | 29=>150
   | 20=>141
   | 21=>142
   | 22=>143
   | 23=>144
   | 24=>145
   | 25=>146
   | 26=>147
   | 27=>148
   | 46=>190
   | 47=>191
   | 48=>192
   | 49=>193
   | 50=>194
   | 57=>215
   | n=>n,
  t:=fun x =>
   match x with
   | 22=>27
   | 24=>37
   | 25=>84
   | 3=>3
   | 39=>138
   | 0=>0
   | 53=>181
   | 55=>183
   | 4=>4
   | 46=>175
   | 45=>174
   | 50=>108
   | 5=>5
   | 9=>9
   | 66=>217
   | 70=>221
   | 76=>234
   | 77=>235
   | n=>n,
  g:=fun x =>
   have n:=x;
   n }
theorem Tryz.sortCl:SlLaysF0.n6 Tryz.prog Tryz.sortCl_ren :=
  {
  mixed:=Eq.refl true,
  f6 :=
   Exists.intro "slices.SortFunc[[]cocycle/api.Cell,cocycle/api.Cell]"
    ⟨zg6 (id (Eq.refl true)),
     zb8 func40
      (ze5 some
       kR)⟩,
  f14 :=
   Exists.intro "slices.pdqsortCmpFunc[cocycle/api.Cell]"
    ⟨zg6 (id (Eq.refl true)),
     zb8 func96
      (ze5 some
       kR)⟩,
  f15:=zb8 func97<|ze5 some kR,
  f20 :=
   Exists.intro "slices.insertionSortCmpFunc[cocycle/api.Cell]"
    ⟨zg6 (id (Eq.refl true)),
     zb8 func141
      (ze5 some
       kR)⟩,
  f21 :=
   Exists.intro "slices.heapSortCmpFunc[cocycle/api.Cell]"
    ⟨zg6 (id (Eq.refl true)),
     zb8 func142
      (ze5 some
       kR)⟩,
  f22 :=
   Exists.intro "slices.breakPatternsCmpFunc[cocycle/api.Cell]"
    ⟨zg6 (id (Eq.refl true)),
     zb8 func143
      (ze5 some
       kR)⟩,
  f23 :=
   Exists.intro "slices.choosePivotCmpFunc[cocycle/api.Cell]"
    ⟨zg6 (id (Eq.refl true)),
     zb8 func144
      (ze5 some
       kR)⟩,
  f24 :=
   Exists.intro "slices.reverseRangeCmpFunc[cocycle/api.Cell]"
    ⟨zg6 (id (Eq.refl true)),
     zb8 func145
      (ze5 some
       kR)⟩,
  f25 :=
   Exists.intro "slices.partialInsertionSortCmpFunc[cocycle/api.Cell]"
    ⟨zg6 (id (Eq.refl true)),
     zb8 func146
      (ze5 some
       kR)⟩,
  f26 :=
   Exists.intro "slices.partitionEqualCmpFunc[cocycle/api.Cell]"
    ⟨zg6 (id (Eq.refl true)),
     zb8 func147
      (ze5 some
       kR)⟩,
  f27 :=
   Exists.intro "slices.partitionCmpFunc[cocycle/api.Cell]"
    ⟨zg6 (id (Eq.refl true)),
     zb8 func148
      (ze5 some
       kR)⟩,
  f28:=zb8 func149<|ze5 some kR,
  f29:=zb8 func150<|ze5 some kR,
  f46 :=
   Exists.intro "slices.siftDownCmpFunc[cocycle/api.Cell]"
    ⟨zg6 (id (Eq.refl true)),
     zb8 func190
      (ze5 some
       kR)⟩,
  f47:=zb8 func191<|ze5 some kR,
  f48:=zb8 func192<|ze5 some kR,
  f49 :=
   Exists.intro "slices.medianAdjacentCmpFunc[cocycle/api.Cell]"
    ⟨zg6 (id (Eq.refl true)),
     zb8 func193
      (ze5 some
       kR)⟩,
  f50 :=
   Exists.intro "slices.medianCmpFunc[cocycle/api.Cell]"
    ⟨zg6 (id (Eq.refl true)),
     zb8 func194
      (ze5 some
       kR)⟩,
  f57 :=
   Exists.intro "slices.order2CmpFunc[cocycle/api.Cell]"
    ⟨zg6 (id (Eq.refl true)),
     zb8 func215
      (ze5 some
       kR)⟩,
  t0:=uT0,a0:=isAgg0,z0:=sizeOf0,v0:=zm1,t3:=uT3,
  a3:=iT3,z3:=zT3,v3:=zm4,t4:=uT4,a4:=isAgg4,
  z4:=zT4,v4:=zl6,t5:=uT5,a5:=isAgg5,z5:=sizeOf5,
  v5:=zeroValue5,t9:=uT9,a9:=isAgg9,z9:=sizeOf9,v9:=zeroValue9,
  t22:=aC,a22:=ef,z22:=cj,v22:=zeroValue27,
  t25:=underlying84,a25:=isAgg84,z25:=sizeOf84,v25:=zeroValue84,
  t39:=jP,a39:=isAgg138,z39:=sizeOf138,v39:=zeroValue138,
  t45:=underlying174,a45:=isAgg174,z45:=sizeOf174,v45:=zeroValue174,
  t46:=underlying175,a46:=isAgg175,z46:=sizeOf175,v46:=zeroValue175,
  t50:=underlying108,a50:=isAgg108,z50:=sizeOf108,v50:=zeroValue108,
  t53:=underlying181,a53:=isAgg181,z53:=sizeOf181,v53:=zeroValue181,
  t55:=ni,a55:=isAgg183,z55:=sizeOf183,v55:=zeroValue183,
  t66:=underlying217,a66:=isAgg217,z66:=sizeOf217,v66:=zeroValue217,
  t70:=underlying221,a70:=isAgg221,z70:=sizeOf221,v70:=zeroValue221,
  t76:=underlying234,a76:=isAgg234,z76:=sizeOf234,v76:=zeroValue234,
  t77:=underlying235,a77:=isAgg235,z77:=sizeOf235,v77:=zeroValue235 }
instance inhRc:Inhabited Rc:=⟨⟨0,0,⟨none,0,0⟩⟩⟩
def E2 (x y:Rc):Int:=orI [iq x.dim y.dim,iq x.id y.id]
theorem lH (x y:Rc):E2 x y<0↔x.dim<y.dim∨(x.dim=y.dim∧x.id<y.id):=by
 unfold E2 orI orI orI iq;split <;> split <;> (try split)<;>(try split)<;>simp_all <;> omega
theorem swoD:SWO (ltOf E2):=⟨fun x=>by simp[ltOf,lH],fun x y z a b=>by simp[ltOf,lH] at *;omega,fun x y z a b=>by simp[ltOf,lH] at *;omega⟩
theorem DN {l:List Rc}(h:l.Pairwise fun a b=>a.id<b.id){x y:Rc}(c:x∈l)(g:y∈l)(d:x.id=y.id):x=y:=by
 induction l with
 | nil=>cases c
 | cons a l ih =>
  rw[zk6] at h
  rcases zf4.1 c with e1 | e <;> rcases zf4.1 g with e2 | f
  ·rw[e1,e2]
  ·have:=h.1 y f;rw[e1] at d;omega
  ·have:=h.1 x e;rw[e2] at d;omega
  ·exact ih h.2 e f
theorem zQ {l l':List Rc}(hp:l'.Perm l)(k:l'.Pairwise fun x y=>¬ E2 y x<0)(d:l.Pairwise fun a b=>a.id<b.id):l'=sortBy Rc.dim l:=by
 refine bI (k.imp fun h=>by rw[lH] at h;omega) ⟨hp.length_eq,fun c=>?_⟩;refine (hp.filter _).eq_of_pairwise (le:=fun x y=>x.dim=y.dim→¬ y.id<x.id) (fun x y m n o p=>?_) ?_ ?_
 ·obtain ⟨f,g⟩:=zh7.1 m;obtain ⟨i,j⟩:=zh7.1 n;have e1:x.dim=c:=by simpa using g
  have e2:y.dim=c:=by simpa using j
  have q:=o oM;have r:=p oM;exact DN d (hp.subset f) i oM
 ·exact (k.filter _).imp fun h e=>by rw[lH] at h;omega
 ·exact (d.filter _).imp fun h _=>by omega
theorem Em:GZ Tryz.prog 41 encCell.enc E2:=by
 intro E g s x y;obtain ⟨a,b,⟨e,f,i⟩⟩:=x;obtain ⟨c,d,⟨j,k,yc⟩⟩:=y;refine zb2 (args:=[.agg #[vi a,vi b,.slice e f i],.agg #[vi c,vi d,.slice j k yc]]) func41 I ntmps41 (bE I)<|rZ (bW (bO I) fun m=>?_);refine bW (bO I) fun n=>aT I<|sQ<|dW [] [(0,2),(1,1),(2,2),(3,1),(5,2),(6,1),(7,2),(8,1),(4,0),(9,0),(10,0),(11,0),(12,2)] ze6 kR<|pU I (fA ao I zT3 I)<|pK I (qL (v:=vi b) iT3 I<|cO 1 I I)<|pU I (fA ao I zT3 I)<|pK I (qL (v:=vi d) iT3 I<|cO 0 I I)<|pU I (fA ao I zT3 I)<|pK I (qL (v:=vi a) iT3 I<|cO 1 I I)<|pU I (fA ao I zT3 I)<|pK I (qL (v:=vi c) iT3 I<|cO 0 I I)<|SP.o I (SO.call call44 I<|dN E g _ b d) dC (.inr iR) ?_;rintro _ _ _ ⟨rfl,rfl,rfl⟩;refine SP.o I (SO.call call44 I<|dN E g _ a c) dC (.inr iR) ?_;rintro _ _ _ ⟨rfl,rfl,rfl⟩;refine SP.o I (bS sty32 I I I (ae sB) dC) dC (.inr iR) ?_;rintro _ _ _ ⟨l,rfl,rfl,rfl⟩;refine SP.o I (SO.call call98 I<|Bq E g _ _ [iq b d,iq a c] (Rd.pt 0 I) ⟨_,_,I⟩ (fun _=>I) dO) dC (.inr iR) ?_;rintro _ _ _ ⟨rfl,rfl,rfl⟩;exact pU I (aS I)<|pN<|tN<|rE<|dR (s':=s) uR<|za8 (.inl I) results41 I ⟨I,I,I⟩
theorem zT (E:World)(g:PH)(s:Own)(v:Value)(l:List Rc)(i:Nat)(d:s[i]?=some (rowA encCell 37 v l))(hl:l.length<1099511627776)(c:l.Pairwise fun a b=>a.id<b.id) :
  Ctr Tryz.prog E 40 #[v,.func (.func 41) #[] #[]] g s (fun _ g' s'=>g=g'∧s'=s.set i (rowA encCell 37 v<|sortBy Rc.dim l)) :=
 (yh Tryz.sortCl encCell dn ar E2 swoD 41 call41 Em 37 E g s v l i d hl).mono fun _ _ _ ⟨e,l',f,j,k⟩=>⟨e,by rw[k,zQ f j c]⟩
def E8 (E:World)(cv:Value)(pr:Rc→Bool)(g:PH):Prop:=∀ s x,cz Tryz.prog E cv [.agg (encCell.enc x).toArray] g s (fun r g' s'=>r=vb (pr x)∧g=g'∧s=s')
theorem FJ {r:Value}{l:List Rc}{pr:Rc→Bool}(h:(r=vi (-1)∧∀ x∈l,pr x=false)∨∃ (A:List Rc) (x:Rc) (R:List Rc),l=A++x::R∧r=vi A.length∧(∀ y∈A,pr y=false)∧pr x=true):∃ n:Int,r=vi n:=by
 rcases h with ⟨h,_⟩ | ⟨_,_,_,_,h,_⟩
 ·exact⟨_,h⟩
 ·exact⟨_,h⟩
theorem Ar (E:World)(g:PH)(s:Own)(v n:Value)(l:List Rc)(pr:Rc→Bool)(d:E8 E n pr g)(hl:l.length<1099511627776) :
  Ctr Tryz.prog E 95 #[v,n] g (rowA encCell 37 v l::s) (fun r g' s'=>g=g'∧s'=rowA encCell 37 v l::s∧((r=vi (-1)∧∀ x∈l,pr x=false)∨∃ A x R,l=A++x::R∧r=vi A.length∧(∀ y∈A,pr y=false)∧pr x=true)):=by
 refine Ctr.facts fun ⟨B,e⟩=>?_;obtain ⟨p,c,rfl⟩:=ah (i:=0) e rfl;have m:=fun h=>sk (i:=0) e rfl h;clear e B;refine zb2 (args:=[.slice p l.length c,n]) func95 I ntmps95 (bE I)<|rZ<|aT I<|sQ<|sW I<|lU (eN aC I)<|lM I<|tZ<|bK<|oP (ι:=Nat) (fun k=>[(0,.slice p l.length c),(1,n),(7,vi l.length),(8,vi k)]) (fun _=>g) (fun _=>rowA encCell 37 (.slice p l.length c) l::s) (fun k=>k≤l.length∧∀ y∈l.take k,pr y=false) (fun k=>l.length - k) 0
  sB rfl rfl ⟨zf9 _,by simp⟩ ?_
 rintro k ⟨C,a⟩;refine rZ<|yL I<|tZ<|sQ<|iP I (fun o=>?_) (fun o=>?_)
 ·have f:k<l.length:=oM;obtain ⟨b,cap,rfl,rfl,z⟩:=m oM;have q:l[((k:Nat):Int).toNat]?=some l[k]:=List.getElem?_eq_getElem f;have t:l.take (k+1)=l.take k++[l[k]]:=tS f;have u:l=l.take k++l[k]::l.drop (k+1):=by rw[← zg9 f,zj5]
  generalize l[k]=x at *;refine kP<|tN<|sQ<|bK<|sW I<|aT I<|sW I<|lM I<|lM I<|lU (iA aC ar I I I oM sL)<|lK (SQ.elemA dn ar I (zb7 0 I) q)<|lW (SO.callV I I<|d _ x) ?_;rintro _ _ _ ⟨rfl,rfl,rfl⟩;refine tZ<|iQ I (fun hq=>?_) (fun hq=>?_)
  ·exact sW I<|aT I<|rE<|bR<|tR<|tR<|bR<|tR<|za8 (.inl I) results95 I ⟨I,I,.inr ⟨l.take k,x,l.drop<|k+1,u,by rw[ze7,Nat.min_eq_left C],a,hq⟩⟩
  ·refine kP (bN (tN (rG (yD I (lM I (SL.nil ?_))))));exact ST.again (k+1) sB I I ⟨oM,fun y j=>by
    rw[t,zf6] at j
    rcases j with j | j
    ·exact a y j
    ·rw[zi1.1 j];simpa using hq⟩ oM
 ·refine xI<|tX<|tX<|bX<|tN<|rZ<|aT I<|rE ?_;have w:l.take k=l:=tL oM;rw[w] at a;exact za8 (.inl I) results95 I ⟨I,I,.inl ⟨I,a⟩⟩
theorem xD (E:World)(g:PH)(s:Own)(v G:Value)(l:List Rc)(pr:Rc→Bool)(d:E8 E G pr g)(hl:l.length<1099511627776) :
  Ctr Tryz.prog E 38 #[v,G] g (rowA encCell 37 v l::s) (fun r g' s'=>g=g'∧s'=rowA encCell 37 r (l.filter fun x=>!pr x)::s):=by
 refine Ctr.facts fun ⟨X,m⟩=>?_;obtain ⟨p,c,rfl⟩:=ah (i:=0) m rfl;have H:=fun h=>sk (i:=0) m rfl h;clear m X;refine zb2 (args:=[.slice p l.length c,G]) func38 I ntmps38 (bE I)<|rZ<|aT I<|sW I<|lM I<|lW (SO.call call95 I<|Ar E g s _ G l pr d hl) ?_;rintro r10 _ _ ⟨rfl,rfl,e⟩;obtain ⟨n,rfl⟩:=FJ e;refine aT I<|sQ<|sW I<|yE I<|tZ<|iP I (fun Y=>?_) (fun Y=>?_)
 ·rcases e with ⟨N,t⟩ | ⟨A,x,R,N,t,T,U⟩
  ·exact sW I<|aT I<|rE<|tR<|za8 (.inl I) results38 I ⟨I,by rw[List.filter_eq_self.2 fun x O=>by rw[t x O];rfl]⟩
  ·exact absurd (Value.int.inj t).2 oM
 ·rcases e with ⟨N,t⟩ | ⟨A,x,R,o,t,T,U⟩
  ·exact absurd (Value.int.inj N).2 oM
  obtain rfl:n=A.length:=(Value.int.inj t).2;have V:l.length=A.length+1+R.length:=by rw[o];simp;omega
  obtain ⟨b,cap,rfl,rfl,W⟩:=H oM;have Z:l.filter (fun x=>!pr x)=A++R.filter (fun x=>!pr x):=by
   rw[o,zh9,List.filter_cons_of_neg (by rw[U];simp),List.filter_eq_self.2 fun x O=>by rw[T x O];rfl]
  refine kP<|tN<|sQ<|sW I<|yD I<|aT I<|bK<|oP (ι:=List Rc×List Rc×Rc×List Rc) (fun i=>[(0,.slice (some ⟨b,0,none⟩) l.length<|cap+1),(1,G),(5,vi i.1.length),(6,vi<|i.1.length+i.2.1.length+1)]) (fun _=>g)
   (fun i=>rowA encCell 37 (.slice (some ⟨b,0,none⟩) l.length<|cap+1) (i.1++(i.2.1++[i.2.2.1])++i.2.2.2)::s)
   (fun i=>l.filter (fun x=>!pr x)=i.1++i.2.2.2.filter (fun x=>!pr x)∧i.1.length+i.2.1.length+1+i.2.2.2.length=l.length) (fun i=>i.2.2.2.length)
   (A,[],x,R) sB rfl (by dsimp only;rw[o];simp) ⟨Z,by dsimp only;simp;omega⟩ ?_
  rintro ⟨D,J0,z,R'⟩ ⟨M,k⟩;dsimp only at M k ⊢;have a0:(D++(J0++[z])++R').length=l.length:=lN;refine sQ<|sW I<|lM I<|lU (eN aC I)<|yL I<|tZ<|iP I (fun P=>?_) (fun P=>?_)
  ·cases R' with
   | nil=>simp at k;omega
   | cons y R2 =>
   simp only[zf2] at k;have Q:(D++(J0++[z])++y::R2)[((D.length:Nat)+(J0.length:Nat)+1:Int).toNat]?=some y:=bP lN;obtain ⟨u,B,⟨C,F,yc⟩⟩:=y;refine kP (tN<|sQ<|bK<|sW I<|lM I<|lU (iA aC ar I I I oM sL)<|lK (SQ.elemA dn ar I (zb7 0 I) Q)<|bW (aL zl8) fun b7=>?_);refine oZ (sK 0 ar I I I I I sB)<|tZ<|sW I<|lK (qV 0 dn ar I I I)<|lW (SO.callV I I<|d _ ⟨u,B,⟨C,F,yc⟩⟩) ?_;rintro _ _ _ ⟨rfl,rfl,rfl⟩;refine lU (SU.not I)<|tZ<|iQ I (fun q=>?_) (fun q=>?_)
   ·have K:pr ⟨u,B,⟨C,F,yc⟩⟩=false:=by simpa using q
    refine sW I<|lM I<|lK (qV 0 dn ar I I I)<|lU (iA aC ar I I I oM sL)<|oZ (SO.setA (a:=⟨u,B,⟨C,F,yc⟩⟩) 1 ar I I I lN I)<|tZ<|rG<|lM I<|yD I<|lA I<|SL.nil<|bN<|tN<|rG<|lM I<|yD I<|lA I<|SL.nil ?_;generalize (⟨u,B,⟨C,F,yc⟩⟩:Rc)=y at *;have f:∃ J',(D++(J0++[z])++y::R2).set ((D.length:Nat):Int).toNat y=(D++[y])++(J'++[y])++R2∧J'.length=J0.length:=by
     cases J0 with
     | nil=>exact⟨[],by rw[show D++([]++[z])++y::R2=D++z::y::R2 by simp,dU oM];simp,rfl⟩
     | cons j J1=>exact⟨J1++[z],by rw[show D++(j::J1++[z])++y::R2=D++j::(J1++[z]++y::R2) by simp,dU oM];simp,by simp⟩
    obtain ⟨J',f,a1⟩:=f;refine ST.to (fun w L=>?_) (g':=g) (s':=rowA encCell 37 (.slice (some ⟨b,0,none⟩) l.length<|cap+1) ((D++[y])++(J'++[y])++R2)::s) ?_
    ·rw[← f];exact L.sublist<|.cons _<|.refl _
    exact ST.again (D++[y],J',y,R2) ⟨I,I,bD lN,bD lN,trivial⟩ I I ⟨by rw[M];dsimp only;rw[List.filter_cons_of_pos (by rw[K];rfl)];simp,lN⟩ lN
   ·have S:pr ⟨u,B,⟨C,F,yc⟩⟩=true:=by simpa using q
    refine kP<|bN<|tN<|rG<|lM I<|yD I<|lA I<|SL.nil ?_;generalize (⟨u,B,⟨C,F,yc⟩⟩:Rc)=y at *;refine ST.to (fun w L=>?_) (g':=g) (s':=rowA encCell 37 (.slice (some ⟨b,0,none⟩) l.length<|cap+1) (D++((J0++[z])++[y])++R2)::s) ?_
    ·rw[show D++((J0++[z])++[y])++R2=D++(J0++[z])++y::R2 by simp];exact L.sublist<|.cons _<|.refl _
    exact ST.again (D,J0++[z],y,R2) ⟨I,I,I,bD lN,trivial⟩ I I ⟨by rw[M];dsimp only;rw[List.filter_cons_of_neg (by rw[S];simp)],lN⟩ lN
  ·have hR:R'=[]:=zf7 oM;subst hR;simp only[zc5] at k;refine xI<|tX<|tX<|bX<|tN<|rZ ?_;refine SL.to (fun w L=>At.shrink (i:=0) (D:=D) (J:=J0++[z]) L (by rw[zc7];rfl) rfl) ?_;refine lM I<|lM I<|lU (SU.eq (v':=.slice (some ⟨b,D.length * 3,none⟩) (l.length - D.length)<|cap+1 - D.length) (SU.sliceL aC ar I I oM oM)<|by rw[Int.toNat_natCast,oh oM,Nat.zero_add]) ?_;refine lO (SO.clearA (D:=D) 0 sty27 (mF (l:=[vi 0,vi 0,.slice none 0 0]) sB) I I I oM) ?_;rintro _ _ _ ⟨rfl,rfl⟩;refine tZ<|sW I<|lM I<|lU (SU.eq (v':=.slice (some ⟨b,0,none⟩) D.length<|cap+1) (SU.sliceH aC ar I I oM oM) (by rw[Int.toNat_natCast];exact Dd)) ?_;refine aT I<|rE ?_;exact za8 (.inl I) results38 I ⟨I,by rw[M];simp⟩
theorem EQ {g:PH}:∀ {A:List Cl} {rs:List Rc},ax (ak g) A rs→rs.map Rc.id=A.map Cl.id
 | [],[],_=>rfl
 | [],_::_,h=>False.elim h
 | _::_,[],h=>False.elim h
 | a::A,r::rs,h=>by rw[zg7,zg7,h.1.1,EQ h.2]
theorem GF {g:PH}{A:List Cl}{rs:List Rc}(h:ax (ak g) A rs)(d:A.Pairwise fun a b=>a.id<b.id):rs.Pairwise fun a b=>a.id<b.id:=by
 have c:(A.map Cl.id).Pairwise (· < ·):=zk7.2 d;rw[← EQ h] at c;exact zk7.1 c
theorem uX {g:PH}(p:Int→Bool):∀ {A:List Cl} {rs:List Rc},ax (ak g) A rs→ax (ak g) (A.filter fun c=>p c.id) (rs.filter fun r=>p r.id)
 | [],[],_=>trivial
 | [],_::_,h=>False.elim h
 | _::_,[],h=>False.elim h
 | a::A,r::rs,h=>by
  have ih:=uX p h.2;rw[zj1,zj1,h.1.1];split
  ·exact⟨h.1,ih⟩
  ·exact ih
theorem G4 (E:World)(g:PH)(b m:Nat)(rs:List Rc)(K:List Cl)(hb:g b=some (bY #[.map<|some m] 65))(hm:Mp g m (rs.map ap))(c:ax (ak g) K rs):E8 E (.func (.func 39) #[] #[pp b 0]) (fun x=>(ab K x.id).isSome) g:=by
 intro s x;refine cz.mk (args:=[_]) (cap:=[pp b 0]) call39 ?_;obtain ⟨a,i,⟨j,k,l⟩⟩:=x;obtain ⟨⟨n,o,p,q,yc⟩,d,e,-⟩:=dG c ib a;have f:(eu (rs.map ap) a).isSome=(ab K a).isSome:=e;refine zb2 (args:=[.agg #[vi a,vi i,.slice j k l],pp b 0]) func39 I ntmps39 (bE I)<|rZ (bW (bO I) fun r=>?_);refine aT I<|rZ<|lK (qL (v:=.map<|some m) ep I<|cK hb I)<|lU (fA ao I zT3 I)<|lK (qL (v:=vi a) iT3 I<|cO 0 I I)<|lK (SQ.eq (v':=.tuple #[.agg #[vi n,vi o,.slice p q yc],vb (ab K a).isSome]) (SQ.lookupOk mty65 I I<|bh.known hm) (by rw[d,f];rfl)) ?_;refine lM I (yX I<|yX I<|bW (aL zl8) fun t=>?_);exact oZ (sK 0 ar I I I I I sB)<|aT I<|sW I<|aT I<|rE<|dR (s':=s) uR<|za8 (.inl I) results39 I ⟨I,I,I⟩
theorem zg (E:World)(g:PH)(s:Own)(b m:Nat)(rs:List Rc)(K:List Cl)(v:Value)(l:List Cl)(hb:g b=some (bY #[.map<|some m] 65))(hm:Mp g m (rs.map ap))(j:ax (ak g) K rs)(o:ai g v l)(p:aK l)(k:(aa l).Pairwise fun a b=>a.id<b.id) :
  Ctr Tryz.prog E 37 #[.agg #[v],pp b 0] g s (fun r g' s'=>Le g g'∧∃ ds,s'=rowA encCell 37 r ds::s∧ax (ak g') (sortBy Cl.dim<|(aa l).filter fun c=>!(ab K c.id).isSome) ds):=by
 obtain ⟨q,d,rfl⟩:=o.form;refine zb2 (args:=[.agg #[.slice q l.length d],pp b 0]) func37 I ntmps37 (bE I)<|rZ (bW (bO I) fun y=>?_);refine aT I<|rZ<|lK (qV 0 aj ag I I I)<|lW (SO.call call34 I<|CZ E g _ _ l o p) ?_;rintro _ g1 _ ⟨e,v1,ds,rfl,rfl,i⟩;have t:=i.length;have u:=(aB p).1;have n:=GF i k;have w:=zc6 (fun x:Rc=>!(ab K x.id).isSome) ds;refine lU (SU.field dj I ef I I)<|lU (SU.mkFunc I)<|lW (SO.call call38 I<|xD E g1 _ v1 _ ds (fun x=>(ab K x.id).isSome) (G4 E g1 b m rs K (e _ _ hb) (Mp.mono hm e)<|j.mono fun _ _=>ak.mono e) oM) ?_;rintro r9 _ _ ⟨rfl,rfl⟩;refine aT I<|sW I<|lW (SO.call call40 I<|zT E g1 _ r9 _ 0 I oM<|n.filter _) ?_;rintro _ _ _ ⟨rfl,rfl⟩;exact tZ<|sW I<|aT I<|rE<|dR (s':=rowA encCell 37 r9 (sortBy Rc.dim<|ds.filter fun x=>!(ab K x.id).isSome)::s) (.cons_cons _<|.cons _<|.refl _)<|za8 (.inl I) results37 I ⟨e,_,I,ax.sortBy (f:=Cl.dim) (h:=Rc.dim) (fun a b h=>h.2.1.symm)<|uX (fun id=>!(ab K id).isSome) i⟩
theorem FP (E:World)(g:PH):np E (.func (.func 43) #[] #[]) encCell (fun x:Rc=>-x.dim) g:=by
 intro g' s x y c;refine cz.mk (args:=[_,_]) (cap:=[]) call43 ?_;obtain ⟨d,a,⟨e,f,i⟩⟩:=x;obtain ⟨j,b,⟨k,l,yc⟩⟩:=y;have m:iq (-a) (-b)=iq b a:=by unfold iq;split <;> split <;> (try split)<;>(try split)<;>omega
 dsimp only;rw[m];refine zb2 (args:=[.agg #[vi d,vi a,.slice e f i],.agg #[vi j,vi b,.slice k l yc]]) func43 I ntmps43 (bE I)<|rZ (bW (bO I) fun n=>?_);refine bW (bO I) fun o=>aT I<|rZ<|lU (fA ao I zT3 I)<|lK (qL (v:=vi b) iT3 I<|cO 0 I I)<|lU (fA ao I zT3 I)<|lK (qL (v:=vi a) iT3 I<|cO 1 I I)<|lW (SO.call call44 I<|dN E g' _ b a) ?_;rintro _ _ _ ⟨rfl,rfl,rfl⟩;exact aT I<|rE<|dR (s':=s) uR<|za8 (.inl I) results43 I ⟨I,I,I⟩
theorem CY {l M:List Cl}(h:Rt l)(a:M.Sublist l):aa M=M:=by
 unfold aa;rw[(bI (key:=Cl.id) ((h.asc.sublist a).imp fun h=>by omega)<|aJ.refl M).symm];have:∀ c∈M,co c=c:=fun c hc=>by
  unfold co;rw[(bI (key:=am.cell) ((h.form c<|a.subset hc).asc.imp fun h=>by omega)<|aJ.refl c.sides).symm]
 rw[zc9 this];simp
theorem BO (l:List Cl):sortBy (fun c:Cl=>-c.dim) (sortBy Cl.dim l)=sortBy (fun c:Cl=>-c.dim) l:=by
 have b:aJ (fun c:Cl=>-c.dim) l (sortBy Cl.dim l):=by
  refine⟨(cq (key:=Cl.dim) l).1,fun c=>?_⟩;have h:=(cq (key:=Cl.dim) l).2<|-c;have e:(fun a:Cl=>-a.dim == c)=fun a:Cl=>a.dim == -c:=funext fun a=>by rw[Bool.eq_iff_iff];simp;omega
  rw[e];exact h
 exact bI (dq _)<|b.trans<|cq _
theorem mY {α:Type}(key:α→Int)(l:List α):(sortBy key l).length=l.length:=(cq (key:=key) l).1
theorem qd (E:World)(g:PH)(s:Own)(va a3:Value)(A B:List Cl)(ha:ai g va A)(hb:ai g a3 B)(fa:aK A)(fb:aK B)(ra:(aq A).2=0)(rb:(aq B).2=0) :
  Ctr Tryz.prog E 11 #[.agg #[va],.agg #[a3]] g s (fun r g' s'=>s=s'∧Le g g'∧Eds g' r (wD (aa A)<|aa B)):=by
 obtain ⟨pa,ca,rfl⟩:=ha.form;obtain ⟨pb,cb,rfl⟩:=hb.form;have rA:=iS ra;have rB:=iS rb;have tA:an A=aa A:=bQ rA.asc;have tB:an B=aa B:=bQ rB.asc;have J:=DY (aa A)<|aa B;have a4:=CY rA J;have c4:aK (mE (aa A)<|aa B):=⟨Nat.lt_of_le_of_lt J.length_le (aB fa).1,fun c hc=>(aB fa).2 c<|J.subset hc⟩;have c5:((aa<|mE (aa A)<|aa B).map Cl.id).Nodup:=by rw[a4];exact rA.ids.sublist<|J.map _
 have c6:wD (aa A) (aa B)=(sortBy (fun c:Cl=>-c.dim)<|sortBy Cl.dim<|(aa A).filter fun c=>!(ab (mE (aa A)<|aa B) c.id).isSome).map FT++(sortBy Cl.dim<|(aa B).filter fun c=>!(ab (mE (aa A)<|aa B) c.id).isSome).map Gl:=by rw[BO];rfl
 have e2:=(aB fa).1;have e4:=(aB fb).1;rw[c6];have c7:(sortBy Cl.dim<|(aa A).filter fun c=>!(ab (mE (aa A)<|aa B) c.id).isSome).length≤4000:=by
  rw[mY];exact zl1 (zc6 _ _) rA.few
 have e9:(sortBy Cl.dim<|(aa B).filter fun c=>!(ab (mE (aa A)<|aa B) c.id).isSome).length≤4000:=by
  rw[mY];exact zl1 (zc6 _ _) rB.few
 refine zb2 (args:=[.agg #[.slice pa A.length ca],.agg #[.slice pb B.length cb]]) func11 I ntmps11 (bE I)<|rZ (bW (bO I) fun b2=>?_);refine bW (bO I) fun b3=>aT I<|sQ<|rZ<|lK (qV 1 aj ag I I I)<|lK (qV 0 aj ag I I I)<|lW (bS sty119 I I I (ae sB) dC) ?_;rintro _ _ _ ⟨c9,rfl,rfl,rfl⟩;refine zb5 fun g1 u a5=>?_;have M:SlA dS g1 (.slice (some ⟨c9,0,none⟩) 2 2) [⟨pa,A.length,ca⟩,⟨pb,B.length,cb⟩]:=SlA.lit a5 rfl rfl;have K:=ha.mono u;have L:=hb.mono u;refine lW (SO.call call25 I<|pG E g1 _ _ [A,B] _ M ⟨K,L,trivial⟩ (by intro l hl;simp at hl;rcases hl with rfl | rfl;exact fa;exact fb) dO (by intro l hl;simp at hl;rcases hl with rfl | rfl;exact ra;exact rb)) ?_;rintro _ _ _ ⟨rfl,rfl,rfl⟩;refine lU (SU.eq (v':=vb false) (SU.not I) I)<|tZ<|za1 I<|kP<|tN<|rZ<|lK (qV 1 aj ag I I I)<|lK (qV 0 aj ag I I I)<|lW (SO.call call13 I<|Cv E g1 _ _ _ A B K L fa fb) ?_;rintro _ g2 _ ⟨rfl,w,uM,rfl,hM⟩;rw[tA,tB] at hM;refine lW (SO.call call26 I<|eF E g2 _ uM _ hM c4 c5) ?_;rintro r21 g3 _ ⟨rfl,y,hT⟩;rw[a4] at hT;obtain ⟨m,rs,rfl,hm,z⟩:=hT;refine bW (aL zl9) fun b5=>oZ (sK 0 wh I I I I I sB)<|tZ (sQ<|SC.freeze fun g4 d U=>?_);refine rG<|lU (SU.mkFunc I)<|aT I<|sW I<|lK (qV 1 aj ag I I I)<|lW (SO.callV I I<|cz.mk (cap:=[pp b5 0]) call37<|zg E g4 _ b5 m rs _ _ A U (Mp.mono hm d) (z.mono fun _ _=>ak.mono d) ((K.mono w).mono<|y.trans d) fa rA.asc) ?_;rintro v7 g5 _ ⟨p,ds,rfl,V⟩;have e1:=V.length;refine aT I<|sW I<|lW (SO.call call42 I<|py E g5 _ v7 _ (fun x:Rc=>-x.dim) (FP E g5) ds oM) ?_;rintro _ _ _ ⟨rfl,rfl⟩;have a9:=ax.sortBy (f:=fun c:Cl=>-c.dim) (h:=fun x:Rc=>-x.dim) (fun a b h=>by have:=h.2.1;omega) V;rw[← mY (fun c:Cl=>-c.dim)] at c7;refine tZ (sQ<|zd6 fun g6 n W=>?_);obtain ⟨q6,d6,rfl⟩:=zc3 W;refine zb6 58 7<|rG<|aT I<|sQ<|sW I<|lU (eN aC I)<|lM I<|tZ<|bK ?_;have N:=a9.mono fun _ _=>ak.mono n;have C:=(z.mono fun _ _=>ak.mono d).mono fun _ _=>ak.mono<|p.trans n;have b0:=Mp.mono (Mp.mono hm d)<|p.trans n;have b1:=n _ _<|p _ _ U;have b4:=(((L.mono w).mono<|y.trans d).mono p).mono n;have X:=(u.trans<|w.trans<|y.trans d).trans<|p.trans n;have O:SlA encCell g6 (.slice q6 (sortBy (fun x:Rc=>-x.dim) ds).length d6) (sortBy (fun x:Rc=>-x.dim) ds):=W;clear W a9 V hm z U K L M hM;generalize sortBy (fun x:Rc=>-x.dim) ds=es at *;generalize (sortBy (fun c:Cl=>-c.dim)<|sortBy Cl.dim<|(aa A).filter fun c=>!(ab (mE (aa A)<|aa B) c.id).isSome)=GL at *;have f7:=N.length;refine oP (ι:=Nat×Value×List Er) (fun i=>[(3,pp b3 0),(6,.func (.func 37) #[] #[pp b5 0]),(8,i.2.1),(28,.slice q6 es.length d6),(29,vi es.length),(30,vi i.1)]) (fun _=>g6) (fun i=>rowA il 58 i.2.1 i.2.2::pt b3 (bY #[.slice pb B.length cb] 29)::pt b2 (bY #[.slice pa A.length ca] 29)::s) (fun i=>i.1≤es.length∧i.2.2.length=i.1∧ax (EdK g6) ((GL.take i.1).map FT) i.2.2) (fun i=>es.length - i.1) (0,.slice none 0 0,[]) sB I I ⟨zf9 _,I,trivial⟩ ?_;rintro ⟨j,ov,acc⟩ ⟨hj,d0,o⟩;dsimp only at hj d0 o ⊢;refine rZ<|yL I<|tZ<|sQ<|iP I (fun d1=>?_) (fun d1=>?_)
 ·have Y:j<es.length:=oM;have b6:j<GL.length:=oM;have d2:=za6 O oM;have d3:es[((j:Nat):Int).toNat]?=some es[j]:=List.getElem?_eq_getElem Y;have d4:=N.get (List.getElem?_eq_getElem b6)<|List.getElem?_eq_getElem Y;have Z:GL.take (j+1)=GL.take j++[GL[j]]:=tS b6;generalize es[j]=x at *;generalize GL[j]=cx at *;obtain ⟨xi,xd,⟨xp,xn,xc⟩⟩:=x;obtain rfl:xi=cx.id:=d4.1;have hE:EdK g6 (FT cx) ⟨2,cx.id,0,0,0,⟨none,0,0⟩,⟨none,0,0⟩⟩:=⟨_,_,rfl,zc1 _ _,zc1 _ _⟩;refine kP (tN<|sQ<|bK<|rZ<|lU (iA aC ar I I d2 oM sL)<|lK (SQ.elemA dn ar I (za7 O) d3)<|bW (aL zl8) fun f8=>?_);refine oZ (sK 0 ar I I I I I sB)<|tZ<|rG<|lM I<|lU (fA ao I zT3 I)<|lK (qL (v:=vi cx.id) iT3 I<|cO 0 I I)<|lU (za3 I<|xB58 _ _)<|lW (bS sty42 I I I (ae ⟨I,trivial⟩) dC) ?_;rintro _ _ _ ⟨h0,rfl,rfl,rfl⟩;refine lW (aP (e:=il) (l:=acc) 1 ⟨2,cx.id,0,0,0,⟨none,0,0⟩,⟨none,0,0⟩⟩ sty42 I I I I I oM oM) ?_;rintro ov' _ _ ⟨rfl,rfl⟩;exact lA I<|SL.nil<|bN<|tN<|rG<|yD I<|lM I<|SL.nil<|dR (.cons _<|.refl _)<|ST.again (j+1,ov',acc++[⟨2,cx.id,0,0,0,⟨none,0,0⟩,⟨none,0,0⟩⟩]) sB I I ⟨by dsimp only;omega,by dsimp only;rw[ze8,zf1];omega,by dsimp only;rw[Z,zg8];exact o.append ⟨hE,trivial⟩⟩ (by dsimp only;omega)
 ·have Y:j=es.length:=oM;have Z:GL.take j=GL:=tL oM;rw[Z] at o;have b7:=o.length;rw[ze9] at b7;refine xI<|tX<|tX<|bX<|tN<|sQ<|sW I<|lK (qV 1 aj ag I I I)<|lW (SO.callV I I<|cz.mk (cap:=[pp b5 0]) call37<|zg E g6 _ b5 m rs _ _ B b1 b0 C b4 fb rB.asc) ?_;rintro v43 g7 _ ⟨P,q,rfl,Q⟩;refine SL.freezeRowK fun g8 D F=>?_;have b8:=F.sl.mono<|fo _ _;obtain ⟨q8,d8,rfl⟩:=F.form;refine lU (eN aC I)<|lM I<|tZ<|bK ?_;have b9:=Q.mono fun _ _=>ak.mono D;have a0:=o.mono fun _ _=>EdK.mono<|P.trans D;have a1:=X.trans<|P.trans D;clear F Q b4 C b0 o;generalize (sortBy Cl.dim<|(aa B).filter fun c=>!(ab (mE (aa A)<|aa B) c.id).isSome)=NL at *;have h1:=b9.length;refine oP (ι:=Nat×Value×List Er) (fun i=>[(8,i.2.1),(43,.slice q8 q.length d8),(44,vi q.length),(45,vi i.1)]) (fun _=>g8) (fun i=>rowA il 58 i.2.1 i.2.2::pt b3 (bY #[.slice pb B.length cb] 29)::pt b2 (bY #[.slice pa A.length ca] 29)::s) (fun i=>i.1≤q.length∧i.2.2.length=GL.length+i.1∧ax (EdK g8) (GL.map FT++(NL.take i.1).map Gl) i.2.2) (fun i=>q.length - i.1) (0,ov,acc) sB I I ⟨zf9 _,by dsimp only;omega,by simpa using a0⟩ ?_;rintro ⟨k,ow,a2⟩ ⟨hk,d5,t⟩;dsimp only at hk d5 t ⊢;refine rZ<|yL I<|tZ<|sQ ?_;refine iP I (fun c0=>?_) (fun c0=>?_)
  ·have R:k<q.length:=oM;have S:k<NL.length:=oM;have c1:=za6 b8 oM;have c2:q[((k:Nat):Int).toNat]?=some q[k]:=List.getElem?_eq_getElem R;have G:=b9.get (List.getElem?_eq_getElem S)<|List.getElem?_eq_getElem R;have H:NL.take (k+1)=NL.take k++[NL[k]]:=tS S;generalize q[k]=x at *;generalize NL[k]=cx at *;obtain ⟨xi,xd,⟨xp,xn,xc⟩⟩:=x;obtain rfl:xi=cx.id:=G.1;obtain rfl:xd=cx.dim:=G.2.1;have d7:SlA encSide g8 (.slice xp xn xc) cx.sides:=G.2.2;have e0:EdK g8 (Gl cx) ⟨1,cx.id,cx.dim,0,0,⟨xp,xn,xc⟩,⟨none,0,0⟩⟩:=⟨_,_,rfl,d7,zc1 _ _⟩;refine kP (tN<|sQ<|bK<|rZ<|lU (iA aC ar I I c1 oM sL)<|lK (SQ.elemA dn ar I (za7 b8) c2)<|bW (aL zl8) fun h2=>?_);refine oZ (sK 0 ar I I I I I sB)<|tZ<|rG<|lM I<|lU (fA ao I zT3 I)<|lK (qL (v:=vi cx.id) iT3 I<|cO 0 I I)<|lU (fA ao I zT3 I)<|lK (qL (v:=vi cx.dim) iT3 I<|cO 0 I I)<|lU (fA ao I aI I)<|lK (qL (v:=.slice xp xn xc) bi I<|cO 0 I I)<|lU (za3 I<|xA58 _ _ _ _ _ _)<|lW (bS sty42 I I I (ae ⟨I,trivial⟩) dC) ?_;rintro _ _ _ ⟨h3,rfl,rfl,rfl⟩;refine lW (aP (e:=il) (l:=a2) 1 ⟨1,cx.id,cx.dim,0,0,⟨xp,xn,xc⟩,⟨none,0,0⟩⟩ sty42 I I I I I oM oM) ?_;rintro ow' _ _ ⟨rfl,rfl⟩;exact lA I<|SL.nil<|bN<|tN<|rG<|yD I<|lM I<|SL.nil<|dR (.cons _<|.refl _)<|ST.again (k+1,ow',a2++[⟨1,cx.id,cx.dim,0,0,⟨xp,xn,xc⟩,⟨none,0,0⟩⟩]) sB I I ⟨by dsimp only;omega,by dsimp only;rw[ze8,zf1];omega,by dsimp only;rw[H,zg8,← zh2];exact t.append ⟨e0,trivial⟩⟩ (by dsimp only;omega)
  ·have H:NL.take k=NL:=tL oM;rw[H] at t;refine xI (tX<|tX<|bX<|tN<|sQ<|zd6 fun g9 T c3=>?_);obtain ⟨q9,d9,rfl⟩:=zc3 c3;exact rG<|lM I<|aT I<|rE<|dR (s':=s) uR<|za8 (.inl I) results11 I ⟨I,a1.trans T,a2,c3,t.mono fun _ _=>EdK.mono T⟩
def Hb (ts:List Tm):Prop:=∀ t∈ts,a8 t.1
structure Tame (ts:List Tm):Prop where
 part:∀ j r,(cf (ts.take j) r).natAbs≤1000000000
 coef:∀ t∈ts,t.2.natAbs≤1000000000
 len:ts.length<1000000
 fit:Hb ts
theorem de (a:Int)(u:Value)(r:List (Int×Value))(k:Int):eu ((a,u)::r) k=if k=a then some u else eu r k:=by
 unfold eu;rw[fnd];split
 ·rfl
 ·exact mi k r 1
set_option maxHeartbeats 8000000
theorem tm {l:List Cl}{x:Cl}(a:x∈aa l):∃ y∈l,co y=x:=by
 unfold aa at a;obtain ⟨y,b,rfl⟩:=zf5.1 a;exact⟨y,(fK (key:=Cl.id) l).mem_iff.1 b,I⟩
open Go.ChangeShapes Go.WideShapes Go.ChangeAt Go.RowKit
set_option maxRecDepth 100000
abbrev Ac:=Int×Int×Int×Int
def ln:Enc Ac 4:=⟨fun a=>[vi a.1,vi a.2.1,vi a.2.2.1,vi a.2.2.2],fun _=>rfl,fun _ u hu=>by simp at hu;rcases hu with rfl | rfl | rfl | rfl <;> rfl,by decide⟩
def A64 (a:Ac):Prop:=a8 a.1∧a8 a.2.1∧a8 a.2.2.1∧a8 a.2.2.2
theorem wC {n:Int}(h:(Lit.int .i64 n).wf=true):a8 n:=by
 have a:IntKind.i64.min≤n∧n≤IntKind.i64.max:=by simpa [Lit.wf] using h
 unfold a8;simp[IntKind.min,IntKind.max,IntKind.bits,IntKind.signed] at a;omega
theorem Fw {W:World}{k:Nat}{a:Addr}{len cap:Nat}{xs:List Value}(hl:len≤cap)(q:xs.length=len * k)(hc:∀ i x,xs[i]?=some x→W.cell? (a.add i)=some x):Sl (tE W) k (.slice (some a) len cap) len xs:=by
 refine⟨some a,cap,I,⟨q,hl⟩,fun l=>?_⟩;obtain ⟨b,o,sp⟩:=a;have p:0<xs.length:=List.length_pos_iff.2 l;have m:=hc 0 xs[0] (List.getElem?_eq_getElem p);have n:sp=none:=by simpa [Addr.add] using World.cell?_spot m
 subst n;have d:∀ i,(⟨b,o,none⟩:Addr).add i=⟨b,o+i,none⟩:=fun i=>by unfold Addr.add;split <;> simp_all
 simp only[d] at hc;have c:∀ i x,xs[i]?=some x→∃ cs T e,W.heap[b]?=some (.cells cs T e)∧cs[o+i]?=some x:=fun i x r=>by
  have g:=hc i x r;unfold World.cell? at g;split at g
  ·rename_i cs T e s;exact⟨cs,T,e,s,by simpa using g⟩
  ·cases g
 obtain ⟨cs,T,e,hb,_⟩:=c 0 xs[0] (List.getElem?_eq_getElem p);refine⟨b,o,cs,T,e,I,hb,fun j x t=>?_⟩;obtain ⟨cs',T',u,f,v⟩:=c j x t;rw[hb] at f;cases f;exact v
theorem CU {α:Type}{k:Nat}(e:Enc α k){l:List α}{j:Nat}{x:Value}(h:(l.flatMap e.enc)[j]?=some x):∃ i a,l[i]?=some a∧j=i * k+j % k∧j % k<k∧(e.enc a)[j % k]?=some x:=by
 have b:=(zf8.1 h).1;rw[e.length] at b;have c:=e.pos;have d:j / k<l.length:=by rw[Nat.div_lt_iff_lt_mul c];exact b
 have f:j % k<k:=Nat.mod_lt _ c;have g:j=j / k * k+j % k:=by rw[Nat.mul_comm];exact (Nat.div_add_mod j k).symm
 refine⟨j / k,l[j / k],List.getElem?_eq_getElem d,g,f,?_⟩;have m:(e.enc l[j / k])[j % k]?=some ((e.enc l[j / k])[j % k]'(by rw[e.len];exact f)):=List.getElem?_eq_getElem _;have n:=e.get (List.getElem?_eq_getElem d) m;rw[← g,h] at n;rw[m,← n]
section
variable {H:Type}{enc:TypeId×Value→H}{W:World}{base:Nat}{spare:Nat→Bool}{hd:Bool}
theorem Tryz.cells117:Tryz.prog.cellsOf 117=4:=by kernel_rfl
theorem GP {fuel:Nat}{cs:List Value}{x:DataW H×List MemPlace}(h:DataW.trod enc Tryz.prog W base spare hd fuel 117 cs=some x):∃ a:Ac,cs=ln.enc a∧A64 a:=by
 obtain ⟨q,r,s,t,n,_,hl,e,f,g,i⟩:=Go.Joins.trod_struct4 dZ h;rw[cells117] at hl
 match cs,hl with
 | [c0,c1,c2,c3],_ =>
  rw[cells3] at e f g i;obtain ⟨a,j,_,m⟩:=DataW.trod_int uT3 e;obtain ⟨b,k,_,o⟩:=DataW.trod_int uT3 f;obtain ⟨c,l,_,p⟩:=DataW.trod_int uT3 g;obtain ⟨d,e3,_,wd⟩:=DataW.trod_int uT3 i;simp at j k l e3;subst j k l e3;exact⟨(a,b,c,d),I,wC m,wC o,wC p,wC wd⟩
theorem Da {fuel:Nat}{v:Value}{x:DataW H×List MemPlace}(h:DataW.trod enc Tryz.prog W base spare hd fuel 25 [v]=some x):∃ l:List Ac,SlA ln (tE W) v l∧∀ a∈l,A64 a:=by
 rcases Go.Deep.open_slice underlying25 h with ⟨c,_⟩ | ⟨a,len,cap,m,n,D,Pl,c,_,hl,_,o,_,A⟩
 ·simp at c;subst c;exact⟨[],zc1 _ _,by simp⟩
 ·simp at c;subst c;have B:len≤m:=by rw[o];split <;> omega
  obtain ⟨f,s⟩:=Go.Deep.choose_lt (α:=Ac) (n:=len) (p:=fun i y=>A64 y∧∀ j x,(ln.enc y)[j]?=some x→W.cell? (a.add<|i * 4+j)=some x) fun i d=>by
   obtain ⟨cs',g,t⟩:=A i oM;rw[cells117] at g;obtain ⟨y,rfl,e⟩:=GP t;obtain ⟨_,_,q⟩:=World.cells?_some g;refine⟨y,e,fun j x k=>?_⟩;have r:j<4:=by have:=(zf8.1 k).1;rwa [ln.len] at this
   rw[← Go.Deep.add_add,q j r,k]
  refine⟨(List.range len).map f,?_,fun z hz=>by
   obtain ⟨i,d,rfl⟩:=zf5.1 hz;exact (s i (List.mem_range.1 d)).1⟩
  show Sl (tE W) 4 _ ((List.range len).map f).length (((List.range len).map f).flatMap ln.enc);rw[ze9,zi7];refine Fw hl (by rw[ln.length,ze9,zi7]) fun j y k=>?_;obtain ⟨i,b,d,g,t,q⟩:=CU ln k;rw[zi3] at d;cases hc:(List.range len)[i]? with
  | none=>rw[hc] at d;cases d
  | some z =>
   rw[hc] at d;cases d;obtain ⟨u,w⟩:=zf8.1 hc;simp at u w;subst w;rw[g];exact (s i u).2 _ _ q
theorem si {v:Value}{d:DataW H}{p:List MemPlace}(h:DataW.Trod enc Tryz.prog W base spare hd 25 v d p)(c:v.cells = #[v]):∃ l:List Ac,SlA ln (tE W) v l∧∀ a∈l,A64 a:=by
 obtain ⟨f,b⟩:=h;rw[c] at b;exact Da b
end
theorem zq {l:List Cl}{e:Ed}(h:(dT l e).1=0)(hl:∀ c∈l,a8 c.id)(m:e.kind=1→a8 e.cell)(n:e.kind=3→a8 e.new∧a8 e.other):∀ c∈(dT l e).2,a8 c.id:=by
 obtain ⟨r,hc,f,o⟩:=sH h;have hA:=iS hc;have a:∀ c∈aa l,a8 c.id:=fun c hc=>by
  obtain ⟨d,hd,e⟩:=tm hc;rw[← e];exact hl d hd
 rw[o];intro c g;obtain ⟨d,hd,rfl⟩:=tm g;show a8 d.id;have i:=sa f;unfold cG at hd
 rcases i with k | k | k | k | k
 ·rw[zg4 k] at hd
  rcases zf6.1 hd with hd | hd
  ·exact a d hd
  ·simp at hd;rw[hd];exact m k
 ·rw[zg3 oM,zg4 k] at hd;exact a d (s5.1 hd).1
 ·rw[zg3 oM,zg3 oM,zg4 k] at hd;unfold bG at f;rw[zg3 oM,zg3 oM,zg4 k] at f;obtain ⟨s,_,_,_,_,b⟩:=po hA f;rw[b] at hd;obtain ⟨p,q⟩:=n k
  rcases zf6.1 hd with hd | hd
  ·simp at hd
   rcases hd with rfl | rfl
   ·exact p
   ·exact q
  ·obtain ⟨x,j,rfl⟩:=zf5.1 hd;rw[Gv];exact a x j
 ·rw[zg3 oM,zg3 oM,zg3 oM,zg4 k] at hd;unfold eE at hd;obtain ⟨x,j,rfl⟩:=zf5.1 hd;exact a x (s5.1 j).1
 ·rw[zg3 oM,zg3 oM,zg3 oM,zg3 oM] at hd;exact a d (s5.1 hd).1
end Go.Proofs.YtdepcjnaieflmaaGreatDoor
namespace Go.Sy
open Go
section
variable {P:Program}{N:Nat}{E:World}{f:Fr}{g:PH}{s:Own}{fn:Func}{R:Value→PH→Own→Prop}{e:Exit}
theorem ST.retC3 {T U:TypeId}{t u q m b k:Nat}{cs:Array Value}{A:Nat×Nat}{x y z:Value}(i:Nat)(s':Own)(B:e = .ret∨e = .normal)(hr:fn.results = #[.cell t T,.tmp u,.tmp q,.tmp m])(C:aN f t=some (pp b 0))(D:aN f u=some x)(hq:aN f q=some y)(hm:aN f m=some z)
  (F:∀ w,(isAgg T).run P w = .ok true w) (G:∀ w,(sizeOf T).run P w = .ok k w)
  (H:s[i]?=some (pt b<|.cells cs U A)) (hc:cs.size=k) (d:s'.Sublist s) (J:R (.tuple #[.agg cs,x,y,z]) g s'):ST N E (bodyPost P fn<|ng E R) e f g s :=
 fun a w c j=>by
  have K:=cg (P:=P) j F (by rw[hc];exact G) H;have l:=c.at_ t _ C;have n:=c.at_ u _ D;have o:=c.at_ q _ hq;have p:=c.at_ m _ hm;simp only[Array.getD_eq_getD_getElem?] at l n o p;have r:(results fn a.tmps).run P w = .ok (.tuple #[.agg cs,x,y,z]) w:=by simp[results,hr,asAddr,pp,l,K,n,o,p]
  have v:ng E R (.returned<|.tuple #[.agg cs,x,y,z]) w:=⟨_,g,s',rfl,j.sublist d,J⟩
  rcases B with rfl | rfl
  ·exact⟨c.defers,_,r,v⟩
  ·exact⟨c.defers,_,r,v⟩
end
end Go.Sy
