/- 16 -/
import Derived.Test.YtpmoadbbfobbcaaGreatDoorMe15
set_option linter.unusedSimpArgs false
set_option linter.unusedVariables false
set_option linter.defProp false
namespace Go.Proofs.YtpmoadbbfobbcaaGreatDoor
open _root_.Go.Proofs.Tryz _root_.Go.Proofs.YtpmoadbbfobbcaaGreatDoor.Tryz
open Go Go.Sy Go.Pl Go.Proofs
set_option maxRecDepth 100000
set_option maxHeartbeats 16000000
variable {B L R l:List Cl}{x:Int}
theorem B4 (b:Rt L)(d:Rt R):∀ c∈iY B L R,(0≤c.dim∧c.dim≤8)∧c.sides.length≤64∧(∀ x∈c.sides,x.sign=1∨x.sign = -1)∧(c.sides.map ak.cell).Nodup∧(c.dim>1→0<c.sides.length):=by
 have key:∀ {A:List Cl},Rt A→∀ c∈A,(0≤c.dim∧c.dim≤8)∧c.sides.length≤64∧(∀ x∈c.sides,x.sign=1∨x.sign = -1)∧(c.sides.map ak.cell).Nodup∧(c.dim>1→0<c.sides.length):=fun {A} h c hc=>by
  refine⟨(h.form c hc).dim,h.few64 hc,h.signs hc,h.difS hc,fun hd=>?_⟩;have a:=(h.form c hc).cnt;unfold aY at a;simp at a;have:=a.2 oM;omega
 intro c hc
 rcases oc hc with h | h
 ·exact key b c h
 ·exact key d c h
theorem Ge (a:Rt L)(b:Rt R){c:Cl}(hc:c∈iY B L R):AOk (iY B L R) c:=by
 obtain ⟨_,e,f,_,_⟩:=B4 a b c hc;refine⟨e,f,fun x _=>?_⟩;unfold az;cases g:ah (iY B L R) x.cell with
 | none=>simp[aJ]
 | some d =>
  obtain ⟨_,i,j,_,_⟩:=B4 a b d (aC g).1;exact⟨i,j⟩
theorem Hp (E:World)(g:PH)(a:Value)(S:List Cl)(e:mB g a S)(b:∀ c∈S,(0≤c.dim∧c.dim≤8)∧c.sides.length≤64):F3 E a (.func (.func 57) #[] #[]) (kO S) S g:=by
 intro g' s c r d hc hr;obtain ⟨k,l⟩:=b c hc;refine cQ.mk (cap:=[]) call57<|(yN E g' s a S c r (e.mono d) hr oM oM).mono ?_;rintro x g2 s2 ⟨f,i,j⟩;exact⟨f,j,i.symm⟩
theorem HP (E:World)(g:PH)(j:Value)(S:List Cl)(k:mB g j S)(d:∀ c∈S,AOk S c∧(c.dim>1→0<c.sides.length)∧(c.sides.map ak.cell).Nodup):F3 E j (.func (.func 58) #[] #[]) (lJ S) S g:=by
 intro g' s c r e hc hr;obtain ⟨q,t,u⟩:=d c hc;have f:=k.mono e;obtain ⟨m,rs,rfl,hm,l⟩:=k;refine cQ.mk (cap:=[]) call58 ?_;obtain ⟨n,rd,o,p,a⟩:=r;have i:rd=c.dim:=hr.2.1;subst i;refine zb2 (args:=[.map<|some m,.agg #[vi n,vi c.dim,.slice o p a]]) func58 I ntmps58 (bE I) ?_;by_cases hd:c.dim>1
 ·have hq:lJ S c=decide (bM S c≠0):=by unfold lJ;rw[zf9 hd,Bool.true_and]
  refine rZ (bW (bO I) fun v=>?_);refine aT I<|rZ<|lU (bj ap I zT3 I)<|lK (qL iT3 I<|cO 0 I I)<|lU (SU.eq (v':=vb true) (gR I I)<|ze3 vb<|zf9 hd)<|lM I<|yC I<|lR (gT I I I dC) (qV 0 dT ar I I I) dC<|IQ (gT I I I dC) (bt call59 I<|yz E g' _ _ S c ⟨n,c.dim,⟨o,p,a⟩⟩ f hr q (t hd) u) dC ?_;rintro _ g2 _ ⟨rfl,w,b⟩;subst w;exact yP I<|aT I<|rE<|dR (s':=s) uR<|za8 (.inl I) results58 I ⟨by rw[hq],b,I⟩
 ·have hq:lJ S c=false:=by unfold lJ;rw[zf8 hd,Bool.false_and]
  refine rZ (bW (bO I) fun v=>?_);exact aT I<|rZ<|lU (bj ap I zT3 I)<|lK (qL iT3 I<|cO 0 I I)<|lU (SU.eq (v':=vb false) (gR I I)<|ze3 vb<|zf8 hd)<|lM I<|yA I<|yA I<|yA I<|yF I<|aT I<|rE<|dR (s':=s) uR<|za8 (.inl I) results58 I ⟨by rw[hq],zb9 _,I⟩
theorem Gx (a:eZ L R x=false)(b:eZ R B x=false)(c:eZ L B x=false):pickT B L R x=none:=by
 unfold pickT;rw[a,b,c];rfl
theorem Fz (h:(eZ L R x||eZ R B x)=true):pickT B L R x=some (ah L x):=by
 unfold pickT;rw[zg2 h]
theorem Hk (a:eZ L R x=false)(b:eZ R B x=false)(c:eZ L B x=true):pickT B L R x=some (ah R x):=by
 unfold pickT;rw[a,b,c];rfl
theorem Gb {g:PH}{pre:List Int}{rs:List Rc}(h:ay (an g) (pre.filterMap fun id=>(pickT B L R id).join) rs):∀ y∈rs,y.id∈pre:=fun y a=>by
 obtain ⟨c,hc,hr⟩:=Aw h a;obtain ⟨id,b,d⟩:=List.mem_filterMap.1 hc;rw[hr.1,Gy d];exact b
theorem Tryz.buildZm29 (w:World):(Instr.build 29 #[]).run Tryz.prog w = .ok (.agg #[.slice none 0 0]) w:=by
 simp[Instr.build,Instr.fill];rfl
structure xO (g:PH)(vb vl vr:Value)(B L R:List Cl):Prop where
 hb:mB g vb B
 hl:mB g vl L
 hr:mB g vr R
theorem xO.mono {g g':PH}{vb vl a:Value}(h:xO g vb vl a B L R)(hl:Le g g'):xO g' vb vl a B L R:=⟨h.hb.mono hl,h.hl.mono hl,h.hr.mono hl⟩
theorem lz (E:World)(hE:E.drawn=0)(g:PH)(s:Own)(v u w:Value)(b l r:List Cl)(hv:ai g v b)(hu:ai g u l)(hw:ai g w r)(fb:aM b)(fl:aM l)(fr:aM r)(rb:(aq b).2=0)(rl:(aq l).2=0)(rr:(aq r).2=0)(hi:∀ x,x∈b∨x∈l∨x∈r→bh x.id)(hn:b.length+(l.length+r.length)≤4000) :
  Ctr Tryz.prog E 15 #[.agg #[v],.agg #[u],.agg #[w]] g s fun x g' s'=>s=s'∧Le g g'∧∃ y z,x = .tuple #[.agg #[y],z]∧ai g' y (iM (aa b) (aa l)<|aa r).1∧dA g' z (iM (aa b) (aa l)<|aa r).2:=by
 obtain ⟨pb,cb,rfl⟩:=hv.form;obtain ⟨pl,cl,rfl⟩:=hu.form;obtain ⟨pr,cr,rfl⟩:=hw.form;have rB:=i9 rb;have rL:=i9 rl;have rR:=i9 rr;have t0:=ax b;have t1:=ax l;have t2:=ax r;have fB:=aF fb;have fL:=aF fl;have fR:=aF fr;have h0:∀ {x:Cl} {a:List Cl},x∈aa a→∃ y∈a,y.id=x.id:=fun {x a} hx=>by
  unfold aa at hx;obtain ⟨y,hy,rfl⟩:=zf3.1 hx;exact⟨y,(eO (key:=Cl.id) a).mem_iff.1 hy,I⟩
 have n5:∀ A∈[aa b,aa l,aa r],∀ x∈A,bh x.id:=fun A hA x hx=>by
  simp at hA
  rcases hA with rfl | rfl | rfl
  ·obtain ⟨y,Q,h2⟩:=h0 hx;rw[← h2];exact hi y<|.inl Q
  ·obtain ⟨y,Q,h2⟩:=h0 hx;rw[← h2];exact hi y<|.inr<|.inl Q
  ·obtain ⟨y,Q,h2⟩:=h0 hx;rw[← h2];exact hi y<|.inr<|.inr Q
 refine Jj (args:=[.agg #[.slice pb b.length cb],.agg #[.slice pl l.length cl],.agg #[.slice pr r.length cr]]) func15 I ntmps15 (bE I)<|hX<|cu<|Ib (bO I) dC ?_;rintro _ _ _ ⟨b3,rfl,rfl,rfl⟩;refine Ib (bO I) dC ?_;rintro _ _ _ ⟨b4,rfl,rfl,rfl⟩;refine Ib (bO I) dC ?_;rintro _ _ _ ⟨b5,rfl,rfl,rfl⟩;refine Ib (aL zl9) dC ?_;rintro _ _ _ ⟨b6,rfl,rfl,rfl⟩;refine ka (aS I) dC<|iF<|dr<|XC.scope<|hX<|hX<|cu<|Ia (qV 3 aj ae I I I) dC<|Ia (qV 2 aj ae I I I) dC<|Ia (qV 1 aj ae I I I) dC<|Ib (bS sty115 I I I (ab sB) dC) dC ?_;rintro _ _ _ ⟨q7,rfl,rfl,rfl⟩;refine XL.freeze fun g1 c6 l4=>?_;have m1:SlA ec g1 (.slice (some ⟨q7,0,none⟩) 3 3) [⟨pb,b.length,cb⟩,⟨pl,l.length,cl⟩,⟨pr,r.length,cr⟩]:=kb l4 rfl rfl;have e9:=hv.mono c6;have f7:=hu.mono c6;have f8:=hw.mono c6;refine Ib (bt call20 I<|qx E g1 _ _ [b,l,r] [⟨pb,b.length,cb⟩,⟨pl,l.length,cl⟩,⟨pr,r.length,cr⟩] m1 ⟨e9,f7,f8,trivial⟩ (by simp[fb,fl,fr]) dO (by simp[rb,rl,rr])) dC ?_;rintro _ _ _ ⟨rfl,rfl,rfl⟩;refine ka (oF I) dC<|iF<|dr<|Iy I<|Ip<|dr<|XC.cut (ι:=PH×Value×Value×Value×Nat×Nat×Nat) (fun i=>[(6,pp b6 0),(8,pp i.2.2.2.2.1 0),(9,pp i.2.2.2.2.2.1 0),(10,pp i.2.2.2.2.2.2 0)]) (fun i=>i.1) (fun i=>pt i.2.2.2.2.1 (bY #[i.2.1] 57)::pt i.2.2.2.2.2.1 (bY #[i.2.2.1] 57)::pt i.2.2.2.2.2.2 (bY #[i.2.2.2.1] 57)::pt b6 (bY #[.slice none 0 0] 29)::pt b5 (bY #[.slice pr r.length cr] 29)::pt b4 (bY #[.slice pl l.length cl] 29)::pt b3 (bY #[.slice pb b.length cb] 29)::s)
  (fun i=>Le g1 i.1∧xO i.1 i.2.1 i.2.2.1 i.2.2.2.1 (aa b) (aa l) (aa r)) ?_ ?_
 ·refine XC.drawX [9,10,11] ze4 kR kR ?_;refine Ie (i:=0) I kR (qV 3 aj ae I I I) dC<|Ie (i:=2) I kR (qV 2 aj ae I I I) dC<|Ie (i:=4) I kR (qV 1 aj ae I I I) dC ?_
  repeat' (first
   | ((with_reducible refine SB.k 11 ?_);first | (refine SB.on (i:=11) rfl (oi 0 xh rfl rfl rfl rfl (bE rfl) rfl) (.inl dC) ?_;rintro _ _ _ ⟨rfl,rfl⟩) | (refine SB.on (i:=11) rfl (oi 1 xh rfl rfl rfl rfl (bE rfl) rfl) (.inl dC) ?_;rintro _ _ _ ⟨rfl,rfl⟩) | (refine SB.on (i:=11) rfl (oi 2 xh rfl rfl rfl rfl (bE rfl) rfl) (.inl dC) ?_;rintro _ _ _ ⟨rfl,rfl⟩))
   | ((with_reducible refine SB.k 10 ?_);first | (refine SB.on (i:=10) rfl (oi 1 xh rfl rfl rfl rfl (bE rfl) rfl) (.inl dC) ?_;rintro _ _ _ ⟨rfl,rfl⟩) | (refine SB.on (i:=10) rfl (oi 0 xh rfl rfl rfl rfl (bE rfl) rfl) (.inl dC) ?_;rintro _ _ _ ⟨rfl,rfl⟩) | (refine SB.on (i:=10) rfl (oi 2 xh rfl rfl rfl rfl (bE rfl) rfl) (.inl dC) ?_;rintro _ _ _ ⟨rfl,rfl⟩))
   | ((with_reducible refine SB.k 9 ?_);first | (refine SB.on (i:=9) rfl (oi 2 xh rfl rfl rfl rfl (bE rfl) rfl) (.inl dC) ?_;rintro _ _ _ ⟨rfl,rfl⟩) | (refine SB.on (i:=9) rfl (oi 1 xh rfl rfl rfl rfl (bE rfl) rfl) (.inl dC) ?_;rintro _ _ _ ⟨rfl,rfl⟩) | (refine SB.on (i:=9) rfl (oi 0 xh rfl rfl rfl rfl (bE rfl) rfl) (.inl dC) ?_;rintro _ _ _ ⟨rfl,rfl⟩))
   | ((with_reducible refine SB.k 8 ?_);first | (refine SB.o (i:=8) rfl (aL zl3) dC (.inr<|by rintro _ _ _ ⟨C,rfl,rfl,rfl⟩;exact⟨by assumption,(by exact .cons _<|.refl _)⟩) ?_;rintro _ _ _ ⟨C,rfl,rfl,rfl⟩) | (refine SB.o (i:=8) rfl (aL zl3) dC (.inr<|by rintro _ _ _ ⟨C,rfl,rfl,rfl⟩;exact⟨by exact zb9 _,(by exact .cons _<|.refl _)⟩) ?_;rintro _ _ _ ⟨C,rfl,rfl,rfl⟩) | (refine SB.o (i:=8) rfl (aL zl3) dC (.inr<|by rintro _ _ _ ⟨C,rfl,rfl,rfl⟩;exact⟨by assumption,(by exact .cons _<|.cons _<|.refl _)⟩) ?_;rintro _ _ _ ⟨C,rfl,rfl,rfl⟩) | (refine SB.o (i:=8) rfl (aL zl3) dC (.inr<|by rintro _ _ _ ⟨C,rfl,rfl,rfl⟩;exact⟨by exact zb9 _,(by exact .cons _<|.cons _<|.refl _)⟩) ?_;rintro _ _ _ ⟨C,rfl,rfl,rfl⟩) | (refine SB.o (i:=8) rfl (aL zl3) dC (.inr<|by rintro _ _ _ ⟨C,rfl,rfl,rfl⟩;exact⟨by assumption,(by exact .cons _<|.cons _<|.cons _<|.refl _)⟩) ?_;rintro _ _ _ ⟨C,rfl,rfl,rfl⟩) | (refine SB.o (i:=8) rfl (aL zl3) dC (.inr<|by rintro _ _ _ ⟨C,rfl,rfl,rfl⟩;exact⟨by exact zb9 _,(by exact .cons _<|.cons _<|.cons _<|.refl _)⟩) ?_;rintro _ _ _ ⟨C,rfl,rfl,rfl⟩))
   | ((with_reducible refine SB.k 7 ?_);first | (refine SB.o (i:=7) rfl (aL zl3) dC (.inr<|by rintro _ _ _ ⟨Z,rfl,rfl,rfl⟩;exact⟨by assumption,(by exact .cons _<|.refl _)⟩) ?_;rintro _ _ _ ⟨Z,rfl,rfl,rfl⟩) | (refine SB.o (i:=7) rfl (aL zl3) dC (.inr<|by rintro _ _ _ ⟨Z,rfl,rfl,rfl⟩;exact⟨by exact zb9 _,(by exact .cons _<|.refl _)⟩) ?_;rintro _ _ _ ⟨Z,rfl,rfl,rfl⟩) | (refine SB.o (i:=7) rfl (aL zl3) dC (.inr<|by rintro _ _ _ ⟨Z,rfl,rfl,rfl⟩;exact⟨by assumption,(by exact .cons _<|.cons _<|.refl _)⟩) ?_;rintro _ _ _ ⟨Z,rfl,rfl,rfl⟩) | (refine SB.o (i:=7) rfl (aL zl3) dC (.inr<|by rintro _ _ _ ⟨Z,rfl,rfl,rfl⟩;exact⟨by exact zb9 _,(by exact .cons _<|.cons _<|.refl _)⟩) ?_;rintro _ _ _ ⟨Z,rfl,rfl,rfl⟩) | (refine SB.o (i:=7) rfl (aL zl3) dC (.inr<|by rintro _ _ _ ⟨Z,rfl,rfl,rfl⟩;exact⟨by assumption,(by exact .cons _<|.cons _<|.cons _<|.refl _)⟩) ?_;rintro _ _ _ ⟨Z,rfl,rfl,rfl⟩) | (refine SB.o (i:=7) rfl (aL zl3) dC (.inr<|by rintro _ _ _ ⟨Z,rfl,rfl,rfl⟩;exact⟨by exact zb9 _,(by exact .cons _<|.cons _<|.cons _<|.refl _)⟩) ?_;rintro _ _ _ ⟨Z,rfl,rfl,rfl⟩))
   | ((with_reducible refine SB.k 6 ?_);first | (refine SB.o (i:=6) rfl (aL zl3) dC (.inr<|by rintro _ _ _ ⟨b8,rfl,rfl,rfl⟩;exact⟨by assumption,(by exact .cons _<|.refl _)⟩) ?_;rintro _ _ _ ⟨b8,rfl,rfl,rfl⟩) | (refine SB.o (i:=6) rfl (aL zl3) dC (.inr<|by rintro _ _ _ ⟨b8,rfl,rfl,rfl⟩;exact⟨by exact zb9 _,(by exact .cons _<|.refl _)⟩) ?_;rintro _ _ _ ⟨b8,rfl,rfl,rfl⟩) | (refine SB.o (i:=6) rfl (aL zl3) dC (.inr<|by rintro _ _ _ ⟨b8,rfl,rfl,rfl⟩;exact⟨by assumption,(by exact .cons _<|.cons _<|.refl _)⟩) ?_;rintro _ _ _ ⟨b8,rfl,rfl,rfl⟩) | (refine SB.o (i:=6) rfl (aL zl3) dC (.inr<|by rintro _ _ _ ⟨b8,rfl,rfl,rfl⟩;exact⟨by exact zb9 _,(by exact .cons _<|.cons _<|.refl _)⟩) ?_;rintro _ _ _ ⟨b8,rfl,rfl,rfl⟩) | (refine SB.o (i:=6) rfl (aL zl3) dC (.inr<|by rintro _ _ _ ⟨b8,rfl,rfl,rfl⟩;exact⟨by assumption,(by exact .cons _<|.cons _<|.cons _<|.refl _)⟩) ?_;rintro _ _ _ ⟨b8,rfl,rfl,rfl⟩) | (refine SB.o (i:=6) rfl (aL zl3) dC (.inr<|by rintro _ _ _ ⟨b8,rfl,rfl,rfl⟩;exact⟨by exact zb9 _,(by exact .cons _<|.cons _<|.cons _<|.refl _)⟩) ?_;rintro _ _ _ ⟨b8,rfl,rfl,rfl⟩))
   | ((with_reducible refine SB.k 5 ?_);first | (refine SB.o (i:=5) rfl (bt call21 rfl<|eR E g3 _ _ r (f8.mono G) fr rR.ids) dC (.inr<|by rintro _ g4 _ ⟨rfl,d,T⟩;exact⟨by exact kc io io,(by exact .refl _)⟩) ?_;rintro _ g4 _ ⟨rfl,d,T⟩;obtain ⟨m4,b1,rfl,a2,a3⟩:=T;have M:=G.trans d) | (refine SB.o (i:=5) rfl (bt call21 rfl<|eR E g3 _ _ r (f8.mono G) fr rR.ids) dC (.inr<|by rintro _ g4 _ ⟨rfl,d,T⟩;exact⟨by exact kc io io,(by exact .cons _<|.refl _)⟩) ?_;rintro _ g4 _ ⟨rfl,d,T⟩;obtain ⟨m4,b1,rfl,a2,a3⟩:=T;have M:=G.trans d) | (refine SB.o (i:=5) rfl (bt call21 rfl<|eR E g3 _ _ r (f8.mono G) fr rR.ids) dC (.inr<|by rintro _ g4 _ ⟨rfl,d,T⟩;exact⟨by exact kc io io,(by exact .cons _<|.cons _<|.refl _)⟩) ?_;rintro _ g4 _ ⟨rfl,d,T⟩;obtain ⟨m4,b1,rfl,a2,a3⟩:=T;have M:=G.trans d) | (refine SB.o (i:=5) rfl (bt call21 rfl<|eR E g3 _ _ r (f8.mono G) fr rR.ids) dC (.inr<|by rintro _ g4 _ ⟨rfl,d,T⟩;exact⟨by exact kc io io,(by exact .cons _<|.cons _<|.cons _<|.refl _)⟩) ?_;rintro _ g4 _ ⟨rfl,d,T⟩;obtain ⟨m4,b1,rfl,a2,a3⟩:=T;have M:=G.trans d))
   | ((with_reducible refine SB.k 3 ?_);first | (refine SB.o (i:=3) rfl (bt call21 rfl<|eR E g2 _ _ l (f7.mono H) fl rL.ids) dC (.inr<|by rintro _ g3 _ ⟨rfl,f,b2⟩;exact⟨by exact kc io io,(by exact .refl _)⟩) ?_;rintro _ g3 _ ⟨rfl,f,b2⟩;obtain ⟨m3,b7,rfl,a4,a5⟩:=b2;have G:=H.trans f) | (refine SB.o (i:=3) rfl (bt call21 rfl<|eR E g2 _ _ l (f7.mono H) fl rL.ids) dC (.inr<|by rintro _ g3 _ ⟨rfl,f,b2⟩;exact⟨by exact kc io io,(by exact .cons _<|.refl _)⟩) ?_;rintro _ g3 _ ⟨rfl,f,b2⟩;obtain ⟨m3,b7,rfl,a4,a5⟩:=b2;have G:=H.trans f) | (refine SB.o (i:=3) rfl (bt call21 rfl<|eR E g2 _ _ l (f7.mono H) fl rL.ids) dC (.inr<|by rintro _ g3 _ ⟨rfl,f,b2⟩;exact⟨by exact kc io io,(by exact .cons _<|.cons _<|.refl _)⟩) ?_;rintro _ g3 _ ⟨rfl,f,b2⟩;obtain ⟨m3,b7,rfl,a4,a5⟩:=b2;have G:=H.trans f) | (refine SB.o (i:=3) rfl (bt call21 rfl<|eR E g2 _ _ l (f7.mono H) fl rL.ids) dC (.inr<|by rintro _ g3 _ ⟨rfl,f,b2⟩;exact⟨by exact kc io io,(by exact .cons _<|.cons _<|.cons _<|.refl _)⟩) ?_;rintro _ g3 _ ⟨rfl,f,b2⟩;obtain ⟨m3,b7,rfl,a4,a5⟩:=b2;have G:=H.trans f))
   | ((with_reducible refine SB.k 1 ?_);first | (refine SB.o (i:=1) rfl (bt call21 rfl<|eR E g1 _ _ b e9 fb rB.ids) dC (.inr<|by rintro _ g2 _ ⟨rfl,H,c1⟩;exact⟨by assumption,(by exact .refl _)⟩) ?_;rintro _ g2 _ ⟨rfl,H,c1⟩;obtain ⟨m2,c2,rfl,a9,b0⟩:=c1) | (refine SB.o (i:=1) rfl (bt call21 rfl<|eR E g1 _ _ b e9 fb rB.ids) dC (.inr<|by rintro _ g2 _ ⟨rfl,H,c1⟩;exact⟨by assumption,(by exact .cons _<|.refl _)⟩) ?_;rintro _ g2 _ ⟨rfl,H,c1⟩;obtain ⟨m2,c2,rfl,a9,b0⟩:=c1) | (refine SB.o (i:=1) rfl (bt call21 rfl<|eR E g1 _ _ b e9 fb rB.ids) dC (.inr<|by rintro _ g2 _ ⟨rfl,H,c1⟩;exact⟨by assumption,(by exact .cons _<|.cons _<|.refl _)⟩) ?_;rintro _ g2 _ ⟨rfl,H,c1⟩;obtain ⟨m2,c2,rfl,a9,b0⟩:=c1) | (refine SB.o (i:=1) rfl (bt call21 rfl<|eR E g1 _ _ b e9 fb rB.ids) dC (.inr<|by rintro _ g2 _ ⟨rfl,H,c1⟩;exact⟨by assumption,(by exact .cons _<|.cons _<|.cons _<|.refl _)⟩) ?_;rintro _ g2 _ ⟨rfl,H,c1⟩;obtain ⟨m2,c2,rfl,a9,b0⟩:=c1))
   | ((with_reducible refine Ij 8 ?_);first | refine IG 1 7 8 kD ?_ ?_ ?_ | refine IG 1 6 8 kD ?_ ?_ ?_ | refine IG 1 6 7 kD ?_ ?_ ?_ | refine SX.br4 3 6 7 8 kD ?_ ?_ ?_ ?_)
   | ((with_reducible refine Ij 7 ?_);first | refine zd8 1 8 kD ?_ ?_ | refine zd8 1 7 kD ?_ ?_ | refine zd8 1 6 kD ?_ ?_ | refine IG 3 7 8 kD ?_ ?_ ?_ | refine IG 3 6 8 kD ?_ ?_ ?_ | refine IG 3 6 7 kD ?_ ?_ ?_ | refine SX.br4 5 6 7 8 kD ?_ ?_ ?_ ?_)
   | ((with_reducible refine Ij 6 ?_);first | refine zd7 1 kD ?_ | refine zd8 3 8 kD ?_ ?_ | refine zd8 3 7 kD ?_ ?_ | refine zd8 3 6 kD ?_ ?_ | refine IG 6 7 8 kD ?_ ?_ ?_ | refine IG 5 7 8 kD ?_ ?_ ?_ | refine IG 5 6 8 kD ?_ ?_ ?_ | refine IG 5 6 7 kD ?_ ?_ ?_)
   | ((with_reducible refine Ij 5 ?_);first | refine zd7 3 kD ?_ | refine zd8 7 8 kD ?_ ?_ | refine zd8 6 8 kD ?_ ?_ | refine zd8 6 7 kD ?_ ?_ | refine zd8 5 8 kD ?_ ?_ | refine zd8 5 7 kD ?_ ?_ | refine zd8 5 6 kD ?_ ?_)
   | ((with_reducible refine Ij 4 ?_);first | refine zd7 8 kD ?_ | refine zd7 7 kD ?_ | refine zd7 6 kD ?_ | refine zd7 5 kD ?_)
   | ((with_reducible refine Ij 3 ?_);refine zd7 9 kD ?_)
   | ((with_reducible refine Ij 2 ?_);refine zd7 10 kD ?_)
   | ((with_reducible refine Ij 1 ?_);refine zd7 11 kD ?_)
   | ((with_reducible refine Ij 0 ?_);first | (refine H5 kD<|Jc ?_;refine XT.to (g':=g4) (s':=pt b8 (bY #[.map<|some m2] 57)::pt Z (bY #[.map<|some m3] 57)::pt C (bY #[.map<|some m4] 57)::pt b6 (bY #[.slice none 0 0] 29)::pt b5 (bY #[.slice pr r.length cr] 29)::pt b4 (bY #[.slice pl l.length cl] 29)::pt b3 (bY #[.slice pb b.length cb] 29)::s) (fun w hw=>hw.perm<|by exact .refl _) ?_;exact Js (g4,.map<|some m2,.map<|some m3,.map<|some m4,b8,Z,C) sB I I ⟨M,⟨m2,c2,I,a9.mono<|f.trans d,b0.mono fun _ _ h=>an.mono (f.trans d) h⟩,⟨m3,b7,I,a4.mono d,a5.mono fun _ _ h=>an.mono d h⟩,⟨m4,b1,I,a2,a3⟩⟩) | (refine H5 kD<|Jc ?_;refine XT.to (g':=g4) (s':=pt b8 (bY #[.map<|some m2] 57)::pt Z (bY #[.map<|some m3] 57)::pt C (bY #[.map<|some m4] 57)::pt b6 (bY #[.slice none 0 0] 29)::pt b5 (bY #[.slice pr r.length cr] 29)::pt b4 (bY #[.slice pl l.length cl] 29)::pt b3 (bY #[.slice pb b.length cb] 29)::s) (fun w hw=>hw.perm<|by exact .swap _ _ _) ?_;exact Js (g4,.map<|some m2,.map<|some m3,.map<|some m4,b8,Z,C) sB I I ⟨M,⟨m2,c2,I,a9.mono<|f.trans d,b0.mono fun _ _ h=>an.mono (f.trans d) h⟩,⟨m3,b7,I,a4.mono d,a5.mono fun _ _ h=>an.mono d h⟩,⟨m4,b1,I,a2,a3⟩⟩) | (refine H5 kD<|Jc ?_;refine XT.to (g':=g4) (s':=pt b8 (bY #[.map<|some m2] 57)::pt Z (bY #[.map<|some m3] 57)::pt C (bY #[.map<|some m4] 57)::pt b6 (bY #[.slice none 0 0] 29)::pt b5 (bY #[.slice pr r.length cr] 29)::pt b4 (bY #[.slice pl l.length cl] 29)::pt b3 (bY #[.slice pb b.length cb] 29)::s) (fun w hw=>hw.perm<|by exact .cons _<|.swap _ _ _) ?_;exact Js (g4,.map<|some m2,.map<|some m3,.map<|some m4,b8,Z,C) sB I I ⟨M,⟨m2,c2,I,a9.mono<|f.trans d,b0.mono fun _ _ h=>an.mono (f.trans d) h⟩,⟨m3,b7,I,a4.mono d,a5.mono fun _ _ h=>an.mono d h⟩,⟨m4,b1,I,a2,a3⟩⟩) | (refine H5 kD<|Jc ?_;refine XT.to (g':=g4) (s':=pt b8 (bY #[.map<|some m2] 57)::pt Z (bY #[.map<|some m3] 57)::pt C (bY #[.map<|some m4] 57)::pt b6 (bY #[.slice none 0 0] 29)::pt b5 (bY #[.slice pr r.length cr] 29)::pt b4 (bY #[.slice pl l.length cl] 29)::pt b3 (bY #[.slice pb b.length cb] 29)::s) (fun w hw=>hw.perm<|by exact .trans (.cons _<|.swap _ _ _)<|.swap _ _ _) ?_;exact Js (g4,.map<|some m2,.map<|some m3,.map<|some m4,b8,Z,C) sB I I ⟨M,⟨m2,c2,I,a9.mono<|f.trans d,b0.mono fun _ _ h=>an.mono (f.trans d) h⟩,⟨m3,b7,I,a4.mono d,a5.mono fun _ _ h=>an.mono d h⟩,⟨m4,b1,I,a2,a3⟩⟩) | (refine H5 kD<|Jc ?_;refine XT.to (g':=g4) (s':=pt b8 (bY #[.map<|some m2] 57)::pt Z (bY #[.map<|some m3] 57)::pt C (bY #[.map<|some m4] 57)::pt b6 (bY #[.slice none 0 0] 29)::pt b5 (bY #[.slice pr r.length cr] 29)::pt b4 (bY #[.slice pl l.length cl] 29)::pt b3 (bY #[.slice pb b.length cb] 29)::s) (fun w hw=>hw.perm<|by exact .trans (.swap _ _ _)<|.cons _<|.swap _ _ _) ?_;exact Js (g4,.map<|some m2,.map<|some m3,.map<|some m4,b8,Z,C) sB I I ⟨M,⟨m2,c2,I,a9.mono<|f.trans d,b0.mono fun _ _ h=>an.mono (f.trans d) h⟩,⟨m3,b7,I,a4.mono d,a5.mono fun _ _ h=>an.mono d h⟩,⟨m4,b1,I,a2,a3⟩⟩) | (refine H5 kD<|Jc ?_;refine XT.to (g':=g4) (s':=pt b8 (bY #[.map<|some m2] 57)::pt Z (bY #[.map<|some m3] 57)::pt C (bY #[.map<|some m4] 57)::pt b6 (bY #[.slice none 0 0] 29)::pt b5 (bY #[.slice pr r.length cr] 29)::pt b4 (bY #[.slice pl l.length cl] 29)::pt b3 (bY #[.slice pb b.length cb] 29)::s) (fun w hw=>hw.perm<|by exact .trans (.swap _ _ _)<|.trans (.cons _<|.swap _ _ _)<|.swap _ _ _) ?_;exact Js (g4,.map<|some m2,.map<|some m3,.map<|some m4,b8,Z,C) sB I I ⟨M,⟨m2,c2,I,a9.mono<|f.trans d,b0.mono fun _ _ h=>an.mono (f.trans d) h⟩,⟨m3,b7,I,a4.mono d,a5.mono fun _ _ h=>an.mono d h⟩,⟨m4,b1,I,a2,a3⟩⟩))
   | (refine Ij 9 ?_;refine SX.br4 1 6 7 8 kD ?_ ?_ ?_ ?_))
 rintro ⟨g4,q8,q9,r0,b8,Z,C⟩ ⟨d,T⟩;dsimp only at d T ⊢;refine Jw (g':=g4) (s':=pt b8 (bY #[q8] 57)::pt Z (bY #[q9] 57)::pt C (bY #[r0] 57)::pt b6 (bY #[.slice none 0 0] 29)::s) (fun w hw=>hw.sublist<|.cons_cons _<|.cons_cons _<|.cons_cons _<|.cons_cons _<|.cons _<|.cons _<|.cons _<|.refl _)<|JA fun g5 h7 J=>?_;refine JA fun g6 e0 F=>?_;refine JA fun g7 c7 j=>?_;have r1:=T.mono<|h7.trans<|e0.trans c7;have J:=c7 _ _<|e0 _ _ J;have F:=c7 _ _ F;have n6:=c6.trans<|d.trans<|h7.trans<|e0.trans c7;clear T d h7 e0 c7 e9 f7 f8 m1 l4 c6;generalize aa b=B at *;generalize aa l=L at *;generalize aa r=R at *;obtain ⟨⟨m2,c2,rfl,a9,b0⟩,⟨m3,b7,rfl,a4,a5⟩,m4,b1,rfl,a2,a3⟩:=r1;have a0:mB g7 (.map<|some m2) B:=⟨m2,c2,rfl,a9,b0⟩;have O:mB g7 (.map<|some m3) L:=⟨m3,b7,rfl,a4,a5⟩;have N:mB g7 (.map<|some m4) R:=⟨m4,b1,rfl,a2,a3⟩;refine hX<|cu<|Ib (Io) dC ?_;rintro _ _ _ ⟨ms,rfl,rfl,rfl⟩;refine Ib (aL zl3) dC ?_;rintro _ _ _ ⟨c9,rfl,rfl,rfl⟩;refine ID (sK 0 xh I I I I I sB) ?_;rintro _ _ _ ⟨rfl,rfl⟩;refine iF<|dr<|hX<|cu<|Ib (aL zeroValue43) dC ?_;rintro _ _ _ ⟨d8,rfl,rfl,rfl⟩;refine iF<|dr<|hX<|XC.label<|dr<|hX<|hX<|Jw (g':=g7) (s':=pt c9 (bY #[.map<|some ms] 57)::pt d8 (bY #[.slice none 0 0] 43)::mp ms ([]:List<|Int×Value)::pt b6 (bY #[.slice none 0 0] 29)::s) (fun w hw=>hw.perm<|zk2 _ _ _)<|JA fun g8 e1 t=>?_;have J:=e1 _ _ J;have F:=e1 _ _ F;have j:=e1 _ _ j;refine cu<|Ia (qL (v:=.map<|some m2) eE I<|ao.known J I) dC<|Ia (qL (v:=.map<|some m3) eE I<|ao.known F I) dC<|Ia (qL (v:=.map<|some m4) eE I<|ao.known j I) dC<|Ib (bS sty146 I I I (ab sB)<|bE I) dC ?_;rintro _ _ _ ⟨r2,rfl,rfl,rfl⟩;refine XL.freeze fun g9 n0 n1=>?_;have n2:SlA D9 g9 (.slice (some ⟨r2,0,none⟩) 3 3) [m2,m3,m4]:=kb n1 rfl rfl;have n7:=e1.trans n0;refine Ib (bt call54 I<|p8 E g9 _ _ 3 3) dC ?_;rintro _ gA _ ⟨rfl,h8,ba,rfl,r3⟩;have U:=n7.trans h8;have c5:=n0.trans h8;have r4:=nz E hE gA ba _ 3 [m2,m3,m4] [B,L,R] r3 (za5 n2 h8) ⟨a0.mono U,O.mono U,N.mono U,trivial⟩ n5 (by rw[List.flatten_cons,List.flatten_cons,List.flatten_cons,List.flatten_nil,zc7,ze6,ze6] ;omega) dO;refine iF<|dr<|uu ?_;have a0:=a0.mono U;have O:=O.mono U;have N:=N.mono U;have J:=c5 _ _ J;have F:=c5 _ _ F;have j:=c5 _ _ j;have t:=c5 _ _ t;have n8:=n6.trans U;clear a9 b0 a4 a5 a2 a3 n2 n1;refine Jw (g':=gA) (s':=rowA encInt 3 (.slice none 0 0) []::pt d8 (bY #[.slice none 0 0] 43)::mp ms (([]:List Rc).map au)::pt b6 (bY #[.slice none 0 0] 29)::s) (fun w hw=>hw.nilRow 3 1)<|Jp (α:=Int) (ι:=PH×Value×List Int×List Rc) (κ:=Unit) (encs:=fun v=>[vi v]) (xs:=iJ [B,L,R]) (g0:=gA) (fun i=>i.1) (fun i=>rowA encInt 3 i.2.1 i.2.2.1::pt d8 (bY #[i.2.1] 43)::mp ms (i.2.2.2.map au)::[])
  (fun pre i=>Le gA i.1∧i.2.2.1=(pre.filter fun id=>(pickT B L R id).isNone)∧ay (an i.1) (pre.filterMap fun id=>(pickT B L R id).join) i.2.2.2) (gA,.slice none 0 0,[],[]) (pt b6 (bY #[.slice none 0 0] 29)::s)
  (fun x=>[(39,vi x),(8,pp b8 0),(9,pp Z 0),(10,pp C 0),(11,pp c9 0),(12,pp d8 0)]) (fun _ x _ _=>[(13,vi x),(8,pp b8 0),(9,pp Z 0),(10,pp C 0),(11,pp c9 0),(12,pp d8 0)]) (fun _ _=>[])
  rfl rfl call101 (fun _=>rfl) rfl rfl r4 (fun _ _ h=>h.1) (fun pre i g' hJ hl=>⟨(g',i.2),⟨hJ.1.trans hl,hJ.2.1,hJ.2.2.mono fun _ _ h=>an.mono hl h⟩,rfl,rfl⟩) ⟨zb9 _,rfl,trivial⟩
  (fun x a h=>tg (h.sub (g:=[(8,pp b8 0),(9,pp Z 0),(10,pp C 0),(11,pp c9 0),(12,pp d8 0)]) sB) dC) ?_ ?_ ?_
 ·intro y pre x i sx hJ;exact cu<|ka (aS I) dC<|iF<|I1 () sB I
 ·rintro y pre x suf ⟨S,ov,acc,rs⟩ sx _ - p6 ⟨p,c3,a1⟩;dsimp only at p c3 a1 ⊢;have a0:=a0.mono p;have O:=O.mono p;have N:=N.mono p;have J:=p _ _ J;have F:=p _ _ F;have j:=p _ _ j;have t:=p _ _ t;have t3:acc.length<1000000:=by
   have Q:acc.length≤pre.length:=by rw[c3];exact zc6 _ _
   have h2:=ze3 List.length p6;have h3:(iJ [B,L,R]).length≤[B,L,R].flatten.length:=by unfold iJ;rw[ze7];exact jC _
   rw[List.flatten_cons,List.flatten_cons,List.flatten_cons,List.flatten_nil,zc7,ze6,ze6] at h3;rw[ze6] at h2;omega
  have h9:∀ z∈rs,z.id≠x:=fun z hz=>by
   have Q:=Gb a1 z hz;have h2:=oB [B,L,R];rw[p6,List.pairwise_append] at h2;have:=h2.2.2 _ Q x dO;omega
  have X:(pre++[x]).filter (fun id=>(pickT B L R id).isNone)=acc++if (pickT B L R x).isNone then [x] else []:=by
   rw[zh7,← c3];refine ze3 _ ?_;rw[zi8];rfl
  have n:(pre++[x]).filterMap (fun id=>(pickT B L R id).join)=(pre.filterMap fun id=>(pickT B L R id).join)++(pickT B L R x).join.toList:=by
   rw[List.filterMap_append];refine ze3 _ ?_;rw[List.filterMap_cons,List.filterMap_nil];cases (pickT B L R x).join <;> rfl
  refine Jv fun ⟨w0,d0⟩=>?_;obtain ⟨p0,c0,rfl⟩:=ag (e:=encInt) (l:=acc) (i:=0) d0 rfl;clear d0 w0;have look:∀ {m:Nat} {A:List Cl},mB S (.map<|some m) A→∃ (ri rd:Int) (V:Option Addr) (W rc:Nat) (d4:List Rc),Mp S m (d4.map au)∧(eU (d4.map au) x).getD (.agg #[vi 0,vi 0,.slice none 0 0]) = .agg #[vi ri,vi rd,.slice V W rc]∧(eU (d4.map au) x).isSome=(ah A x).isSome∧an S ((ah A x).getD aJ) ⟨ri,rd,⟨V,W,rc⟩⟩:=fun {m A} hT=>by
   obtain ⟨m',d4,Q,h2,h3⟩:=hT;obtain rfl:m=m':=by injection Q with h;injection h
   obtain ⟨⟨ri,rd,V,W,rc⟩,h4,h5,h6⟩:=dQ h3 iw x;exact⟨ri,rd,V,W,rc,d4,h2,h4,h5,h6⟩
  rcases Bool.eq_false_or_eq_true (eZ L R x) with Q | Q
  ·-- both sides agree
   have d9:=Fz (B:=B) (L:=L) (R:=R) (x:=x) (by rw[Q];rfl);obtain ⟨ri,rd,V,W,rc,d4,d5,d6,Y,K⟩:=look O;rw[d9] at X n;rw[show (Option.isNone (some<|ah L x):Bool)=false from rfl,zg1 dC,zc7] at X;cases hf:ah L x with
   | none =>
    rw[hf] at Y K n;have n:(pre++[x]).filterMap (fun id=>(pickT B L R id).join)=pre.filterMap fun id=>(pickT B L R id).join:=by rw[n];exact zc7 _
    refine uu<|hX<|cu<|Ia (qL (v:=.map<|some m3) eE I<|ao.known F I) dC<|ka (aS I) dC<|iF<|dr<|hX<|uu<|hX<|cu<|Ia (qL (v:=.map<|some m3) eE I<|ao.known F I) dC<|Ia (qL (v:=.map<|some m4) eE I<|ao.known j I) dC<|ka (mV I) dC<|Ib (bt call55 I<|bB E S _ _ _ L R x O N fL) dC ?_;rintro _ _ _ ⟨rfl,rfl,rfl⟩;rw[Q];refine ka (mV I) dC<|Jd (gZ I I I dC) dC<|Jd (gZ I I I dC) dC<|Jd (gZ I I I dC) dC<|Jd (gZ I I I dC) dC<|ka (wT I I) dC<|ka (aS I) dC<|iF<|dr<|IF I<|Ip<|wc<|dr<|hX<|cu<|ka (mV I) dC<|ka (mV I) dC<|Ia (SQ.eq (v':=.tuple #[.agg #[vi ri,vi rd,.slice V W rc],vb false]) (qn mty57 I I<|bo.known d5)<|by rw[d6,Y];rfl) dC ?_;refine ka (mV I) dC<|ka (xT I I) dC<|ka (xT I I) dC<|Ib (aL zl6) dC ?_;rintro _ _ _ ⟨i0,rfl,rfl,rfl⟩;refine ID (sK 0 ar I I I I I sB) ?_;rintro _ _ _ ⟨rfl,rfl⟩;exact ka (aS I) dC<|iF<|dr<|hX<|cu<|ka (mV I) dC<|iF<|dr<|Iy I<|Ip<|wc<|IY (.cons _<|.refl _)<|Ii (S,_,acc,rs) I I ⟨p,X.symm,by dsimp only;rw[n];exact a1⟩<|zb9 _
   | some c =>
    rw[hf] at Y K n;have n:(pre++[x]).filterMap (fun id=>(pickT B L R id).join)=(pre.filterMap fun id=>(pickT B L R id).join)++[c]:=n;have i1:c.id=x:=(aC hf).2;have K:an S c ⟨ri,rd,⟨V,W,rc⟩⟩:=K;have i2:x=ri:=(K.1.trans i1).symm;subst i2;have d7:gS (rs.map au) x (.agg #[vi x,vi rd,.slice V W rc])=(rs++[(⟨x,rd,⟨V,W,rc⟩⟩:Rc)]).map au:=by
     have Q:=lc ⟨x,rd,⟨V,W,rc⟩⟩ rs;rw[ku h9] at Q;exact Q
    refine uu<|hX<|cu<|Ia (qL (v:=.map<|some m3) eE I<|ao.known F I) dC<|ka (aS I) dC<|iF<|dr<|hX<|uu<|hX<|cu<|Ia (qL (v:=.map<|some m3) eE I<|ao.known F I) dC<|Ia (qL (v:=.map<|some m4) eE I<|ao.known j I) dC<|ka (mV I) dC<|Ib (bt call55 I<|bB E S _ _ _ L R x O N fL) dC ?_;rintro _ _ _ ⟨rfl,rfl,rfl⟩;rw[Q];refine ka (mV I) dC<|Jd (gZ I I I dC) dC<|Jd (gZ I I I dC) dC<|Jd (gZ I I I dC) dC<|Jd (gZ I I I dC) dC<|ka (wT I I) dC<|ka (aS I) dC<|iF<|dr<|IF I<|Ip<|wc<|dr<|hX<|cu<|ka (mV I) dC<|ka (mV I) dC<|Ia (SQ.eq (v':=.tuple #[.agg #[vi x,vi rd,.slice V W rc],vb true]) (qn mty57 I I<|bo.known d5)<|by rw[d6,Y];rfl) dC ?_;refine ka (mV I) dC<|ka (xT I I) dC<|ka (xT I I) dC<|Ib (aL zl6) dC ?_;rintro _ _ _ ⟨i0,rfl,rfl,rfl⟩;refine ID (sK 0 ar I I I I I sB) ?_;rintro _ _ _ ⟨rfl,rfl⟩;refine ka (aS I) dC<|iF<|dr<|hX<|cu<|ka (mV I) dC<|iF<|dr<|IF I<|cu<|Ia (qL (v:=.map<|some ms) eE I<|ao.known t I) dC<|ka (mV I) dC<|Ia (SQ.eq (v':=.agg #[vi x,vi rd,.slice V W rc]) (qV 0 dT ar I I I) I) dC<|ID (tn 3 mty57 I I I I) ?_;rintro _ _ _ ⟨rfl,rfl⟩;rw[d7];exact iF<|wc<|IY (.cons _<|.refl _)<|Ii (S,_,acc,rs++[⟨x,rd,⟨V,W,rc⟩⟩]) I I ⟨p,X.symm,by dsimp only;rw[n];exact a1.append ⟨K,trivial⟩⟩<|zb9 _
  ·rcases Bool.eq_false_or_eq_true (eZ R B x) with h2 | h2
   ·have d9:=Fz (B:=B) (L:=L) (R:=R) (x:=x) (by rw[Q,h2];rfl);obtain ⟨ri,rd,V,W,rc,d4,d5,d6,Y,K⟩:=look O;rw[d9] at X n;rw[show (Option.isNone (some<|ah L x):Bool)=false from rfl,zg1 dC,zc7] at X;cases hf:ah L x with
    | none =>
     rw[hf] at Y K n;have n:(pre++[x]).filterMap (fun id=>(pickT B L R id).join)=pre.filterMap fun id=>(pickT B L R id).join:=by rw[n];exact zc7 _
     refine uu<|hX<|cu<|Ia (qL (v:=.map<|some m3) eE I<|ao.known F I) dC<|ka (aS I) dC<|iF<|dr<|hX<|uu<|hX<|cu<|Ia (qL (v:=.map<|some m3) eE I<|ao.known F I) dC<|Ia (qL (v:=.map<|some m4) eE I<|ao.known j I) dC<|ka (mV I) dC<|Ib (bt call55 I<|bB E S _ _ _ L R x O N fL) dC ?_;rintro _ _ _ ⟨rfl,rfl,rfl⟩;rw[Q];refine ka (mV I) dC<|Jx (gT I I I dC) (qL (v:=.map<|some m4) eE I<|ao.known j I) dC<|Jx (gT I I I dC) (qL (v:=.map<|some m2) eE I<|ao.known J I) dC<|JK (gT I I I dC) (mV I) dC<|XL.go (gT I I I dC) (bt call55 I<|bB E S _ _ _ R B x N a0 fR) dC ?_;rintro _ _ _ ⟨rfl,rfl,rfl⟩;rw[h2];refine ka (wF I I) dC<|ka (aS I) dC<|iF<|dr<|IF I<|Ip<|wc<|dr<|hX<|cu<|ka (mV I) dC<|ka (mV I) dC<|Ia (SQ.eq (v':=.tuple #[.agg #[vi ri,vi rd,.slice V W rc],vb false]) (qn mty57 I I<|bo.known d5)<|by rw[d6,Y];rfl) dC ?_;refine ka (mV I) dC<|ka (xT I I) dC<|ka (xT I I) dC<|Ib (aL zl6) dC ?_;rintro _ _ _ ⟨i0,rfl,rfl,rfl⟩;refine ID (sK 0 ar I I I I I sB) ?_;rintro _ _ _ ⟨rfl,rfl⟩;exact ka (aS I) dC<|iF<|dr<|hX<|cu<|ka (mV I) dC<|iF<|dr<|Iy I<|Ip<|wc<|IY (.cons _<|.refl _)<|Ii (S,_,acc,rs) I I ⟨p,X.symm,by dsimp only;rw[n];exact a1⟩<|zb9 _
    | some c =>
     rw[hf] at Y K n;have n:(pre++[x]).filterMap (fun id=>(pickT B L R id).join)=(pre.filterMap fun id=>(pickT B L R id).join)++[c]:=n;have i1:c.id=x:=(aC hf).2;have K:an S c ⟨ri,rd,⟨V,W,rc⟩⟩:=K;have i2:x=ri:=(K.1.trans i1).symm;subst i2;have d7:gS (rs.map au) x (.agg #[vi x,vi rd,.slice V W rc])=(rs++[(⟨x,rd,⟨V,W,rc⟩⟩:Rc)]).map au:=by
      have Q:=lc ⟨x,rd,⟨V,W,rc⟩⟩ rs;rw[ku h9] at Q;exact Q
     refine uu<|hX<|cu<|Ia (qL (v:=.map<|some m3) eE I<|ao.known F I) dC<|ka (aS I) dC<|iF<|dr<|hX<|uu<|hX<|cu<|Ia (qL (v:=.map<|some m3) eE I<|ao.known F I) dC<|Ia (qL (v:=.map<|some m4) eE I<|ao.known j I) dC<|ka (mV I) dC<|Ib (bt call55 I<|bB E S _ _ _ L R x O N fL) dC ?_;rintro _ _ _ ⟨rfl,rfl,rfl⟩;rw[Q];refine ka (mV I) dC<|Jx (gT I I I dC) (qL (v:=.map<|some m4) eE I<|ao.known j I) dC<|Jx (gT I I I dC) (qL (v:=.map<|some m2) eE I<|ao.known J I) dC<|JK (gT I I I dC) (mV I) dC<|XL.go (gT I I I dC) (bt call55 I<|bB E S _ _ _ R B x N a0 fR) dC ?_;rintro _ _ _ ⟨rfl,rfl,rfl⟩;rw[h2];refine ka (wF I I) dC<|ka (aS I) dC<|iF<|dr<|IF I<|Ip<|wc<|dr<|hX<|cu<|ka (mV I) dC<|ka (mV I) dC<|Ia (SQ.eq (v':=.tuple #[.agg #[vi x,vi rd,.slice V W rc],vb true]) (qn mty57 I I<|bo.known d5)<|by rw[d6,Y];rfl) dC ?_;refine ka (mV I) dC<|ka (xT I I) dC<|ka (xT I I) dC<|Ib (aL zl6) dC ?_;rintro _ _ _ ⟨i0,rfl,rfl,rfl⟩;refine ID (sK 0 ar I I I I I sB) ?_;rintro _ _ _ ⟨rfl,rfl⟩;refine ka (aS I) dC<|iF<|dr<|hX<|cu<|ka (mV I) dC<|iF<|dr<|IF I<|cu<|Ia (qL (v:=.map<|some ms) eE I<|ao.known t I) dC<|ka (mV I) dC<|Ia (SQ.eq (v':=.agg #[vi x,vi rd,.slice V W rc]) (qV 0 dT ar I I I) I) dC<|ID (tn 3 mty57 I I I I) ?_;rintro _ _ _ ⟨rfl,rfl⟩;rw[d7];exact iF<|wc<|IY (.cons _<|.refl _)<|Ii (S,_,acc,rs++[⟨x,rd,⟨V,W,rc⟩⟩]) I I ⟨p,X.symm,by dsimp only;rw[n];exact a1.append ⟨K,trivial⟩⟩<|zb9 _
   ·rcases Bool.eq_false_or_eq_true (eZ L B x) with h3 | h3
    ·have d9:=Hk Q h2 h3;obtain ⟨ri,rd,V,W,rc,d4,d5,d6,Y,K⟩:=look N;rw[d9] at X n;rw[show (Option.isNone (some<|ah R x):Bool)=false from rfl,zg1 dC,zc7] at X;cases hf:ah R x with
     | none =>
      rw[hf] at Y K n;have n:(pre++[x]).filterMap (fun id=>(pickT B L R id).join)=pre.filterMap fun id=>(pickT B L R id).join:=by rw[n];exact zc7 _
      refine uu<|hX<|cu<|Ia (qL (v:=.map<|some m3) eE I<|ao.known F I) dC<|ka (aS I) dC<|iF<|dr<|hX<|uu<|hX<|cu<|Ia (qL (v:=.map<|some m3) eE I<|ao.known F I) dC<|Ia (qL (v:=.map<|some m4) eE I<|ao.known j I) dC<|ka (mV I) dC<|Ib (bt call55 I<|bB E S _ _ _ L R x O N fL) dC ?_;rintro _ _ _ ⟨rfl,rfl,rfl⟩;rw[Q];refine ka (mV I) dC<|Jx (gT I I I dC) (qL (v:=.map<|some m4) eE I<|ao.known j I) dC<|Jx (gT I I I dC) (qL (v:=.map<|some m2) eE I<|ao.known J I) dC<|JK (gT I I I dC) (mV I) dC<|XL.go (gT I I I dC) (bt call55 I<|bB E S _ _ _ R B x N a0 fR) dC ?_;rintro _ _ _ ⟨rfl,rfl,rfl⟩;rw[h2];refine ka (wF I I) dC<|ka (aS I) dC<|iF<|dr<|Iy I<|hX<|cu<|Ia (qL (v:=.map<|some m3) eE I<|ao.known F I) dC<|Ia (qL (v:=.map<|some m2) eE I<|ao.known J I) dC<|ka (mV I) dC<|Ib (bt call55 I<|bB E S _ _ _ L B x O a0 fL) dC ?_;rintro _ _ _ ⟨rfl,rfl,rfl⟩;rw[h3];refine ka (aS I) dC<|iF<|dr<|IF I<|cu<|Ia (qL (v:=.map<|some m4) eE I<|ao.known j I) dC<|ka (aS I) dC<|iF<|wc<|dr<|hX<|cu<|ka (mV I) dC<|ka (mV I) dC<|Ia (SQ.eq (v':=.tuple #[.agg #[vi ri,vi rd,.slice V W rc],vb false]) (qn mty57 I I<|bo.known d5)<|by rw[d6,Y];rfl) dC ?_;refine ka (mV I) dC<|ka (xT I I) dC<|ka (xT I I) dC<|Ib (aL zl6) dC ?_;rintro _ _ _ ⟨i0,rfl,rfl,rfl⟩;refine ID (sK 0 ar I I I I I sB) ?_;rintro _ _ _ ⟨rfl,rfl⟩;exact ka (aS I) dC<|iF<|dr<|hX<|cu<|ka (mV I) dC<|iF<|dr<|Iy I<|Ip<|wc<|IY (.cons _<|.refl _)<|Ii (S,_,acc,rs) I I ⟨p,X.symm,by dsimp only;rw[n];exact a1⟩<|zb9 _
     | some c =>
      rw[hf] at Y K n;have n:(pre++[x]).filterMap (fun id=>(pickT B L R id).join)=(pre.filterMap fun id=>(pickT B L R id).join)++[c]:=n;have i1:c.id=x:=(aC hf).2;have K:an S c ⟨ri,rd,⟨V,W,rc⟩⟩:=K;have i2:x=ri:=(K.1.trans i1).symm;subst i2;have d7:gS (rs.map au) x (.agg #[vi x,vi rd,.slice V W rc])=(rs++[(⟨x,rd,⟨V,W,rc⟩⟩:Rc)]).map au:=by
       have Q:=lc ⟨x,rd,⟨V,W,rc⟩⟩ rs;rw[ku h9] at Q;exact Q
      refine uu<|hX<|cu<|Ia (qL (v:=.map<|some m3) eE I<|ao.known F I) dC<|ka (aS I) dC<|iF<|dr<|hX<|uu<|hX<|cu<|Ia (qL (v:=.map<|some m3) eE I<|ao.known F I) dC<|Ia (qL (v:=.map<|some m4) eE I<|ao.known j I) dC<|ka (mV I) dC<|Ib (bt call55 I<|bB E S _ _ _ L R x O N fL) dC ?_;rintro _ _ _ ⟨rfl,rfl,rfl⟩;rw[Q];refine ka (mV I) dC<|Jx (gT I I I dC) (qL (v:=.map<|some m4) eE I<|ao.known j I) dC<|Jx (gT I I I dC) (qL (v:=.map<|some m2) eE I<|ao.known J I) dC<|JK (gT I I I dC) (mV I) dC<|XL.go (gT I I I dC) (bt call55 I<|bB E S _ _ _ R B x N a0 fR) dC ?_;rintro _ _ _ ⟨rfl,rfl,rfl⟩;rw[h2];refine ka (wF I I) dC<|ka (aS I) dC<|iF<|dr<|Iy I<|hX<|cu<|Ia (qL (v:=.map<|some m3) eE I<|ao.known F I) dC<|Ia (qL (v:=.map<|some m2) eE I<|ao.known J I) dC<|ka (mV I) dC<|Ib (bt call55 I<|bB E S _ _ _ L B x O a0 fL) dC ?_;rintro _ _ _ ⟨rfl,rfl,rfl⟩;rw[h3];refine ka (aS I) dC<|iF<|dr<|IF I<|cu<|Ia (qL (v:=.map<|some m4) eE I<|ao.known j I) dC<|ka (aS I) dC<|iF<|wc<|dr<|hX<|cu<|ka (mV I) dC<|ka (mV I) dC<|Ia (SQ.eq (v':=.tuple #[.agg #[vi x,vi rd,.slice V W rc],vb true]) (qn mty57 I I<|bo.known d5)<|by rw[d6,Y];rfl) dC ?_;refine ka (mV I) dC<|ka (xT I I) dC<|ka (xT I I) dC<|Ib (aL zl6) dC ?_;rintro _ _ _ ⟨i0,rfl,rfl,rfl⟩;refine ID (sK 0 ar I I I I I sB) ?_;rintro _ _ _ ⟨rfl,rfl⟩;refine ka (aS I) dC<|iF<|dr<|hX<|cu<|ka (mV I) dC<|iF<|dr<|IF I<|cu<|Ia (qL (v:=.map<|some ms) eE I<|ao.known t I) dC<|ka (mV I) dC<|Ia (SQ.eq (v':=.agg #[vi x,vi rd,.slice V W rc]) (qV 0 dT ar I I I) I) dC<|ID (tn 3 mty57 I I I I) ?_;rintro _ _ _ ⟨rfl,rfl⟩;rw[d7];exact iF<|wc<|IY (.cons _<|.refl _)<|Ii (S,_,acc,rs++[⟨x,rd,⟨V,W,rc⟩⟩]) I I ⟨p,X.symm,by dsimp only;rw[n];exact a1.append ⟨K,trivial⟩⟩<|zb9 _
    ·have d9:=Gx Q h2 h3;rw[d9] at X n;have n:(pre++[x]).filterMap (fun id=>(pickT B L R id).join)=pre.filterMap fun id=>(pickT B L R id).join:=by rw[n];exact zc7 _
     refine uu<|hX<|cu<|Ia (qL (v:=.map<|some m3) eE I<|ao.known F I) dC<|ka (aS I) dC<|iF<|dr<|hX<|uu<|hX<|cu<|Ia (qL (v:=.map<|some m3) eE I<|ao.known F I) dC<|Ia (qL (v:=.map<|some m4) eE I<|ao.known j I) dC<|ka (mV I) dC<|Ib (bt call55 I<|bB E S _ _ _ L R x O N fL) dC ?_;rintro _ _ _ ⟨rfl,rfl,rfl⟩;rw[Q];refine ka (mV I) dC<|Jx (gT I I I dC) (qL (v:=.map<|some m4) eE I<|ao.known j I) dC<|Jx (gT I I I dC) (qL (v:=.map<|some m2) eE I<|ao.known J I) dC<|JK (gT I I I dC) (mV I) dC<|XL.go (gT I I I dC) (bt call55 I<|bB E S _ _ _ R B x N a0 fR) dC ?_;rintro _ _ _ ⟨rfl,rfl,rfl⟩;rw[h2];refine ka (wF I I) dC<|ka (aS I) dC<|iF<|dr<|Iy I<|hX<|cu<|Ia (qL (v:=.map<|some m3) eE I<|ao.known F I) dC<|Ia (qL (v:=.map<|some m2) eE I<|ao.known J I) dC<|ka (mV I) dC<|Ib (bt call55 I<|bB E S _ _ _ L B x O a0 fL) dC ?_;rintro _ _ _ ⟨rfl,rfl,rfl⟩;rw[h3];refine ka (aS I) dC<|iF<|dr<|Iy I<|hX<|cu<|Ia (qL (v:=.slice p0 acc.length c0) iE I<|cO 1 I I) dC<|ka (mV I) dC<|Ib (bS sty43 I I I (ab ⟨I,trivial⟩) dC) dC ?_;rintro _ _ _ ⟨t4,rfl,rfl,rfl⟩;refine Ib (aP (e:=encInt) (l:=acc) 0 x sty43 I I I I I oM oM) dC ?_;rintro ov' _ _ ⟨rfl,rfl⟩;refine Jh fun ⟨w0,d0⟩=>?_;obtain ⟨q1,d1,rfl⟩:=ag (e:=encInt) (l:=acc++[x]) (i:=0) d0 rfl;clear d0 w0;refine ID (sK 1 gy I I I I I sB) ?_;rintro _ _ _ ⟨rfl,rfl⟩;exact iF<|dr<|JE<|XT.blockO dC<|IP<|Jn<|Ii (S,_,acc++[x],rs) I I ⟨p,X.symm,by dsimp only;rw[n];exact a1⟩<|zb9 _
 ·rintro D ⟨S,ov,acc,rs⟩ ⟨p,c3,a1⟩;dsimp only at p c3 a1 ⊢;have i3:acc=ix B L R:=c3;have hS:ay (an S) (iY B L R) rs:=a1;clear c3 a1;subst i3;have J:=p _ _ J;have t:=p _ _ t;have j0:=n8.trans p;refine Jy fun ⟨w0,d0⟩=>?_;obtain ⟨p0,c0,rfl⟩:=ag (e:=encInt) (l:=ix B L R) (i:=1) d0 rfl;clear d0 w0;refine wc<|dr<|hX<|hX<|cu<|Ia (qL (v:=.slice p0 (ix B L R).length c0) iE I<|cO 2 I I) dC<|ka (eN aA I) dC<|ka (gR I I) dC<|iF<|dr<|XC.ifP I (fun i3=>?_) (fun i3=>?_)
  ·have j1:ix B L R≠[]:=fun e=>by rw[e] at i3;simp at i3
   have P:iM B L R=([],ix B L R):=by unfold iM;rw[zg2 j1]
   refine XC.cut (ι:=Unit) (fun _=>[(6,pp b6 0),(7,.slice p0 (ix B L R).length c0)]) (fun _=>S) (fun _=>pt D (.deferred<|some [])::rowA encInt 3 (.slice p0 (ix B L R).length c0) (ix B L R)::pt d8 (bY #[.slice p0 (ix B L R).length c0] 43)::mp ms (rs.map au)::pt b6 (bY #[.slice none 0 0] 29)::s) (fun _=>True) ?_ ?_
   ·refine XC.drawX [2] ze4 kR kR ?_;refine iO (i:=0) I kR (za3 I buildZm29) dC (zd8 1 2 kR ?_ ?_)
    ·refine SB.o (i:=1) I (IE<|qL (v:=.slice p0 (ix B L R).length c0) iE I<|cO 2 I I) dC (.inr iR) ?_;rintro _ _ _ ⟨rfl,rfl,rfl⟩;refine zd7 2 kR ?_
     ·refine SB.on (i:=2) I (sK 4 ae I I I I I sB) (.inl dC) ?_;rintro _ _ _ ⟨rfl,rfl⟩;refine iO (i:=3) I kR (aS I) dC ?_;refine H5 kR<|Jc ?_;exact Js () sB I I trivial
    ·refine SB.on (i:=2) I (sK 4 ae I I I I I sB) (.inl dC) ?_;rintro _ _ _ ⟨rfl,rfl⟩;refine zd7 1 kR ?_
     ·refine SB.ob (i:=1) I (IE<|qL (v:=.slice p0 (ix B L R).length c0) iE I<|cO 2 I I) dC kR ?_;rintro _ _ _ ⟨rfl,rfl,rfl⟩;refine iO (i:=3) I kR (aS I) dC ?_;refine H5 kR<|Jc ?_;exact Js () sB I I trivial
   rintro _ -;refine Jg<|XT.thenR<|JB<|II (.inl I)<|fT fun gC c4 r5=>?_;exact I8 2 s (.inl I) results15 I I aj ae I I uR ⟨I,j0.trans c4,_,_,I,by rw[P];exact ai.nil gC,by rw[P];exact r5⟩
  ·have o1:ix B L R=[]:=zf5 oM;have l3:=B4 (B:=B) rL rR;have r6:=fun c hc=>Ge (B:=B) (c:=c) rL rR hc;have j2:=zB B L R;have s2:=Gc B L R;have o2:∀ c∈iY B L R,bh c.id:=fun c hc=>by
    rcases oc hc with h | h
    ·exact n5 L dO c h
    ·exact n5 R dO c h
   have r7:=fun Q h2=>Hh (B:=B) rL rR Q h2 oM;generalize p1:iY B L R=SS at *;have p7:=hS.length;refine Ip<|dr<|hX<|Jw (g':=S) (s':=mp ms (rs.map au)::pt D (.deferred<|some [])::pt b6 (bY #[.slice none 0 0] 29)::s) (fun w hw=>(hw.sublist (s':=pt D (.deferred<|some [])::mp ms (rs.map au)::pt b6 (bY #[.slice none 0 0] 29)::s)<|.cons_cons _<|.cons _<|.cons _<|.refl _).perm<|zk2 _ _ _)<|XC.freezeMap fun gC c4 p9=>?_;have p2:mB gC (.map<|some ms) SS:=⟨ms,rs,rfl,p9,hS.mono fun _ _ h=>an.mono c4 h⟩;have J:=c4 _ _ J;have t:=c4 _ _ t;refine cu<|ka (Ih I) dC<|ka (aS I) dC<|iF<|dr<|hX<|hX<|cu<|ka (mV I) dC<|Ib (DO I I<|cQ.mk (cap:=[pp c9 0]) call56<|G3 E hE gC _ c9 _ 57 #[] SS (kO SS) t p2 j2 o2 oM (Hp E gC _ SS p2 fun c hc=>⟨(l3 c hc).1,(l3 c hc).2.1⟩)) dC ?_;rintro _ gD _ ⟨rfl,e2,q0⟩;obtain ⟨q1,d1,rfl⟩:=za4 q0;refine ka (aS I) dC<|iF<|dr<|hX<|cu<|ka (mV I) dC<|ka (eN aA I) dC<|ka (gR I I) dC<|iF<|dr ?_;have l0:=j0.trans<|c4.trans e2;refine XC.ifP I (fun p3=>?_) (fun p3=>?_)
   ·have j1:dL (kO SS) SS≠[]:=fun e=>by rw[e] at p3;simp at p3
    have P:iM B L R=([],dL (kO SS) SS):=by unfold iM;rw[p1,zg1<|by simp[o1],zg2 j1]
    refine hX<|cu<|ka (za3 I buildZm29) dC<|ka (mV I) dC<|ID (sK 1 ae I I I I I sB) ?_;rintro _ _ _ ⟨rfl,rfl⟩;exact ka (aS I) dC<|iF<|dr<|Jg<|XT.thenR<|JB<|II (.inl I)<|I8 0 s (.inl I) results15 I I aj ae I I uR ⟨I,l0,_,_,I,by rw[P];exact ai.nil gD,by rw[P];exact q0⟩
   ·have l1:dL (kO SS) SS=[]:=zf5 oM;have p4:=p2.mono e2;have t:=e2 _ _ t;refine Ip<|dr<|hX<|hX<|cu<|ka (mV I) dC<|Ib (DO I I<|cQ.mk (cap:=[pp c9 0]) call56<|G3 E hE gD _ c9 _ 58 #[] SS (lJ SS) t p4 j2 o2 oM (HP E gD _ SS p4 fun c hc=>⟨r6 c hc,(l3 c hc).2.2.2.2,(l3 c hc).2.2.2.1⟩)) dC ?_;rintro _ gE _ ⟨rfl,e4,q4⟩;obtain ⟨q2,d2,rfl⟩:=za4 q4;refine ka (aS I) dC<|iF<|dr<|hX<|cu<|ka (mV I) dC<|ka (eN aA I) dC<|ka (gR I I) dC<|iF<|dr ?_;have l2:=l0.trans e4;refine XC.ifP I (fun p5=>?_) (fun p5=>?_)
    ·have j1:dL (lJ SS) SS≠[]:=fun e=>by rw[e] at p5;simp at p5
     have P:iM B L R=([],dL (lJ SS) SS):=by unfold iM;rw[p1,zg1<|by simp[o1],zg1<|by simp[l1],zg2 j1]
     refine hX<|cu<|ka (za3 I buildZm29) dC<|ka (mV I) dC<|ID (sK 1 ae I I I I I sB) ?_;rintro _ _ _ ⟨rfl,rfl⟩;exact ka (aS I) dC<|iF<|dr<|Jg<|XT.thenR<|JB<|II (.inl I)<|I8 0 s (.inl I) results15 I I aj ae I I uR ⟨I,l2,_,_,I,by rw[P];exact ai.nil gE,by rw[P];exact q4⟩
    ·have n3:dL (lJ SS) SS=[]:=zf5 oM;have n4:=r7 l1 n3;have P:iM B L R=(SS,[]):=by unfold iM;rw[p1,zg1<|by simp[o1],zg1<|by simp[l1],zg1<|by simp[n3],zg1 oM]
     have r8:=p4.mono e4;have r9:=p9.mono<|e2.trans e4;have t:=e4 _ _ t;have t5:(rs.map au).length=SS.length:=by rw[ze7];exact p7.symm
     refine Ip<|dr<|hX<|hX<|cu<|Ia (qL (v:=.map<|some ms) eE I<|ao.known t I) dC<|Ia (SQ.lenMap underlying57 I<|bo.known r9) dC<|ka (SU.eq (v':=vb false) (gR I I)<|ze3 vb<|zf8 oM) dC<|iF<|dr<|Iy I<|Ip<|dr<|hX<|cu<|Ia (qL (v:=.map<|some ms) eE I<|ao.known t I) dC<|Ib (bt call61 I<|uV E hE gE _ _ SS r8 j2 o2 oM) dC ?_;rintro _ gF _ ⟨rfl,q5,uF,rfl,hF⟩;refine Ib (bt call24 I<|fm E gF _ uF SS hF n4.fits) dC ?_;rintro _ gG _ ⟨rfl,q6,uG,rfl,hG⟩;rw[n4.canon] at hG;obtain ⟨q3,d3,rfl⟩:=hG.form;refine ID (sK 1 ae I I I I I sB) ?_;rintro _ _ _ ⟨rfl,rfl⟩;exact ka (aS I) dC<|iF<|dr<|Jg<|JB<|II (.inl I)<|I8 0 s (.inl I) results15 I I aj ae I I uR ⟨I,l2.trans<|q5.trans q6,_,_,I,by rw[P];exact hG,by rw[P];exact zc1 gG 1⟩
open Go Go.Sy Go.Pl Go.Proofs Go.Shelf Go.Sort
set_option maxHeartbeats 4000000
variable (E:World)(g:PH)(s:Own)
theorem DW (v:Value)(l:List Cl)(T:ai g v l)(Q:aM l) :
  Ctr Tryz.prog E 24 #[.agg #[v]] g s fun r g' s'=>Le g g'∧∃ v ds,r = .agg #[v]∧s'=rowA encCell 61 v ds::s∧ay (an g') (aa l) ds:=by
 obtain ⟨rs,C,u⟩:=T;have R:=u.length;have U:=Q.1;have z:=ay.sortBy (f:=Cl.id) (h:=Rc.id) (fun a b h=>h.1.symm) u;obtain ⟨p,c,rfl⟩:=za4 C;refine zb2 (args:=[.agg #[.slice p rs.length c]]) func24 I ntmps24 (bE I)<|rZ (bW (bO I) fun V=>?_);refine bW (aL zl9) fun S=>tZ<|rZ<|lU (bj dw I cg I)<|lK (qL ei I<|cO 1 I I)<|lW (bt call77 I<|Ck E g _ _ 78 #[] Rc.id (G0 E g) rs C oM) ?_;rintro r3 _ _ ⟨rfl,rfl⟩;refine zd4 fun ⟨W,A⟩=>?_;obtain ⟨q,d,rfl⟩:=ag (i:=0) A rfl;have K:0<(sortBy Rc.id rs).length→based (.slice q (sortBy Rc.id rs).length d)=true:=fun h=>(by obtain ⟨b0,c0,X⟩:=bI (i:=0) A rfl h;rw[X];rfl);clear A W;refine aT I<|sQ<|sW I<|lU (eN aB I)<|lM I<|tZ<|bK ?_;have Y:(sortBy Rc.id rs).length=rs.length:=dF rs;refine oP (ι:=PH×List Rc×List Rc×List Cl×List Cl) (fun i=>[(2,pp S 0),(3,.slice q (sortBy Rc.id rs).length d),(9,vi (sortBy Rc.id rs).length),(10,vi i.2.1.length)]) (fun i=>i.1)
  (fun i=>rowA encCell 61 (.slice q (sortBy Rc.id rs).length d) (i.2.1++i.2.2.1)::pt S (bY #[.slice none 0 0] 29)::pt V (bY #[.slice p rs.length c] 29)::s)
  (fun i=>Le g i.1∧ay (eJ<|mns i.1 g) i.2.2.2.1 i.2.1∧ay (an g) i.2.2.2.2 i.2.2.1∧aa l=i.2.2.2.1++i.2.2.2.2.map cH∧(i.2.1.length+i.2.2.1.length=(sortBy Rc.id rs).length∧∀ x∈i.2.2.2.2,x∈l)) (fun i=>i.2.2.1.length)
  (g,[],sortBy Rc.id rs,[],sortBy Cl.id l) sB rfl rfl ⟨zb9 g,trivial,z,by simp[aa],by simp,fun x Z=>(er l x).1 Z⟩ ?_
 rintro ⟨g1,ds,rest,dl,rl⟩ ⟨j,hd,hr,k,e,m⟩;dsimp only at j hd hr k e m ⊢;have a0:=hr.length;refine rZ<|yL I<|tZ<|sQ<|iP I (fun L=>?_) (fun L=>?_)
 ·cases rest with
  | nil=>simp at e;omega
  | cons x rest =>
  obtain ⟨n,M,D,B,N⟩:=hr.cons_right;subst D;have O:n.sides.length<1099511627776:=Q.2 n<|m n dO;simp only[ze9] at e;have F:(ds++x::rest)[((ds.length:Nat):Int).toNat]?=some x:=bV oM;have t:based (.slice q (sortBy Rc.id rs).length d)=true:=K oM;refine kP<|tN<|sQ<|bK<|sW I<|aT I<|rG<|lM I<|lM I<|lM I<|lM I<|lU (iA aB ar I I t oM sL)<|lU (fC ap I aI I t)<|lK (aZ (o:=2) bg I (zb7 0 I) F I)<|lW (bt call79 I<|Cj E g1 _ _ 80 #[] ak.cell (Cy E g1) n.sides (B.2.2.mono j) O) ?_;rintro r20 _ _ ⟨rfl,rfl⟩;refine SL.freezeRowK fun g2 w G=>?_;obtain ⟨H,d2,rfl⟩:=G.form;refine lU (iA aB ar I I t oM sL)<|lU (fC ap I aI I t)<|oZ (JF (o:=2) 0 ⟨x.id,x.dim,H,_,d2⟩ aI I I I F I I dC I)<|cp<|bN<|tN<|rG<|yD I<|lM I<|cp ?_;exact ct (g2,ds++[⟨x.id,x.dim,H,(sortBy ak.cell n.sides).length,d2⟩],rest,dl++[cH n],M) ⟨I,I,I,bP lN,trivial⟩ I (by
    dsimp only;rw[show (ds++x::rest).set ((ds.length:Nat):Int).toNat ⟨x.id,x.dim,H,(sortBy ak.cell n.sides).length,d2⟩=ds++[⟨x.id,x.dim,H,(sortBy ak.cell n.sides).length,d2⟩]++rest by rw[ee oM];simp];rfl) ⟨j.trans w,(hd.mono fun _ _=>eJ.mono<|iL w).append ⟨(by exact⟨B.1,B.2.1,G.mono<|kx j⟩:eJ (mns g2 g) (cH n) ⟨x.id,x.dim,H,(sortBy ak.cell n.sides).length,d2⟩),trivial⟩,N,by rw[k];simp,lN,fun y hy=>m y<|by simp[hy]⟩ lN
 ·have P:rest=[]:=zf5 oM;subst P;have J:rl=[]:=hr.nil_right;subst J;refine xI<|tX<|tX<|bX<|tN<|sW I<|lU (za3 I<|build29 _ I)<|oZ (sK 1 ae I I I I I sB)<|tZ<|rE<|kn 1 (rowA encCell 61 (.slice q (sortBy Rc.id rs).length d) (ds++[])::s) (.inl I) results24 I aj ae I I (.cons_cons _<|.cons _<|.cons _<|.refl _) ⟨j,_,_,I,I,?_⟩;rw[k,zc7];simpa using hd.mono fun _ _ h=>h.cr<|fN _ _
def Tryz.sortCl_ren:Ren :=
 {
  f:=fun x =>
   match x with
   | 6=>26
   | 15=>82
   | 14=>81
   | 28=>141
   | 29=>142
   | 20=>133
   | 21=>134
   | 22=>135
   | 23=>136
   | 24=>137
   | 25=>138
   | 26=>139
   | 27=>140
   | 46=>187
   | 47=>188
   | 48=>189
   | 49=>190
   | 50=>191
   | 57=>212
   | n=>n,
  t:=fun x =>
   match x with
   | 22=>27
   | 24=>61
   | 25=>66
   | 3=>3
   | 39=>126
   | 0=>0
   | 53=>177
   | 55=>179
   | 4=>4
   | 46=>171
   | 45=>170
   | 50=>97
   | 5=>5
   | 9=>9
   | 66=>216
   | 70=>220
   | 76=>233
   | 77=>234
   | n=>n,
  g:=fun x =>
   have n:=x;
   n }
theorem Tryz.sortCl:SlLaysF0.n6 Tryz.prog Tryz.sortCl_ren :=
  {
  mixed:=Eq.refl true,
  f6 :=
   Exists.intro "slices.SortFunc[[]cocycle/api.Cell,cocycle/api.Cell]"
    ⟨zg4<|id<|Eq.refl true,
     zb8 func26
      (ze3 some
       kR)⟩,
  f14 :=
   Exists.intro "slices.pdqsortCmpFunc[cocycle/api.Cell]"
    ⟨zg4<|id<|Eq.refl true,
     zb8 func81
      (ze3 some
       kR)⟩,
  f15:=zb8 func82<|ze3 some kR,
  f20 :=
   Exists.intro "slices.insertionSortCmpFunc[cocycle/api.Cell]"
    ⟨zg4<|id<|Eq.refl true,
     zb8 func133
      (ze3 some
       kR)⟩,
  f21 :=
   Exists.intro "slices.heapSortCmpFunc[cocycle/api.Cell]"
    ⟨zg4<|id<|Eq.refl true,
     zb8 func134
      (ze3 some
       kR)⟩,
  f22 :=
   Exists.intro "slices.breakPatternsCmpFunc[cocycle/api.Cell]"
    ⟨zg4<|id<|Eq.refl true,
     zb8 func135
      (ze3 some
       kR)⟩,
  f23 :=
   Exists.intro "slices.choosePivotCmpFunc[cocycle/api.Cell]"
    ⟨zg4<|id<|Eq.refl true,
     zb8 func136
      (ze3 some
       kR)⟩,
  f24 :=
   Exists.intro "slices.reverseRangeCmpFunc[cocycle/api.Cell]"
    ⟨zg4<|id<|Eq.refl true,
     zb8 func137
      (ze3 some
       kR)⟩,
  f25 :=
   Exists.intro "slices.partialInsertionSortCmpFunc[cocycle/api.Cell]"
    ⟨zg4<|id<|Eq.refl true,
     zb8 func138
      (ze3 some
       kR)⟩,
  f26 :=
   Exists.intro "slices.partitionEqualCmpFunc[cocycle/api.Cell]"
    ⟨zg4<|id<|Eq.refl true,
     zb8 func139
      (ze3 some
       kR)⟩,
  f27 :=
   Exists.intro "slices.partitionCmpFunc[cocycle/api.Cell]"
    ⟨zg4<|id<|Eq.refl true,
     zb8 func140
      (ze3 some
       kR)⟩,
  f28:=zb8 func141<|ze3 some kR,
  f29:=zb8 func142<|ze3 some kR,
  f46 :=
   Exists.intro "slices.siftDownCmpFunc[cocycle/api.Cell]"
    ⟨zg4<|id<|Eq.refl true,
     zb8 func187
      (ze3 some
       kR)⟩,
  f47:=zb8 func188<|ze3 some kR,
  f48:=zb8 func189<|ze3 some kR,
  f49 :=
   Exists.intro "slices.medianAdjacentCmpFunc[cocycle/api.Cell]"
    ⟨zg4<|id<|Eq.refl true,
     zb8 func190
      (ze3 some
       kR)⟩,
  f50 :=
   Exists.intro "slices.medianCmpFunc[cocycle/api.Cell]"
    ⟨zg4<|id<|Eq.refl true,
     zb8 func191
      (ze3 some
       kR)⟩,
  f57 :=
   Exists.intro "slices.order2CmpFunc[cocycle/api.Cell]"
    ⟨zg4<|id<|Eq.refl true,
     zb8 func212
      (ze3 some
       kR)⟩,
  t0:=uT0,a0:=isAgg0,z0:=sizeOf0,v0:=zm3,t3:=uT3,
  a3:=iT3,z3:=zT3,v3:=zl7,t4:=uT4,a4:=isAgg4,
  z4:=zT4,v4:=zm2,t5:=uT5,a5:=isAgg5,z5:=sizeOf5,
  v5:=zeroValue5,t9:=uT9,a9:=isAgg9,z9:=sizeOf9,v9:=zeroValue9,
  t22:=aB,a22:=ei,z22:=cg,v22:=zeroValue27,
  t25:=underlying66,a25:=isAgg66,z25:=sizeOf66,v25:=zeroValue66,
  t39:=j7,a39:=isAgg126,z39:=sizeOf126,v39:=zeroValue126,
  t45:=underlying170,a45:=isAgg170,z45:=sizeOf170,v45:=zeroValue170,
  t46:=underlying171,a46:=isAgg171,z46:=sizeOf171,v46:=zeroValue171,
  t50:=underlying97,a50:=isAgg97,z50:=sizeOf97,v50:=zeroValue97,
  t53:=underlying177,a53:=isAgg177,z53:=sizeOf177,v53:=zeroValue177,
  t55:=nK,a55:=isAgg179,z55:=sizeOf179,v55:=zeroValue179,
  t66:=underlying216,a66:=isAgg216,z66:=sizeOf216,v66:=zeroValue216,
  t70:=underlying220,a70:=isAgg220,z70:=sizeOf220,v70:=zeroValue220,
  t76:=underlying233,a76:=isAgg233,z76:=sizeOf233,v76:=zeroValue233,
  t77:=underlying234,a77:=isAgg234,z77:=sizeOf234,v77:=zeroValue234 }
instance inhRc:Inhabited Rc:=⟨⟨0,0,⟨none,0,0⟩⟩⟩
def FT (x y:Rc):Int:=orI [iI x.dim y.dim,iI x.id y.id]
theorem mo (x y:Rc):FT x y<0↔x.dim<y.dim∨(x.dim=y.dim∧x.id<y.id):=by
 unfold FT orI orI orI iI;split <;> split <;> (try split)<;>(try split)<;>simp_all <;> omega
theorem swoD:SWO<|ltOf FT:=⟨fun x=>by simp[ltOf,mo],fun x y z a b=>by simp[ltOf,mo] at *;omega,fun x y z a b=>by simp[ltOf,mo] at *;omega⟩
theorem EJ {l:List Rc}(h:l.Pairwise fun a b=>a.id<b.id){x y:Rc}(c:x∈l)(g:y∈l)(d:x.id=y.id):x=y:=by
 induction l with
 | nil=>cases c
 | cons a l ih =>
  rw[zk4] at h
  rcases zf2.1 c with e1 | e <;> rcases zf2.1 g with e2 | f
  ·rw[e1,e2]
  ·have:=h.1 y f;rw[e1] at d;omega
  ·have:=h.1 x e;rw[e2] at d;omega
  ·exact ih h.2 e f
theorem AO {l l':List Rc}(hp:l'.Perm l)(k:l'.Pairwise fun x y=>¬ FT y x<0)(d:l.Pairwise fun a b=>a.id<b.id):l'=sortBy Rc.dim l:=by
 refine bl (k.imp fun h=>by rw[mo] at h;omega) ⟨hp.length_eq,fun c=>?_⟩;refine (hp.filter _).eq_of_pairwise (le:=fun x y=>x.dim=y.dim→¬ y.id<x.id) (fun x y m n o p=>?_) ?_ ?_
 ·obtain ⟨f,g⟩:=zh5.1 m;obtain ⟨i,j⟩:=zh5.1 n;have e1:x.dim=c:=by simpa using g
  have e2:y.dim=c:=by simpa using j
  have q:=o oM;have r:=p oM;exact EJ d (hp.subset f) i oM
 ·exact (k.filter _).imp fun h e=>by rw[mo] at h;omega
 ·exact (d.filter _).imp fun h _=>by omega
theorem Fh:HM Tryz.prog 27 encCell.enc FT:=by
 intro E g s x y;obtain ⟨a,b,⟨e,f,i⟩⟩:=x;obtain ⟨c,d,⟨j,k,yc⟩⟩:=y;refine zb2 (args:=[.agg #[vi a,vi b,.slice e f i],.agg #[vi c,vi d,.slice j k yc]]) func27 I ntmps27 (bE I)<|rZ (bW (bO I) fun m=>?_);refine bW (bO I) fun n=>aT I<|sQ<|dW [] [(0,2),(1,1),(2,2),(3,1),(5,2),(6,1),(7,2),(8,1),(4,0),(9,0),(10,0),(11,0),(12,2)] ze4 kR<|pU I (bj ap I zT3 I)<|gB I (qL (v:=vi b) iT3 I<|cO 1 I I)<|pU I (bj ap I zT3 I)<|gB I (qL (v:=vi d) iT3 I<|cO 0 I I)<|pU I (bj ap I zT3 I)<|gB I (qL (v:=vi a) iT3 I<|cO 1 I I)<|pU I (bj ap I zT3 I)<|gB I (qL (v:=vi c) iT3 I<|cO 0 I I)<|mf I (bt call30 I<|dV E g _ b d) dC (.inr iR) ?_;rintro _ _ _ ⟨rfl,rfl,rfl⟩;refine mf I (bt call30 I<|dV E g _ a c) dC (.inr iR) ?_;rintro _ _ _ ⟨rfl,rfl,rfl⟩;refine mf I (bS sty43 I I I (ab sB) dC) dC (.inr iR) ?_;rintro _ _ _ ⟨l,rfl,rfl,rfl⟩;refine mf I (bt call83 I<|Cs E g _ _ [iI b d,iI a c] (Rd.pt 0 I) ⟨_,_,I⟩ (fun _=>I) dO) dC (.inr iR) ?_;rintro _ _ _ ⟨rfl,rfl,rfl⟩;exact pU I (aS I)<|du<|tN<|rE<|dR (s':=s) uR<|za8 (.inl I) results27 I ⟨I,I,I⟩
theorem AR (v:Value)(l:List Rc)(i:Nat)(d:s[i]?=some (rowA encCell 61 v l))(hl:l.length<1099511627776)(c:l.Pairwise fun a b=>a.id<b.id) :
  Ctr Tryz.prog E 26 #[v,.func (.func 27) #[] #[]] g s (fun _ g' s'=>g=g'∧s'=s.set i (rowA encCell 61 v<|sortBy Rc.dim l)) :=
 (zH Tryz.sortCl encCell dT ar FT swoD 27 call27 Fh 61 E g s v l i d hl).mono fun _ _ _ ⟨e,l',f,j,k⟩=>⟨e,by rw[k,AO f j c]⟩
def F0 (E:World)(cv:Value)(pr:Rc→Bool)(g:PH):Prop:=∀ s x,cQ Tryz.prog E cv [.agg (encCell.enc x).toArray] g s (fun r g' s'=>r=vb (pr x)∧g=g'∧s=s')
theorem GH {r:Value}{l:List Rc}{pr:Rc→Bool}(h:(r=vi (-1)∧∀ x∈l,pr x=false)∨∃ (A:List Rc) (x:Rc) (R:List Rc),l=A++x::R∧r=vi A.length∧(∀ y∈A,pr y=false)∧pr x=true):∃ n:Int,r=vi n:=by
 rcases h with ⟨h,_⟩ | ⟨_,_,_,_,h,_⟩
 ·exact⟨_,h⟩
 ·exact⟨_,h⟩
theorem Bm (v n:Value)(l:List Rc)(pr:Rc→Bool)(d:F0 E n pr g)(hl:l.length<1099511627776) :
  Ctr Tryz.prog E 76 #[v,n] g (rowA encCell 61 v l::s) fun r g' s'=>g=g'∧s'=rowA encCell 61 v l::s∧((r=vi (-1)∧∀ x∈l,pr x=false)∨∃ A x R,l=A++x::R∧r=vi A.length∧(∀ y∈A,pr y=false)∧pr x=true):=by
 refine Ji fun ⟨B,e⟩=>?_;obtain ⟨p,c,rfl⟩:=ag (i:=0) e rfl;have m:=fun h=>te (i:=0) e rfl h;clear e B;refine zb2 (args:=[.slice p l.length c,n]) func76 I ntmps76 (bE I)<|rZ<|aT I<|sQ<|sW I<|lU (eN aB I)<|lM I<|tZ<|bK<|oP (ι:=Nat) (fun k=>[(0,.slice p l.length c),(1,n),(7,vi l.length),(8,vi k)]) (fun _=>g) (fun _=>rowA encCell 61 (.slice p l.length c) l::s) (fun k=>k≤l.length∧∀ y∈l.take k,pr y=false) (fun k=>l.length - k) 0
  sB rfl rfl ⟨zf7 _,by simp⟩ ?_
 rintro k ⟨C,a⟩;refine rZ<|yL I<|tZ<|sQ<|iP I (fun o=>?_) (fun o=>?_)
 ·have f:k<l.length:=oM;obtain ⟨b,cap,rfl,rfl,z⟩:=m oM;have q:l[((k:Nat):Int).toNat]?=some l[k]:=bd f;have t:l.take (k+1)=l.take k++[l[k]]:=tS f;have u:l=l.take k++l[k]::l.drop (k+1):=by rw[← zg7 f,zj3]
  generalize l[k]=x at *;refine kP<|tN<|sQ<|bK<|sW I<|aT I<|sW I<|lM I<|lM I<|lU (iA aB ar I I I oM sL)<|lK (iN dT ar I (zb7 0 I) q)<|lW (DO I I<|d _ x) ?_;rintro _ _ _ ⟨rfl,rfl,rfl⟩;refine tZ<|iQ I (fun hq=>?_) (fun hq=>?_)
  ·exact sW I<|aT I<|rE<|bR<|tR<|tR<|bR<|tR<|za8 (.inl I) results76 I ⟨I,I,.inr ⟨l.take k,x,l.drop<|k+1,u,by rw[ze5,Nat.min_eq_left C],a,hq⟩⟩
  ·refine kP<|bN<|tN<|rG<|yD I<|lM I<|cp ?_;exact ct (k+1) sB I I ⟨oM,fun y j=>by
    rw[t,zf4] at j
    rcases j with j | j
    ·exact a y j
    ·rw[zh8.1 j];simpa using hq⟩ oM
 ·refine xI<|tX<|tX<|bX<|tN<|rZ<|aT I<|rE ?_;have w:l.take k=l:=tL oM;rw[w] at a;exact za8 (.inl I) results76 I ⟨I,I,.inl ⟨I,a⟩⟩
theorem yV (v G:Value)(l:List Rc)(pr:Rc→Bool)(d:F0 E G pr g)(hl:l.length<1099511627776) :
  Ctr Tryz.prog E 23 #[v,G] g (rowA encCell 61 v l::s) fun r g' s'=>g=g'∧s'=rowA encCell 61 r (l.filter fun x=>!pr x)::s:=by
 refine Ji fun ⟨X,m⟩=>?_;obtain ⟨p,c,rfl⟩:=ag (i:=0) m rfl;have H:=fun h=>te (i:=0) m rfl h;clear m X;refine zb2 (args:=[.slice p l.length c,G]) func23 I ntmps23 (bE I)<|rZ<|aT I<|sW I<|lM I<|lW (bt call76 I<|Bm E g s _ G l pr d hl) ?_;rintro r10 _ _ ⟨rfl,rfl,e⟩;obtain ⟨n,rfl⟩:=GH e;refine aT I<|sQ<|sW I<|yE I<|tZ<|iP I (fun Y=>?_) (fun Y=>?_)
 ·rcases e with ⟨N,t⟩ | ⟨A,x,R,N,t,T,U⟩
  ·exact sW I<|aT I<|rE<|tR<|za8 (.inl I) results23 I ⟨I,by rw[List.filter_eq_self.2 fun x O=>by rw[t x O];rfl]⟩
  ·exact absurd (Value.int.inj t).2 oM
 ·rcases e with ⟨N,t⟩ | ⟨A,x,R,o,t,T,U⟩
  ·exact absurd (Value.int.inj N).2 oM
  obtain rfl:n=A.length:=(Value.int.inj t).2;have V:l.length=A.length+1+R.length:=by rw[o];simp;omega
  obtain ⟨b,cap,rfl,rfl,W⟩:=H oM;have Z:l.filter (fun x=>!pr x)=A++R.filter (fun x=>!pr x):=by
   rw[o,zh7,List.filter_cons_of_neg<|by rw[U];simp,List.filter_eq_self.2 fun x O=>by rw[T x O];rfl]
  refine kP<|tN<|sQ<|sW I<|yD I<|aT I<|bK<|oP (ι:=List Rc×List Rc×Rc×List Rc) (fun i=>[(0,.slice (some ⟨b,0,none⟩) l.length<|cap+1),(1,G),(5,vi i.1.length),(6,vi<|i.1.length+i.2.1.length+1)]) (fun _=>g)
   (fun i=>rowA encCell 61 (.slice (some ⟨b,0,none⟩) l.length<|cap+1) (i.1++(i.2.1++[i.2.2.1])++i.2.2.2)::s)
   (fun i=>l.filter (fun x=>!pr x)=i.1++i.2.2.2.filter (fun x=>!pr x)∧i.1.length+i.2.1.length+1+i.2.2.2.length=l.length) (fun i=>i.2.2.2.length)
   (A,[],x,R) sB rfl (by dsimp only;rw[o];simp) ⟨Z,by dsimp only;simp;omega⟩ ?_
  rintro ⟨D,J0,z,R'⟩ ⟨M,k⟩;dsimp only at M k ⊢;have a0:(D++(J0++[z])++R').length=l.length:=lN;refine sQ<|sW I<|lM I<|lU (eN aB I)<|yL I<|tZ<|iP I (fun P=>?_) (fun P=>?_)
  ·cases R' with
   | nil=>simp at k;omega
   | cons y R2 =>
   simp only[ze9] at k;have Q:(D++(J0++[z])++y::R2)[((D.length:Nat)+(J0.length:Nat)+1:Int).toNat]?=some y:=bV lN;obtain ⟨u,B,⟨C,F,yc⟩⟩:=y;refine kP (tN<|sQ<|bK<|sW I<|lM I<|lU (iA aB ar I I I oM sL)<|lK (iN dT ar I (zb7 0 I) Q)<|bW (aL zl6) fun b7=>?_);refine oZ (sK 0 ar I I I I I sB)<|tZ<|sW I<|lK (qV 0 dT ar I I I)<|lW (DO I I<|d _ ⟨u,B,⟨C,F,yc⟩⟩) ?_;rintro _ _ _ ⟨rfl,rfl,rfl⟩;refine lU (oF I)<|tZ<|iQ I (fun q=>?_) (fun q=>?_)
   ·have K:pr ⟨u,B,⟨C,F,yc⟩⟩=false:=by simpa using q
    refine sW I<|lM I<|lK (qV 0 dT ar I I I)<|lU (iA aB ar I I I oM sL)<|oZ (IM (a:=⟨u,B,⟨C,F,yc⟩⟩) 1 ar I I I lN I)<|tZ<|rG<|lM I<|yD I<|lA I<|cp<|bN<|tN<|rG<|lM I<|yD I<|lA I<|cp ?_;generalize (⟨u,B,⟨C,F,yc⟩⟩:Rc)=y at *;have f:∃ J',(D++(J0++[z])++y::R2).set ((D.length:Nat):Int).toNat y=(D++[y])++(J'++[y])++R2∧J'.length=J0.length:=by
     cases J0 with
     | nil=>exact⟨[],by rw[show D++([]++[z])++y::R2=D++z::y::R2 by simp,ee oM];simp,rfl⟩
     | cons j J1=>exact⟨J1++[z],by rw[show D++(j::J1++[z])++y::R2=D++j::(J1++[z]++y::R2) by simp,ee oM];simp,by simp⟩
    obtain ⟨J',f,a1⟩:=f;refine ST.to (fun w L=>?_) (g':=g) (s':=rowA encCell 61 (.slice (some ⟨b,0,none⟩) l.length<|cap+1) ((D++[y])++(J'++[y])++R2)::s) ?_
    ·rw[← f];exact L.sublist<|.cons _<|.refl _
    exact ct (D++[y],J',y,R2) ⟨I,I,bP lN,bP lN,trivial⟩ I I ⟨by rw[M];dsimp only;rw[List.filter_cons_of_pos<|by rw[K];rfl];simp,lN⟩ lN
   ·have S:pr ⟨u,B,⟨C,F,yc⟩⟩=true:=by simpa using q
    refine kP<|bN<|tN<|rG<|lM I<|yD I<|lA I<|cp ?_;generalize (⟨u,B,⟨C,F,yc⟩⟩:Rc)=y at *;refine ST.to (fun w L=>?_) (g':=g) (s':=rowA encCell 61 (.slice (some ⟨b,0,none⟩) l.length<|cap+1) (D++((J0++[z])++[y])++R2)::s) ?_
    ·rw[show D++((J0++[z])++[y])++R2=D++(J0++[z])++y::R2 by simp];exact L.sublist<|.cons _<|.refl _
    exact ct (D,J0++[z],y,R2) ⟨I,I,I,bP lN,trivial⟩ I I ⟨by rw[M];dsimp only;rw[List.filter_cons_of_neg<|by rw[S];simp],lN⟩ lN
  ·have hR:R'=[]:=zf5 oM;subst hR;simp only[zc5] at k;refine xI<|tX<|tX<|bX<|tN<|rZ<|SL.to (fun w L=>At.shrink (i:=0) (D:=D) (J:=J0++[z]) L (by rw[zc7];rfl) rfl) ?_;refine lM I<|lM I<|lU (SU.eq (v':=.slice (some ⟨b,D.length * 3,none⟩) (l.length - D.length)<|cap+1 - D.length) (Ik aB ar I I oM oM)<|by rw[Int.toNat_natCast,oK oM,Nat.zero_add])<|lO (SO.clearA (D:=D) 0 sty27 (m6 (l:=[vi 0,vi 0,.slice none 0 0]) sB) I I I oM) ?_;rintro _ _ _ ⟨rfl,rfl⟩;refine tZ<|sW I<|lM I<|lU (SU.eq (v':=.slice (some ⟨b,0,none⟩) D.length<|cap+1) (Il aB ar I I oM oM)<|by rw[Int.toNat_natCast];exact D8) ?_;refine aT I<|rE ?_;exact za8 (.inl I) results23 I ⟨I,by rw[M];simp⟩
theorem FI {g:PH}:∀ {A:List Cl} {rs:List Rc},ay (an g) A rs→rs.map Rc.id=A.map Cl.id
 | [],[],_=>rfl
 | [],_::_,h=>False.elim h
 | _::_,[],h=>False.elim h
 | a::A,r::rs,h=>by rw[zg5,zg5,h.1.1,FI h.2]
theorem Hs {g:PH}{A:List Cl}{rs:List Rc}(h:ay (an g) A rs)(d:A.Pairwise fun a b=>a.id<b.id):rs.Pairwise fun a b=>a.id<b.id:=by
 have c:(A.map Cl.id).Pairwise (· < ·):=zk5.2 d;rw[← FI h] at c;exact zk5.1 c
theorem vX {g:PH}(p:Int→Bool):∀ {A:List Cl} {rs:List Rc},ay (an g) A rs→ay (an g) (A.filter fun c=>p c.id) (rs.filter fun r=>p r.id)
 | [],[],_=>trivial
 | [],_::_,h=>False.elim h
 | _::_,[],h=>False.elim h
 | a::A,r::rs,h=>by
  have ih:=vX p h.2;rw[zi8,zi8,h.1.1];split
  ·exact⟨h.1,ih⟩
  ·exact ih
theorem HR (E:World)(g:PH)(b m:Nat)(rs:List Rc)(K:List Cl)(hb:g b=some (bY #[.map<|some m] 57))(hm:Mp g m<|rs.map au)(c:ay (an g) K rs):F0 E (.func (.func 25) #[] #[pp b 0]) (fun x=>(ah K x.id).isSome) g:=by
 intro s x;refine cQ.mk (args:=[_]) (cap:=[pp b 0]) call25 ?_;obtain ⟨a,i,⟨j,k,l⟩⟩:=x;obtain ⟨⟨n,o,p,q,yc⟩,d,e,-⟩:=dQ c iw a;have f:(eU (rs.map au) a).isSome=(ah K a).isSome:=e;refine zb2 (args:=[.agg #[vi a,vi i,.slice j k l],pp b 0]) func25 I ntmps25 (bE I)<|rZ (bW (bO I) fun r=>?_);refine aT I<|rZ<|lK (qL (v:=.map<|some m) eE I<|ao.known hb I)<|lU (bj ap I zT3 I)<|lK (qL (v:=vi a) iT3 I<|cO 0 I I)<|lK (SQ.eq (v':=.tuple #[.agg #[vi n,vi o,.slice p q yc],vb (ah K a).isSome]) (qn mty57 I I<|bo.known hm)<|by rw[d,f];rfl) ?_;refine lM I (yX I<|yX I<|bW (aL zl6) fun t=>?_);exact oZ (sK 0 ar I I I I I sB)<|aT I<|sW I<|aT I<|rE<|dR (s':=s) uR<|za8 (.inl I) results25 I ⟨I,I,I⟩
theorem Ak (b m:Nat)(rs:List Rc)(K:List Cl)(v:Value)(l:List Cl)(hb:g b=some (bY #[.map<|some m] 57))(hm:Mp g m<|rs.map au)(j:ay (an g) K rs)(o:ai g v l)(p:aM l)(k:(aa l).Pairwise fun a b=>a.id<b.id) :
  Ctr Tryz.prog E 22 #[.agg #[v],pp b 0] g s fun r g' s'=>Le g g'∧∃ ds,s'=rowA encCell 61 r ds::s∧ay (an g') (sortBy Cl.dim<|(aa l).filter fun c=>!(ah K c.id).isSome) ds:=by
 obtain ⟨q,d,rfl⟩:=o.form;refine zb2 (args:=[.agg #[.slice q l.length d],pp b 0]) func22 I ntmps22 (bE I)<|rZ (bW (bO I) fun y=>?_);refine aT I<|rZ<|lK (qV 0 aj ae I I I)<|lW (bt call24 I<|DW E g _ _ l o p) ?_;rintro _ g1 _ ⟨e,v1,ds,rfl,rfl,i⟩;have t:=i.length;have u:=(aF p).1;have n:=Hs i k;have w:=zc6 (fun x:Rc=>!(ah K x.id).isSome) ds;refine lU (IJ dw I ei I I)<|lU (Ih I)<|lW (bt call23 I<|yV E g1 _ v1 _ ds (fun x=>(ah K x.id).isSome) (HR E g1 b m rs K (e _ _ hb) (Mp.mono hm e)<|j.mono fun _ _=>an.mono e) oM) ?_;rintro r9 _ _ ⟨rfl,rfl⟩;refine aT I<|sW I<|lW (bt call26 I<|AR E g1 _ r9 _ 0 I oM<|n.filter _) ?_;rintro _ _ _ ⟨rfl,rfl⟩;exact tZ<|sW I<|aT I<|rE<|dR (s':=rowA encCell 61 r9 (sortBy Rc.dim<|ds.filter fun x=>!(ah K x.id).isSome)::s) (.cons_cons _<|.cons _<|.refl _)<|za8 (.inl I) results22 I ⟨e,_,I,ay.sortBy (f:=Cl.dim) (h:=Rc.dim) (fun a b h=>h.2.1.symm)<|vX (fun id=>!(ah K id).isSome) i⟩
theorem GN (E:World)(g:PH):nS E (.func (.func 29) #[] #[]) encCell (fun x:Rc=>-x.dim) g:=by
 intro g' s x y c;refine cQ.mk (args:=[_,_]) (cap:=[]) call29 ?_;obtain ⟨d,a,⟨e,f,i⟩⟩:=x;obtain ⟨j,b,⟨k,l,yc⟩⟩:=y;have m:iI (-a) (-b)=iI b a:=by unfold iI;split <;> split <;> (try split)<;>(try split)<;>omega
 dsimp only;rw[m];refine zb2 (args:=[.agg #[vi d,vi a,.slice e f i],.agg #[vi j,vi b,.slice k l yc]]) func29 I ntmps29 (bE I)<|rZ (bW (bO I) fun n=>?_);refine bW (bO I) fun o=>aT I<|rZ<|lU (bj ap I zT3 I)<|lK (qL (v:=vi b) iT3 I<|cO 0 I I)<|lU (bj ap I zT3 I)<|lK (qL (v:=vi a) iT3 I<|cO 1 I I)<|lW (bt call30 I<|dV E g' _ b a) ?_;rintro _ _ _ ⟨rfl,rfl,rfl⟩;exact aT I<|rE<|dR (s':=s) uR<|za8 (.inl I) results29 I ⟨I,I,I⟩
theorem wk {M:List Cl}(h:Rt l)(a:M.Sublist l):aa M=M:=by
 unfold aa;rw[(bl (key:=Cl.id) ((h.asc.sublist a).imp fun h=>by omega)<|aN.refl M).symm];have:∀ c∈M,cH c=c:=fun c hc=>by
  unfold cH;rw[(bl (key:=ak.cell) ((h.form c<|a.subset hc).asc.imp fun h=>by omega)<|aN.refl c.sides).symm]
 rw[zc9 this];simp
theorem CS (l:List Cl):sortBy (fun c:Cl=>-c.dim) (sortBy Cl.dim l)=sortBy (fun c:Cl=>-c.dim) l:=by
 have b:aN (fun c:Cl=>-c.dim) l<|sortBy Cl.dim l:=by
  refine⟨(cI (key:=Cl.dim) l).1,fun c=>?_⟩;have h:=(cI (key:=Cl.dim) l).2<|-c;have e:(fun a:Cl=>-a.dim == c)=fun a:Cl=>a.dim == -c:=funext fun a=>by rw[Bool.eq_iff_iff];simp;omega
  rw[e];exact h
 exact bl (c8 _)<|b.trans<|cI _
theorem np {α:Type}(key:α→Int)(l:List α):(sortBy key l).length=l.length:=(cI (key:=key) l).1
theorem iD (va a3:Value)(A B:List Cl)(ha:ai g va A)(hb:ai g a3 B)(fa:aM A)(fb:aM B)(ra:(aq A).2=0)(rb:(aq B).2=0) :
  Ctr Tryz.prog E 6 #[.agg #[va],.agg #[a3]] g s fun r g' s'=>s=s'∧Le g g'∧Eds g' r (eo (aa A)<|aa B):=by
 obtain ⟨pa,ca,rfl⟩:=ha.form;obtain ⟨pb,cb,rfl⟩:=hb.form;have rA:=i9 ra;have rB:=i9 rb;have tA:am A=aa A:=bH rA.asc;have tB:am B=aa B:=bH rB.asc;have J:=md (aa A)<|aa B;have a4:=wk rA J;have c4:aM<|fV (aa A)<|aa B:=⟨Nat.lt_of_le_of_lt J.length_le (aF fa).1,fun c hc=>(aF fa).2 c<|J.subset hc⟩;have c5:((aa<|fV (aa A)<|aa B).map Cl.id).Nodup:=by rw[a4];exact rA.ids.sublist<|J.map _
 have c6:eo (aa A) (aa B)=(sortBy (fun c:Cl=>-c.dim)<|sortBy Cl.dim<|(aa A).filter fun c=>!(ah (fV (aa A)<|aa B) c.id).isSome).map uq++(sortBy Cl.dim<|(aa B).filter fun c=>!(ah (fV (aa A)<|aa B) c.id).isSome).map uw:=by rw[CS];rfl
 have e2:=(aF fa).1;have e4:=(aF fb).1;rw[c6];have c7:(sortBy Cl.dim<|(aa A).filter fun c=>!(ah (fV (aa A)<|aa B) c.id).isSome).length≤4000:=by
  rw[np];exact zk8 (zc6 _ _) rA.few
 have e9:(sortBy Cl.dim<|(aa B).filter fun c=>!(ah (fV (aa A)<|aa B) c.id).isSome).length≤4000:=by
  rw[np];exact zk8 (zc6 _ _) rB.few
 refine zb2 (args:=[.agg #[.slice pa A.length ca],.agg #[.slice pb B.length cb]]) func6 I ntmps6 (bE I)<|rZ (bW (bO I) fun b2=>?_);refine bW (bO I) fun b3=>aT I<|sQ<|rZ<|lK (qV 1 aj ae I I I)<|lK (qV 0 aj ae I I I)<|lW (bS sty115 I I I (ab sB) dC) ?_;rintro _ _ _ ⟨c9,rfl,rfl,rfl⟩;refine zb5 fun g1 u a5=>?_;have M:SlA ec g1 (.slice (some ⟨c9,0,none⟩) 2 2) [⟨pa,A.length,ca⟩,⟨pb,B.length,cb⟩]:=kb a5 rfl rfl;have K:=ha.mono u;have L:=hb.mono u;refine lW (bt call20 I<|qx E g1 _ _ [A,B] _ M ⟨K,L,trivial⟩ (by intro l hl;simp at hl;rcases hl with rfl | rfl;exact fa;exact fb) dO (by intro l hl;simp at hl;rcases hl with rfl | rfl;exact ra;exact rb)) ?_;rintro _ _ _ ⟨rfl,rfl,rfl⟩;refine lU (SU.eq (v':=vb false) (oF I) I)<|tZ<|za1 I<|kP<|tN<|rZ<|lK (qV 1 aj ae I I I)<|lK (qV 0 aj ae I I I)<|lW (bt call8 I<|vE E g1 _ _ _ A B K L fa fb) ?_;rintro _ g2 _ ⟨rfl,w,uM,rfl,hM⟩;rw[tA,tB] at hM;refine lW (bt call21 I<|eR E g2 _ uM _ hM c4 c5) ?_;rintro r21 g3 _ ⟨rfl,y,hT⟩;rw[a4] at hT;obtain ⟨m,rs,rfl,hm,z⟩:=hT;refine bW (aL zl3) fun b5=>oZ (sK 0 xh I I I I I sB)<|tZ (sQ<|I2 fun g4 d U=>?_);refine rG<|lU (Ih I)<|aT I<|sW I<|lK (qV 1 aj ae I I I)<|lW (DO I I<|cQ.mk (cap:=[pp b5 0]) call22<|Ak E g4 _ b5 m rs _ _ A U (Mp.mono hm d) (z.mono fun _ _=>an.mono d) ((K.mono w).mono<|y.trans d) fa rA.asc) ?_;rintro v7 g5 _ ⟨p,ds,rfl,V⟩;have e1:=V.length;refine aT I<|sW I<|lW (bt call28 I<|qv E g5 _ v7 _ (fun x:Rc=>-x.dim) (GN E g5) ds oM) ?_;rintro _ _ _ ⟨rfl,rfl⟩;have a9:=ay.sortBy (f:=fun c:Cl=>-c.dim) (h:=fun x:Rc=>-x.dim) (fun a b h=>by have:=h.2.1;omega) V;rw[← np (fun c:Cl=>-c.dim)] at c7;refine tZ (sQ<|fS fun g6 n W=>?_);obtain ⟨q6,d6,rfl⟩:=zc3 W;refine zb6 48 7<|rG<|aT I<|sQ<|sW I<|lU (eN aB I)<|lM I<|tZ<|bK ?_;have N:=a9.mono fun _ _=>an.mono n;have C:=(z.mono fun _ _=>an.mono d).mono fun _ _=>an.mono<|p.trans n;have b0:=Mp.mono (Mp.mono hm d)<|p.trans n;have b1:=n _ _<|p _ _ U;have b4:=(((L.mono w).mono<|y.trans d).mono p).mono n;have X:=(u.trans<|w.trans<|y.trans d).trans<|p.trans n;have O:SlA encCell g6 (.slice q6 (sortBy (fun x:Rc=>-x.dim) ds).length d6)<|sortBy (fun x:Rc=>-x.dim) ds:=W;clear W a9 V hm z U K L M hM;generalize sortBy (fun x:Rc=>-x.dim) ds=es at *;generalize (sortBy (fun c:Cl=>-c.dim)<|sortBy Cl.dim<|(aa A).filter fun c=>!(ah (fV (aa A)<|aa B) c.id).isSome)=GL at *;have f7:=N.length;refine oP (ι:=Nat×Value×List Er) (fun i=>[(3,pp b3 0),(6,.func (.func 22) #[] #[pp b5 0]),(8,i.2.1),(28,.slice q6 es.length d6),(29,vi es.length),(30,vi i.1)]) (fun _=>g6) (fun i=>rowA fc 48 i.2.1 i.2.2::pt b3 (bY #[.slice pb B.length cb] 29)::pt b2 (bY #[.slice pa A.length ca] 29)::s) (fun i=>i.1≤es.length∧i.2.2.length=i.1∧ay (EdK g6) ((GL.take i.1).map uq) i.2.2) (fun i=>es.length - i.1) (0,.slice none 0 0,[]) sB I I ⟨zf7 _,I,trivial⟩ ?_;rintro ⟨j,ov,acc⟩ ⟨hj,d0,o⟩;dsimp only at hj d0 o ⊢;refine rZ<|yL I<|tZ<|sQ<|iP I (fun d1=>?_) (fun d1=>?_)
 ·have Y:j<es.length:=oM;have b6:j<GL.length:=oM;have d2:=za6 O oM;have d3:es[((j:Nat):Int).toNat]?=some es[j]:=bd Y;have d4:=N.get (bd b6)<|bd Y;have Z:GL.take (j+1)=GL.take j++[GL[j]]:=tS b6;generalize es[j]=x at *;generalize GL[j]=cx at *;obtain ⟨xi,xd,⟨xp,xn,xc⟩⟩:=x;obtain rfl:xi=cx.id:=d4.1;have hE:EdK g6 (uq cx) ⟨2,cx.id,0,0,0,⟨none,0,0⟩,⟨none,0,0⟩⟩:=⟨_,_,rfl,zc1 _ _,zc1 _ _⟩;refine kP (tN<|sQ<|bK<|rZ<|lU (iA aB ar I I d2 oM sL)<|lK (iN dT ar I (za7 O) d3)<|bW (aL zl6) fun f8=>?_);refine oZ (sK 0 ar I I I I I sB)<|tZ<|rG<|lM I<|lU (bj ap I zT3 I)<|lK (qL (v:=vi cx.id) iT3 I<|cO 0 I I)<|lU (za3 I<|xB48 _ _)<|lW (bS sty32 I I I (ab ⟨I,trivial⟩) dC) ?_;rintro _ _ _ ⟨h0,rfl,rfl,rfl⟩;refine lW (aP (e:=fc) (l:=acc) 1 ⟨2,cx.id,0,0,0,⟨none,0,0⟩,⟨none,0,0⟩⟩ sty32 I I I I I oM oM) ?_;rintro ov' _ _ ⟨rfl,rfl⟩;exact lA I<|cp<|bN<|tN<|rG<|yD I<|lM I<|cp<|dR (.cons _<|.refl _)<|ct (j+1,ov',acc++[⟨2,cx.id,0,0,0,⟨none,0,0⟩,⟨none,0,0⟩⟩]) sB I I ⟨by dsimp only;omega,by dsimp only;rw[ze6,ze8];omega,by dsimp only;rw[Z,zg6];exact o.append ⟨hE,trivial⟩⟩ (by dsimp only;omega)
 ·have Y:j=es.length:=oM;have Z:GL.take j=GL:=tL oM;rw[Z] at o;have b7:=o.length;rw[ze7] at b7;refine xI<|tX<|tX<|bX<|tN<|sQ<|sW I<|lK (qV 1 aj ae I I I)<|lW (DO I I<|cQ.mk (cap:=[pp b5 0]) call22<|Ak E g6 _ b5 m rs _ _ B b1 b0 C b4 fb rB.asc) ?_;rintro v43 g7 _ ⟨P,q,rfl,Q⟩;refine SL.freezeRowK fun g8 D F=>?_;have b8:=F.sl.mono<|fN _ _;obtain ⟨q8,d8,rfl⟩:=F.form;refine lU (eN aB I)<|lM I<|tZ<|bK ?_;have b9:=Q.mono fun _ _=>an.mono D;have a0:=o.mono fun _ _=>EdK.mono<|P.trans D;have a1:=X.trans<|P.trans D;clear F Q b4 C b0 o;generalize (sortBy Cl.dim<|(aa B).filter fun c=>!(ah (fV (aa A)<|aa B) c.id).isSome)=NL at *;have h1:=b9.length;refine oP (ι:=Nat×Value×List Er) (fun i=>[(8,i.2.1),(43,.slice q8 q.length d8),(44,vi q.length),(45,vi i.1)]) (fun _=>g8) (fun i=>rowA fc 48 i.2.1 i.2.2::pt b3 (bY #[.slice pb B.length cb] 29)::pt b2 (bY #[.slice pa A.length ca] 29)::s) (fun i=>i.1≤q.length∧i.2.2.length=GL.length+i.1∧ay (EdK g8) (GL.map uq++(NL.take i.1).map uw) i.2.2) (fun i=>q.length - i.1) (0,ov,acc) sB I I ⟨zf7 _,by dsimp only;omega,by simpa using a0⟩ ?_;rintro ⟨k,ow,a2⟩ ⟨hk,d5,t⟩;dsimp only at hk d5 t ⊢;refine rZ<|yL I<|tZ<|sQ (iP I (fun c0=>?_) fun c0=>?_)
  ·have R:k<q.length:=oM;have S:k<NL.length:=oM;have c1:=za6 b8 oM;have c2:q[((k:Nat):Int).toNat]?=some q[k]:=bd R;have G:=b9.get (bd S)<|bd R;have H:NL.take (k+1)=NL.take k++[NL[k]]:=tS S;generalize q[k]=x at *;generalize NL[k]=cx at *;obtain ⟨xi,xd,⟨xp,xn,xc⟩⟩:=x;obtain rfl:xi=cx.id:=G.1;obtain rfl:xd=cx.dim:=G.2.1;have d7:SlA encSide g8 (.slice xp xn xc) cx.sides:=G.2.2;have e0:EdK g8 (uw cx) ⟨1,cx.id,cx.dim,0,0,⟨xp,xn,xc⟩,⟨none,0,0⟩⟩:=⟨_,_,rfl,d7,zc1 _ _⟩;refine kP (tN<|sQ<|bK<|rZ<|lU (iA aB ar I I c1 oM sL)<|lK (iN dT ar I (za7 b8) c2)<|bW (aL zl6) fun h2=>?_);refine oZ (sK 0 ar I I I I I sB)<|tZ<|rG<|lM I<|lU (bj ap I zT3 I)<|lK (qL (v:=vi cx.id) iT3 I<|cO 0 I I)<|lU (bj ap I zT3 I)<|lK (qL (v:=vi cx.dim) iT3 I<|cO 0 I I)<|lU (bj ap I aI I)<|lK (qL (v:=.slice xp xn xc) bg I<|cO 0 I I)<|lU (za3 I<|xA48 _ _ _ _ _ _)<|lW (bS sty32 I I I (ab ⟨I,trivial⟩) dC) ?_;rintro _ _ _ ⟨h3,rfl,rfl,rfl⟩;refine lW (aP (e:=fc) (l:=a2) 1 ⟨1,cx.id,cx.dim,0,0,⟨xp,xn,xc⟩,⟨none,0,0⟩⟩ sty32 I I I I I oM oM) ?_;rintro ow' _ _ ⟨rfl,rfl⟩;exact lA I<|cp<|bN<|tN<|rG<|yD I<|lM I<|cp<|dR (.cons _<|.refl _)<|ct (k+1,ow',a2++[⟨1,cx.id,cx.dim,0,0,⟨xp,xn,xc⟩,⟨none,0,0⟩⟩]) sB I I ⟨by dsimp only;omega,by dsimp only;rw[ze6,ze8];omega,by dsimp only;rw[H,zg6,← zg9];exact t.append ⟨e0,trivial⟩⟩ (by dsimp only;omega)
  ·have H:NL.take k=NL:=tL oM;rw[H] at t;refine xI (tX<|tX<|bX<|tN<|sQ<|fS fun g9 T c3=>?_);obtain ⟨q9,d9,rfl⟩:=zc3 c3;exact rG<|lM I<|aT I<|rE<|dR (s':=s) uR<|za8 (.inl I) results6 I ⟨I,a1.trans T,a2,c3,t.mono fun _ _=>EdK.mono T⟩
def HW (ts:List Tm):Prop:=∀ t∈ts,bh t.1
structure Tame (ts:List Tm):Prop where
 part:∀ j r,(cf (ts.take j) r).natAbs≤1000000000
 coef:∀ t∈ts,t.2.natAbs≤1000000000
 len:ts.length<1000000
 fit:HW ts
theorem dv (a:Int)(u:Value)(r:List<|Int×Value)(k:Int):eU ((a,u)::r) k=if k=a then some u else eU r k:=by
 unfold eU;rw[fnd];split
 ·rfl
 ·exact mO k r 1
set_option maxHeartbeats 8000000
theorem ud {x:Cl}(a:x∈aa l):∃ y∈l,cH y=x:=by
 unfold aa at a;obtain ⟨y,b,rfl⟩:=zf3.1 a;exact⟨y,(eO (key:=Cl.id) l).mem_iff.1 b,I⟩
open Go.ChangeShapes Go.WideShapes Go.ChangeAt Go.RowKit
set_option maxRecDepth 100000
abbrev Ac:=Int×Int×Int×Int
def lT:Enc Ac 4:=⟨fun a=>[vi a.1,vi a.2.1,vi a.2.2.1,vi a.2.2.2],fun _=>rfl,fun _ u hu=>by simp at hu;rcases hu with rfl | rfl | rfl | rfl <;> rfl,by decide⟩
def A64 (a:Ac):Prop:=bh a.1∧bh a.2.1∧bh a.2.2.1∧bh a.2.2.2
theorem xL {n:Int}(h:(Lit.int .i64 n).wf=true):bh n:=by
 have a:IntKind.i64.min≤n∧n≤IntKind.i64.max:=by simpa [Lit.wf] using h
 unfold bh;simp[IntKind.min,IntKind.max,IntKind.bits,IntKind.signed] at a;omega
theorem Gs {W:World}{k:Nat}{a:Addr}{len cap:Nat}{xs:List Value}(hl:len≤cap)(q:xs.length=len * k)(hc:∀ i x,xs[i]?=some x→W.cell? (a.add i)=some x):Sl (ur W) k (.slice (some a) len cap) len xs:=by
 refine⟨some a,cap,I,⟨q,hl⟩,fun l=>?_⟩;obtain ⟨b,o,sp⟩:=a;have p:0<xs.length:=List.length_pos_iff.2 l;have m:=hc 0 xs[0]<|bd p;have n:sp=none:=by simpa [Addr.add] using World.cell?_spot m
 subst n;have d:∀ i,(⟨b,o,none⟩:Addr).add i=⟨b,o+i,none⟩:=fun i=>by unfold Addr.add;split <;> simp_all
 simp only[d] at hc;have c:∀ i x,xs[i]?=some x→∃ cs T e,W.heap[b]?=some (.cells cs T e)∧cs[o+i]?=some x:=fun i x r=>by
  have g:=hc i x r;unfold World.cell? at g;split at g
  ·rename_i cs T e s;exact⟨cs,T,e,s,by simpa using g⟩
  ·cases g
 obtain ⟨cs,T,e,hb,_⟩:=c 0 xs[0]<|bd p;refine⟨b,o,cs,T,e,I,hb,fun j x t=>?_⟩;obtain ⟨cs',T',u,f,v⟩:=c j x t;rw[hb] at f;cases f;exact v
theorem DQ {α:Type}{k:Nat}(e:Enc α k){l:List α}{j:Nat}{x:Value}(h:(l.flatMap e.enc)[j]?=some x):∃ i a,l[i]?=some a∧j=i * k+j % k∧j % k<k∧(e.enc a)[j % k]?=some x:=by
 have b:=(zf6.1 h).1;rw[e.length] at b;have c:=e.pos;have d:j / k<l.length:=by rw[Nat.div_lt_iff_lt_mul c];exact b
 have f:j % k<k:=Ja _ c;have g:j=j / k * k+j % k:=by rw[Nat.mul_comm];exact (Nat.div_add_mod j k).symm
 refine⟨j / k,l[j / k],bd d,g,f,?_⟩;have m:(e.enc l[j / k])[j % k]?=some ((e.enc l[j / k])[j % k]'(by rw[e.len];exact f)):=bd _;have n:=e.get (bd d) m;rw[← g,h] at n;rw[m,← n]
section
variable {H:Type}{enc:TypeId×Value→H}{W:World}{base:Nat}{spare:Nat→Bool}{hd:Bool}
theorem Tryz.cells113:Tryz.prog.cellsOf 113=4:=by kernel_rfl
theorem HB {fuel:Nat}{cs:List Value}{x:DataW H×List MemPlace}(h:DataW.trod enc Tryz.prog W base spare hd fuel 113 cs=some x):∃ a:Ac,cs=lT.enc a∧A64 a:=by
 obtain ⟨q,r,s,t,n,_,hl,e,f,g,i⟩:=Go.Joins.trod_struct4 ek h;rw[cells113] at hl
 match cs,hl with
 | [c0,c1,c2,c3],_ =>
  rw[cells3] at e f g i;obtain ⟨a,j,_,m⟩:=DataW.trod_int uT3 e;obtain ⟨b,k,_,o⟩:=DataW.trod_int uT3 f;obtain ⟨c,l,_,p⟩:=DataW.trod_int uT3 g;obtain ⟨d,e3,_,wd⟩:=DataW.trod_int uT3 i;simp at j k l e3;subst j k l e3;exact⟨(a,b,c,d),I,xL m,xL o,xL p,xL wd⟩
theorem D5 {fuel:Nat}{v:Value}{x:DataW H×List MemPlace}(h:DataW.trod enc Tryz.prog W base spare hd fuel 25 [v]=some x):∃ l:List Ac,SlA lT (ur W) v l∧∀ a∈l,A64 a:=by
 rcases Go.Deep.open_slice underlying25 h with ⟨c,_⟩ | ⟨a,len,cap,m,n,D,Pl,c,_,hl,_,o,_,A⟩
 ·simp at c;subst c;exact⟨[],zc1 _ _,by simp⟩
 ·simp at c;subst c;have B:len≤m:=by rw[o];split <;> omega
  obtain ⟨f,s⟩:=Go.Deep.choose_lt (α:=Ac) (n:=len) (p:=fun i y=>A64 y∧∀ j x,(lT.enc y)[j]?=some x→W.cell? (a.add<|i * 4+j)=some x) fun i d=>by
   obtain ⟨cs',g,t⟩:=A i oM;rw[cells113] at g;obtain ⟨y,rfl,e⟩:=HB t;obtain ⟨_,_,q⟩:=World.cells?_some g;refine⟨y,e,fun j x k=>?_⟩;have r:j<4:=by have:=(zf6.1 k).1;rwa [lT.len] at this
   rw[← Go.Deep.add_add,q j r,k]
  refine⟨(List.range len).map f,?_,fun z hz=>by
   obtain ⟨i,d,rfl⟩:=zf3.1 hz;exact (s i<|List.mem_range.1 d).1⟩
  show Sl (ur W) 4 _ ((List.range len).map f).length (((List.range len).map f).flatMap lT.enc);rw[ze7,zi5];refine Gs hl (by rw[lT.length,ze7,zi5]) fun j y k=>?_;obtain ⟨i,b,d,g,t,q⟩:=DQ lT k;rw[zi1] at d;cases hc:(List.range len)[i]? with
  | none=>rw[hc] at d;cases d
  | some z =>
   rw[hc] at d;cases d;obtain ⟨u,w⟩:=zf6.1 hc;simp at u w;subst w;rw[g];exact (s i u).2 _ _ q
theorem s9 {v:Value}{d:DataW H}{p:List MemPlace}(h:DataW.Trod enc Tryz.prog W base spare hd 25 v d p)(c:v.cells = #[v]):∃ l:List Ac,SlA lT (ur W) v l∧∀ a∈l,A64 a:=by
 obtain ⟨f,b⟩:=h;rw[c] at b;exact D5 b
end
theorem Aq {e:Ed}(h:(dP l e).1=0)(hl:∀ c∈l,bh c.id)(m:e.kind=1→bh e.cell)(n:e.kind=3→bh e.new∧bh e.other):∀ c∈(dP l e).2,bh c.id:=by
 obtain ⟨r,hc,f,o⟩:=tr h;have hA:=i9 hc;have a:∀ c∈aa l,bh c.id:=fun c hc=>by
  obtain ⟨d,hd,e⟩:=ud hc;rw[← e];exact hl d hd
 rw[o];intro c g;obtain ⟨d,hd,rfl⟩:=ud g;show bh d.id;have i:=sY f;unfold cq at hd
 rcases i with k | k | k | k | k
 ·rw[zg2 k] at hd
  rcases zf4.1 hd with hd | hd
  ·exact a d hd
  ·simp at hd;rw[hd];exact m k
 ·rw[zg1 oM,zg2 k] at hd;exact a d (tG.1 hd).1
 ·rw[zg1 oM,zg1 oM,zg2 k] at hd;unfold bC at f;rw[zg1 oM,zg1 oM,zg2 k] at f;obtain ⟨s,_,_,_,_,b⟩:=qq hA f;rw[b] at hd;obtain ⟨p,q⟩:=n k
  rcases zf4.1 hd with hd | hd
  ·simp at hd
   rcases hd with rfl | rfl
   ·exact p
   ·exact q
  ·obtain ⟨x,j,rfl⟩:=zf3.1 hd;rw[Hi];exact a x j
 ·rw[zg1 oM,zg1 oM,zg1 oM,zg2 k] at hd;unfold eP at hd;obtain ⟨x,j,rfl⟩:=zf3.1 hd;exact a x (tG.1 j).1
 ·rw[zg1 oM,zg1 oM,zg1 oM,zg1 oM] at hd;exact a d (tG.1 hd).1
end Go.Proofs.YtpmoadbbfobbcaaGreatDoor
namespace Go.Sy
open Go
section
variable {P:Program}{N:Nat}{E:World}{f:Fr}{g:PH}{s:Own}{fn:Func}{R:Value→PH→Own→Prop}{e:Exit}
theorem ST.retC3 {T U:TypeId}{t u q m b k:Nat}{cs:Array Value}{A:Nat×Nat}{x y z:Value}(i:Nat)(s':Own)(B:e = .ret∨e = .normal)(hr:fn.results = #[.cell t T,.tmp u,.tmp q,.tmp m])(C:aU f t=some (pp b 0))(D:aU f u=some x)(hq:aU f q=some y)(hm:aU f m=some z)
  (F:∀ w,(isAgg T).run P w = .ok true w) (G:∀ w,(sizeOf T).run P w = .ok k w)
  (H:s[i]?=some (pt b<|.cells cs U A)) (hc:cs.size=k) (d:s'.Sublist s) (J:R (.tuple #[.agg cs,x,y,z]) g s'):ST N E (bodyPost P fn<|nI E R) e f g s :=
 fun a w c j=>by
  have K:=cw (P:=P) j F (by rw[hc];exact G) H;have l:=c.at_ t _ C;have n:=c.at_ u _ D;have o:=c.at_ q _ hq;have p:=c.at_ m _ hm;simp only[Array.getD_eq_getD_getElem?] at l n o p;have r:(results fn a.tmps).run P w = .ok (.tuple #[.agg cs,x,y,z]) w:=by simp[results,hr,asAddr,pp,l,K,n,o,p]
  have v:nI E R (.returned<|.tuple #[.agg cs,x,y,z]) w:=⟨_,g,s',rfl,j.sublist d,J⟩
  rcases B with rfl | rfl
  ·exact⟨c.defers,_,r,v⟩
  ·exact⟨c.defers,_,r,v⟩
end
def IV:=@ST.retC3
end Go.Sy
