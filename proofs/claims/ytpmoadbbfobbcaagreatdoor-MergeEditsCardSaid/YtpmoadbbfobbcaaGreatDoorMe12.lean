/- 12 -/
import Derived.Test.YtpmoadbbfobbcaaGreatDoorMe11
import Derived.Scope
import Derived.Shelf.SlSortCmp.NoneTotal
set_option linter.unusedSimpArgs false
set_option linter.unusedVariables false
set_option linter.defProp false
namespace Go.Sy
open Go
variable {i d:Nat}{op:Op}{ty:TypeId}{pos:String}{af:Array Edge}
section
variable {P:Program}{N:Nat}{E:World}{ops:Array Oper}{Q:Exit→Act→World→Prop}{g0:PH}{s0:Own}{tail:List Nat}{f:Fr}{g:PH}{s s':Own}{L:Array Bool}{n:Nat}
theorem SX.gq [q:Quiet Q]{i d:Nat}{op:Op}{ty:TypeId}{pos:String}{af:Array Edge}{gd:Option<|Nat×Bool}{v:Value}(m:ops[i]?=some ⟨some d,op,ty,pos,af,gd⟩)(b:xH ops tail L i=true)(hg:Gd N ops f ⟨some d,op,ty,pos,af,gd⟩ true)
  (hq:SQ P N E ⟨some d,op,ty,pos,af,gd⟩ f g0 s0 v) (hd:d<N)
  (h:SX P N E ops Q g0 s0 tail (L.setIfInBounds i true) n ((d,v)::f) g s):SX P N E ops Q g0 s0 tail L (n+1) f g s:=by
 intro a w o e j r hb;simp only[xH,zj4,Bool.not_eq_true'] at b;obtain ⟨⟨⟨⟨p,t⟩,u⟩,x⟩,k⟩:=b;refine kF m (Region.noSelect_spec o) (fun c a w y=>q.out c _ _ w (dq a d v) y) (by simpa using x) (i6 u) _ L a w e (Region.free_spec m t) (by simpa using p)
  (.inl ⟨hg a j,fun w' l=>hq a w' j l⟩) k (hb k) ?_
 exact h _ w o (cz e<|by simpa using p) (j.put hd v) r fun _=>hb k
theorem SX.gu [q:Quiet Q]{i d:Nat}{op:Op}{ty:TypeId}{pos:String}{af:Array Edge}{gd:Option<|Nat×Bool}{v:Value}(m:ops[i]?=some ⟨some d,op,ty,pos,af,gd⟩)(b:rh ops tail L i=true)(hg:Gd N ops f ⟨some d,op,ty,pos,af,gd⟩ true)
  (hq:SU P N ⟨some d,op,ty,pos,af,gd⟩ f v) (hd:d<N)
  (h:SX P N E ops Q g0 s0 tail (L.setIfInBounds i true) n ((d,v)::f) g s):SX P N E ops Q g0 s0 tail L (n+1) f g s:=by
 intro a w o j k r hb;simp only[rh,zj4,Bool.not_eq_true'] at b;obtain ⟨⟨p,t⟩,u⟩:=b;have e:i ∉ tail:=by simpa using u
 refine iz m (Region.noSelect_spec o) (fun c a w x=>q.out c _ _ w (dq a d v) x) e _ L a w (Region.free_spec m t) (by simpa using p)
  (.inl ⟨hg a k,fun w'=>hq a w' k⟩) hb ?_
 exact h _ w o (cz j<|by simpa using p) (k.put hd v) r (fun l=>hb<|by rwa [eI e] at l)
theorem SX.off [q:Quiet Q]{i d:Nat}{op:Op}{ty:TypeId}{pos:String}{af:Array Edge}{gd:Option<|Nat×Bool}(l:ops[i]?=some ⟨some d,op,ty,pos,af,gd⟩)(b:rh ops tail L i=true)(hg:Gd N ops f ⟨some d,op,ty,pos,af,gd⟩ false)(hd:d<N)
  (h:SX P N E ops Q g0 s0 tail (L.setIfInBounds i true) n ((d,undef)::f) g s):SX P N E ops Q g0 s0 tail L (n+1) f g s:=by
 intro a w m j o r hb;simp only[rh,zj4,Bool.not_eq_true'] at b;obtain ⟨⟨p,t⟩,u⟩:=b;have e:i ∉ tail:=by simpa using u
 refine iz l (Region.noSelect_spec m) (fun c a w v=>q.out c _ _ w (dq a d undef) v) e _ L a w (Region.free_spec l t) (by simpa using p)
  (.inr ⟨hg a o,rfl⟩) hb ?_
 exact h _ w m (cz j<|by simpa using p) (o.put hd undef) r (fun k=>hb<|by rwa [eI e] at k)
theorem SB.go {gd:Option<|Nat×Bool}{K:Value→PH→Own→Prop}(a:ops[i]?=some ⟨some d,op,ty,pos,af,gd⟩)(hg:Gd N ops f ⟨some d,op,ty,pos,af,gd⟩ true)
  (b:SO P N E ⟨some d,op,ty,pos,af,gd⟩ f g s K) (hd:d<N) (c:i∈tail∨∀ v g' s',K v g' s'→Le g0 g'∧s0.Sublist s')
  (h:∀ v g' s',K v g' s'→SX P N E ops Q g0 s0 tail (L.setIfInBounds i true) n ((d,v)::f) g' s'):SB P N E ops Q g0 s0 tail L n i f g s :=
 SB.step a hg b c fun v g' s' _ e j=>⟨_,j.put hd v,h v g' s' e⟩
theorem SB.offo {gd:Option<|Nat×Bool}(l:ops[i]?=some ⟨some d,op,ty,pos,af,gd⟩)
  (hg:Gd N ops f ⟨some d,op,ty,pos,af,gd⟩ false) (hd:d<N) (e:Le g0 g∧s0.Sublist s)
  (h:SX P N E ops Q g0 s0 tail (L.setIfInBounds i true) n ((d,undef)::f) g s):SB P N E ops Q g0 s0 tail L n i f g s:=by
 intro a w m c hr j k hb;unfold wpOp;simp only[l];rw[zg1<|by rw[hg a j];simp];have b:fW tail (L.setIfInBounds i true)=false→At E g0 s0 w:=fun _=>(k.less e.1).sublist e.2;exact⟨b,h _ w m (cz c hr) (j.put hd undef) k b⟩
theorem SB.ob {K:Value→PH→Own→Prop}(m:ops[i]?=some ⟨some d,op,ty,pos,af,none⟩)
  (o:SO P N E ⟨some d,op,ty,pos,af,none⟩ f g s K) (hd:d<N) (c:fW tail (L.setIfInBounds i true)=true)
  (h:∀ v g' s',K v g' s'→SX P N E ops Q g0 s0 tail (L.setIfInBounds i true) n ((d,v)::f) g' s'):SB P N E ops Q g0 s0 tail L n i f g s:=by
 intro a w p e hr j q hb;unfold wpOp;simp only[m];rw[zg2<|IX rfl a j];refine .inl (o a w j q Q _ fun v g' s' w' r k=>?_);have b:fW tail (L.setIfInBounds i true)=false→At E g0 s0 w':=fun l=>by rw[c] at l;cases l
 exact⟨b,h v g' s' r _ w' p (cz e hr) (j.put hd v) k b⟩
end
def JH:=@SX.off
end Go.Sy
namespace Go.Proofs.YtpmoadbbfobbcaaGreatDoor
open _root_.Go.Proofs.Tryz _root_.Go.Proofs.YtpmoadbbfobbcaaGreatDoor.Tryz
open Go Go.Sy Go.Pl Go.Proofs
set_option maxRecDepth 100000
set_option maxHeartbeats 4000000
def vd (fn:Nat)(e:Ed)(A:List Cl)(code:Int)(D:List Cl)(ims:List<|Int×List Tm)(bk:Bool):Prop:=∀ (E:World) (g:PH) (s:Own) (v ev:Value),ai g v A→EdR g ev e →
 Ctr Tryz.prog E fn #[.agg #[v],ev] g s (fun r g' s'=>s=s'∧Le g g'∧FV code D ims bk r g')
def fM (code:Int)(D:List Cl)(ims:List<|Int×List Tm)(bk:Bool)(r:Value)(g':PH):Prop:=∃ u p n c b,r = .tuple #[.agg #[u],.agg #[.slice p n c,vb b],vi code]∧ai g' u D∧(code=0→b=bk∧Ims g' (.slice p n c) ims)∧(code≠0→b=false∧Ims g' (.slice p n c) [])
theorem Ims.nil (g:PH):Ims g (.slice none 0 0) []:=⟨[],zc1 g _,trivial⟩
theorem xf (l:List Cl):aq (aa l)=aq l:=by
 have a:am (aa l)=am l:=by unfold am;rw[ge]
 unfold aq;rw[a,ge,ax]
variable (E:World)(g:PH)(s:Own)
theorem wP (v ev:Value)(l:List Cl)(e:Ed)(d:List<|Int×List Tm)(bk:Bool)(j:ai g v l)(k:aM l)(m:EdR g ev e)(a:(aq l).2≠0) :
  Ctr Tryz.prog E 71 #[.agg #[v],ev] g s fun r g' s'=>s=s'∧Le g g'∧fM 1 [] d bk r g':=by
 obtain ⟨sv,pv,rfl,f,i⟩:=m;obtain ⟨sp,n,rfl⟩:=za4 f;obtain ⟨o,q,rfl⟩:=za4 i;obtain ⟨p,c,rfl⟩:=j.form;have hd:decide ((aH l).2=0)=false:=by rw[di];exact zf8 a
 refine zb2 (args:=[.agg #[.slice p l.length c],.agg #[vi e.kind,vi e.cell,vi e.dim,vi e.new,vi e.other,.slice sp e.sides.length n,.slice o e.pairs.length q]]) func71 I ntmps71 (bE I)<|rZ (bW (bO I) fun t=>?_);refine bW (bO I) fun u=>bW (aL zl9) fun w=>bW (aL zl4) fun x=>aT I<|rZ<|lK (qV 3 aj ae I I I)<|lW (bt call39 I<|cY E g _ _ l j k) ?_;rintro _ g1 _ ⟨rfl,rfl,b⟩;rw[hd];exact aT I<|sQ<|sW I<|lU (oF I)<|tZ<|za2 I<|rZ<|lU (za3 I buildE29)<|lU (za3 I buildZ74)<|oZ (sK 1 ae I I I I I sB)<|oZ (sK 0 bZ I I I I I sB)<|aT I<|rE<|tR<|oR 1 0 s (.inl I) results71 I I I aj ae gX bZ I I I I uR ⟨I,b,_,_,_,_,_,I,ai.nil _,(fun h=>by cases h),fun _=>⟨I,Ims.nil _⟩⟩
theorem gO (v ev:Value)(l:List Cl)(e:Ed)(code:Int)(D:List Cl)(k:List<|Int×List Tm)(bk:Bool)(L:ai g v l)(M:aM l)(R:EdR g ev e)(hr:(aq l).2=0)(N:aM D)
  (j:e.kind=1∨e.kind=2∨e.kind=3∨e.kind=4∨e.kind=5)
  (V:e.kind=1→vd 114 e (aa l) code D k bk) (W:e.kind=2→vd 115 e (aa l) code D k bk) (X:e.kind=3→vd 116 e (aa l) code D k bk) (Y:e.kind=4→vd 117 e (aa l) code D k bk) (Z:e.kind=5→vd 118 e (aa l) code D k bk) :
  Ctr Tryz.prog E 71 #[.agg #[v],ev] g s fun r g' s'=>s=s'∧Le g g'∧fM (aX code D).1 (aX code D).2 k bk r g':=by
 have O:=R;obtain ⟨sv,pv,rfl,P,Q⟩:=R;obtain ⟨sp,sc,rfl⟩:=za4 P;obtain ⟨pq,pc,rfl⟩:=za4 Q;obtain ⟨p,c,rfl⟩:=L.form;have hd:decide ((aH l).2=0)=true:=by rw[di];exact zf9 hr
 refine zb2 (args:=[.agg #[.slice p l.length c],.agg #[vi e.kind,vi e.cell,vi e.dim,vi e.new,vi e.other,.slice sp e.sides.length sc,.slice pq e.pairs.length pc]]) func71 I ntmps71 (bE I)<|rZ (bW (bO I) fun b2=>?_);refine bW (bO I) fun b3=>bW (aL zl9) fun S=>bW (aL zl4) fun T=>aT I<|rZ<|lK (qV 3 aj ae I I I)<|lW (bt call39 I<|cY E g _ _ l L M) ?_;rintro _ g1 _ ⟨rfl,rfl,n⟩;rw[hd];refine aT I<|sQ<|sW I<|lU (oF I)<|tZ<|za1 I<|kP<|tN<|rZ<|lK (qV 3 aj ae I I I)<|lW (bt call70 I<|co E g1 _ _ l (L.mono n) M) ?_;rintro _ g2 _ ⟨rfl,C,u2,rfl,hA⟩;obtain ⟨p2,c2,rfl⟩:=hA.form;refine bW (aL zl9) fun b8=>oZ (sK 0 ae I I I I I sB)<|tZ (rZ<|bW (aL zl9) fun U=>?_);refine tZ (rZ<|bW (aL zl4) fun G=>?_);refine tZ<|rZ<|aT I ?_;have a0:=aF M;have q:=O.mono<|n.trans C;generalize aa l=A at *;refine lu (ι:=PH×Value×Option Addr×Nat×Nat) (fun _=>[(4,pp S 0),(5,pp T 0),(9,pp U 0),(10,pp G 0),(11,vi code)]) (fun i=>i.1) (fun i=>pt G (bY #[.slice i.2.2.1 i.2.2.2.1 i.2.2.2.2,vb bk] 74)::pt U (bY #[i.2.1] 29)::pt T (bY #[.slice none 0 0,vb false] 74)::pt S (bY #[.slice none 0 0] 29)::s)
  (fun i=>Le g2 i.1∧ai i.1 i.2.1 D∧(code=0→Ims i.1 (.slice i.2.2.1 i.2.2.2.1 i.2.2.2.2) k)) ?_ ?_
 ·rcases j with j | j | j | j | j
  ·refine rZ<|lU (bj aO I zT3 I)<|lK (qL iT3 I<|cO 5 I I)<|tZ<|bK<|rZ<|lU (SU.eq (v':=vb true) (eQ I I)<|ze3 vb<|zf9 j)<|aT I<|za2 I<|rG<|lK (qV 2 aj ae I I I)<|lK (qV 5 jS dY I I I)<|lW (bt call114 I<|V j E g2 _ _ _ hA q) ?_;rintro _ g3 _ ⟨rfl,b,H,x,y,z,rfl,a,d⟩;obtain ⟨pu,J,rfl⟩:=a.form;exact lM I<|yX I<|yX I<|yX I<|oZ (sK 1 ae I I I I I sB)<|oZ (sK 0 bZ I I I I I sB)<|lA I<|cp<|bN<|dR (.cons_cons _<|.cons_cons _<|.cons _<|.cons_cons _<|.cons_cons _<|.cons _<|.cons _<|.refl _)<|za9 (g3,_,x,y,z) sB I I ⟨b,a,d⟩
  ·refine rZ<|lU (bj aO I zT3 I)<|lK (qL iT3 I<|cO 5 I I)<|tZ<|bK<|rZ<|lU (SU.eq (v':=vb false) (eQ I I)<|ze3 vb<|zf8 oM)<|aT I<|za1 I<|rZ<|lU (SU.eq (v':=vb true) (eQ I I)<|ze3 vb<|zf9 j)<|aT I<|za2 I<|rG<|lK (qV 2 aj ae I I I)<|lK (qV 5 jS dY I I I)<|lW (bt call115 I<|W j E g2 _ _ _ hA q) ?_;rintro _ g3 _ ⟨rfl,b,H,x,y,z,rfl,a,d⟩;obtain ⟨pu,J,rfl⟩:=a.form;exact lM I<|yX I<|yX I<|yX I<|oZ (sK 1 ae I I I I I sB)<|oZ (sK 0 bZ I I I I I sB)<|lA I<|cp<|bN<|dR (.cons_cons _<|.cons_cons _<|.cons _<|.cons_cons _<|.cons_cons _<|.cons _<|.cons _<|.refl _)<|za9 (g3,_,x,y,z) sB I I ⟨b,a,d⟩
  ·refine rZ<|lU (bj aO I zT3 I)<|lK (qL iT3 I<|cO 5 I I)<|tZ<|bK<|rZ<|lU (SU.eq (v':=vb false) (eQ I I)<|ze3 vb<|zf8 oM)<|aT I<|za1 I<|rZ<|lU (SU.eq (v':=vb false) (eQ I I)<|ze3 vb<|zf8 oM)<|aT I<|za1 I<|rZ<|lU (SU.eq (v':=vb true) (eQ I I)<|ze3 vb<|zf9 j)<|aT I<|za2 I<|rG<|lK (qV 2 aj ae I I I)<|lK (qV 5 jS dY I I I)<|lW (bt call116 I<|X j E g2 _ _ _ hA q) ?_;rintro _ g3 _ ⟨rfl,b,H,x,y,z,rfl,a,d⟩;obtain ⟨pu,J,rfl⟩:=a.form;exact lM I<|yX I<|yX I<|yX I<|oZ (sK 1 ae I I I I I sB)<|oZ (sK 0 bZ I I I I I sB)<|lA I<|cp<|bN<|dR (.cons_cons _<|.cons_cons _<|.cons _<|.cons_cons _<|.cons_cons _<|.cons _<|.cons _<|.refl _)<|za9 (g3,_,x,y,z) sB I I ⟨b,a,d⟩
  ·refine rZ<|lU (bj aO I zT3 I)<|lK (qL iT3 I<|cO 5 I I)<|tZ<|bK<|rZ<|lU (SU.eq (v':=vb false) (eQ I I)<|ze3 vb<|zf8 oM)<|aT I<|za1 I<|rZ<|lU (SU.eq (v':=vb false) (eQ I I)<|ze3 vb<|zf8 oM)<|aT I<|za1 I<|rZ<|lU (SU.eq (v':=vb false) (eQ I I)<|ze3 vb<|zf8 oM)<|aT I<|za1 I<|rZ<|lU (SU.eq (v':=vb true) (eQ I I)<|ze3 vb<|zf9 j)<|aT I<|za2 I<|rG<|lK (qV 2 aj ae I I I)<|lK (qV 5 jS dY I I I)<|lW (bt call117 I<|Y j E g2 _ _ _ hA q) ?_;rintro _ g3 _ ⟨rfl,b,H,x,y,z,rfl,a,d⟩;obtain ⟨pu,J,rfl⟩:=a.form;exact lM I<|yX I<|yX I<|yX I<|oZ (sK 1 ae I I I I I sB)<|oZ (sK 0 bZ I I I I I sB)<|lA I<|cp<|bN<|dR (.cons_cons _<|.cons_cons _<|.cons _<|.cons_cons _<|.cons_cons _<|.cons _<|.cons _<|.refl _)<|za9 (g3,_,x,y,z) sB I I ⟨b,a,d⟩
  ·refine rZ<|lU (bj aO I zT3 I)<|lK (qL iT3 I<|cO 5 I I)<|tZ<|bK<|rZ<|lU (SU.eq (v':=vb false) (eQ I I)<|ze3 vb<|zf8 oM)<|aT I<|za1 I<|rZ<|lU (SU.eq (v':=vb false) (eQ I I)<|ze3 vb<|zf8 oM)<|aT I<|za1 I<|rZ<|lU (SU.eq (v':=vb false) (eQ I I)<|ze3 vb<|zf8 oM)<|aT I<|za1 I<|rZ<|lU (SU.eq (v':=vb false) (eQ I I)<|ze3 vb<|zf8 oM)<|aT I<|za1 I<|rZ<|lU (SU.eq (v':=vb true) (eQ I I)<|ze3 vb<|zf9 j)<|aT I<|za2 I<|rG<|lK (qV 2 aj ae I I I)<|lK (qV 5 jS dY I I I)<|lW (bt call118 I<|Z j E g2 _ _ _ hA q) ?_;rintro _ g3 _ ⟨rfl,b,H,x,y,z,rfl,a,d⟩;obtain ⟨pu,J,rfl⟩:=a.form;exact lM I<|yX I<|yX I<|yX I<|oZ (sK 1 ae I I I I I sB)<|oZ (sK 0 bZ I I I I I sB)<|lA I<|cp<|bN<|dR (.cons_cons _<|.cons_cons _<|.cons _<|.cons_cons _<|.cons_cons _<|.cons _<|.cons _<|.refl _)<|za9 (g3,_,x,y,z) sB I I ⟨b,a,d⟩
 rintro ⟨g3,H,x,y,z⟩ ⟨b,a,d⟩;dsimp only at b a d ⊢;have m:=n.trans<|C.trans b;obtain ⟨pu,J,rfl⟩:=a.form;refine sQ<|sW I<|yE I<|tZ<|iP I (fun K=>?_) (fun K=>?_)
 ·subst K;have t:aX 0 D=if (aq D).2≠0 then ((aq D).2,[]) else (0,aa D):=by unfold aX;rw[xf];rfl
  rw[t];refine rG<|lK (qV 1 aj ae I I I)<|lW (bt call92 I<|mW E g3 _ _ D a N) ?_;rintro _ g4 _ ⟨rfl,rfl,f⟩;rw[di];refine lM I<|yX I<|yX I<|aT I<|sQ<|sW I<|lU (nQ I I)<|tZ<|iP I (fun hz=>?_) (fun hz=>?_)
  ·have F:(if (aq D).2≠0 then ((aq D).2,[]) else ((0:Int),aa D))=((aq D).2,[]):=zg2 hz;rw[F];exact rZ<|lU (za3 I buildE29)<|lU (za3 I buildZ74)<|lM I<|oZ (sK 3 ae I I I I I sB)<|oZ (sK 2 bZ I I I I I sB)<|aT I<|rE<|tR<|oR 3 2 s (.inl I) results71 I I I aj ae gX bZ I I I I uR ⟨I,m.trans f,_,_,_,_,_,I,ai.nil _,fun h=>absurd h hz,fun _=>⟨I,Ims.nil _⟩⟩
  ·have F:(if (aq D).2≠0 then ((aq D).2,[]) else ((0:Int),aa D))=(0,aa D):=zg1 hz;rw[F];refine kP<|tN<|sQ (C1 [2,3,4] ze4 kR ?_)
   repeat' (first
    | (refine SB.o (i:=0) I (IE<|qV 1 aj ae I I I) dC (.inr iR) ?_;rintro _ _ _ ⟨rfl,rfl,rfl⟩)
    | (refine SB.ob (i:=0) I (IE<|qV 1 aj ae I I I) dC kD ?_;rintro _ _ _ ⟨rfl,rfl,rfl⟩)
    | (refine SB.o (i:=1) I (bt call70 I<|co E g4 _ _ D (a.mono f) N) dC (.inr iR) ?_;rintro _ g5 _ ⟨rfl,w,u5,rfl,B⟩;obtain ⟨p5,c5,rfl⟩:=B.form)
    | (refine SB.ob (i:=1) I (bt call70 I<|co E g4 _ _ D (a.mono f) N) dC kD ?_;rintro _ g5 _ ⟨rfl,w,u5,rfl,B⟩;obtain ⟨p5,c5,rfl⟩:=B.form)
    | (refine SB.o (i:=2) I (IE<|qV 0 gX bZ I I I) dC (.inl dC) ?_;rintro _ _ _ ⟨rfl,rfl,rfl⟩)
    | (refine SB.on (i:=3) I (sK 3 ae I I I I I sB) (.inl dC) ?_;rintro _ _ _ ⟨rfl,rfl⟩)
    | (refine SB.on (i:=4) I (sK 2 bZ I I I I I sB) (.inl dC) ?_;rintro _ _ _ ⟨rfl,rfl⟩;refine iO (i:=5) I kD (aS I) dC ?_)
    | refine zd8 0 2 kD ?_ ?_
    | refine zd8 1 2 kD ?_ ?_
    | refine zd8 2 3 kD ?_ ?_
    | refine zd7 3 kD ?_
    | refine zd7 4 kD ?_
    | refine zd7 2 kD ?_
    | refine zd7 1 kD ?_
    | refine zd7 0 kD ?_
    | (refine H5 kD ?_;refine tN ?_;refine rE ?_;exact oR 3 2 s (.inl I) results71 I I I aj ae gX bZ I I I I uR ⟨I,m.trans<|f.trans w,_,_,_,_,_,I,B,fun _=>⟨I,(d I).mono<|f.trans w⟩,fun h=>absurd I h⟩))
 ·have t:aX code D=(code,[]):=zg2 K;rw[t];refine kP<|tN<|sQ<|sW I<|lU (nQ I I)<|tZ<|iP I (fun hz=>?_) (fun hz=>?_)
  ·exact rZ<|lU (za3 I buildE29)<|lU (za3 I buildZ74)<|lM I<|oZ (sK 3 ae I I I I I sB)<|oZ (sK 2 bZ I I I I I sB)<|aT I<|rE<|tR<|oR 3 2 s (.inl I) results71 I I I aj ae gX bZ I I I I uR ⟨I,m,_,_,_,_,_,I,ai.nil _,fun h=>absurd h K,fun _=>⟨I,Ims.nil _⟩⟩
  ·exact absurd K hz
theorem uO (v ev:Value)(l:List Cl)(e:Ed)(d:List<|Int×List Tm)(bk:Bool)(f:ai g v l)(t:aM l)(w:EdR g ev e)(hr:(aq l).2=0)
  (i:e.kind≠1) (j:e.kind≠2) (k:e.kind≠3) (m:e.kind≠4) (n:e.kind≠5) :
  Ctr Tryz.prog E 71 #[.agg #[v],ev] g s fun r g' s'=>s=s'∧Le g g'∧fM 1 [] d bk r g':=by
 obtain ⟨sv,pv,rfl,o,q⟩:=w;obtain ⟨sp,x,rfl⟩:=za4 o;obtain ⟨y,z,rfl⟩:=za4 q;obtain ⟨p,c,rfl⟩:=f.form;have hd:decide ((aH l).2=0)=true:=by rw[di];exact zf9 hr
 refine zb2 (args:=[.agg #[.slice p l.length c],.agg #[vi e.kind,vi e.cell,vi e.dim,vi e.new,vi e.other,.slice sp e.sides.length x,.slice y e.pairs.length z]]) func71 I ntmps71 (bE I)<|rZ (bW (bO I) fun B=>?_);refine bW (bO I) fun C=>bW (aL zl9) fun D=>bW (aL zl4) fun F=>aT I<|rZ<|lK (qV 3 aj ae I I I)<|lW (bt call39 I<|cY E g _ _ l f t) ?_;rintro _ g1 _ ⟨rfl,rfl,a⟩;rw[hd];refine aT I<|sQ<|sW I<|lU (oF I)<|tZ<|za1 I<|kP<|tN<|rZ<|lK (qV 3 aj ae I I I)<|lW (bt call70 I<|co E g1 _ _ l (f.mono a) t) ?_;rintro _ g2 _ ⟨rfl,b,G,rfl,hA⟩;obtain ⟨H,c2,rfl⟩:=hA.form;refine bW (aL zl9) fun J=>oZ (sK 0 ae I I I I I sB)<|tZ (rZ<|bW (aL zl9) fun K=>?_);refine tZ (rZ<|bW (aL zl4) fun A=>?_);refine tZ<|rZ<|aT I<|sQ<|rZ<|lU (bj aO I zT3 I)<|lK (qL iT3 I<|cO 5 I I)<|tZ<|bK<|rZ<|lU (SU.eq (v':=vb false) (eQ I I)<|ze3 vb<|zf8 i)<|aT I<|za1 I<|rZ<|lU (SU.eq (v':=vb false) (eQ I I)<|ze3 vb<|zf8 j)<|aT I<|za1 I<|sQ<|rG<|lU (SU.eq (v':=vb false) (eQ I I)<|ze3 vb<|zf8 k)<|aT I<|za1 I<|rZ<|lU (SU.eq (v':=vb false) (eQ I I)<|ze3 vb<|zf8 m)<|aT I<|za1 I<|rZ<|lU (SU.eq (v':=vb false) (eQ I I)<|ze3 vb<|zf8 n)<|aT I<|za1 I<|kP<|bN<|tN<|sQ<|sW I<|yE I<|tZ<|iP I (fun u=>?_) (fun u=>?_)
 ·cases u
 ·refine kP<|tN<|sQ<|sW I<|lU (nQ I I)<|tZ<|iP I (fun hz=>?_) (fun hz=>?_)
  ·exact rZ<|lU (za3 I buildE29)<|lU (za3 I buildZ74)<|lM I<|oZ (sK 4 ae I I I I I sB)<|oZ (sK 3 bZ I I I I I sB)<|aT I<|rE<|tR<|oR 4 3 s (.inl I) results71 I I I aj ae gX bZ I I I I uR ⟨I,a.trans b,_,_,_,_,_,I,ai.nil _,(fun h=>by cases h),fun _=>⟨I,Ims.nil _⟩⟩
  ·exact absurd dC hz
def HY (S:Int→List Int)(m:List Pr)(a y:Int):Prop:=∃ h,G1 m a=some h∧y∈S h∧y≠a∧(G1 m y).isSome=true
inductive HJ (S:Int→List Int)(m:List Pr):Int→Int→Prop
 | one (a y:Int) (h:HY S m a y):HJ S m a y
 | cons (a y z:Int) (h:HY S m a y) (h2:HJ S m y z):HJ S m a z
section
variable {S:Int→List Int}{m:List Pr}{low a:Int}{v w met:List Int}
end
section
variable {S:Int→List Int}{m:List Pr}(hm:(m.map Prod.fst).Nodup)
include hm
end
end Go.Proofs.YtpmoadbbfobbcaaGreatDoor
namespace Go.Sy
open Go Go.MapKept
section
variable {P:Program}{N:Nat}{E:World}{f:Fr}{g:PH}{s:Own}{dst:Option Tmp}{ty:TypeId}{pos:String}{af:Array Edge}{gd:Option<|Nat×Bool}
end
end Go.Sy
namespace Go.Proofs.YtpmoadbbfobbcaaGreatDoor
open _root_.Go.Proofs.Tryz _root_.Go.Proofs.YtpmoadbbfobbcaaGreatDoor.Tryz
open Go Go.Sy Go.Pl Go.Proofs
set_option maxRecDepth 100000
set_option maxHeartbeats 2000000
set_option maxHeartbeats 4000000
section
variable {l:List Cl}(hl:(aq l).2=0)
include hl
end
section
variable {l:List Cl}(hl:(aq l).2=0)
include hl
end
end Go.Proofs.YtpmoadbbfobbcaaGreatDoor
namespace Go.Sy
open Go Go.MapKept
instance quiet_scope {Q:Exit→Act→World→Prop}[h:Quiet Q]:Quiet<|Exit.noGoto Q:=⟨fun c a a' w hd hq=>h.out c a a' w hd hq⟩
section
variable {P:Program}{N:Nat}{E:World}{Q:Exit→Act→World→Prop}{f:Fr}{g:PH}{s:Own}
theorem SC.scope {c:Code}(h:SC P N E c (Exit.noGoto Q) f g s):SC P N E (.scope c) Q f g s:=fun a w b d=>wp_scope_straight<|h a w b d
theorem ST.scopeN (h:ST N E Q .normal f g s):ST N E (Exit.noGoto Q) .normal f g s:=h
end
end Go.Sy
namespace Go.Proofs.YtpmoadbbfobbcaaGreatDoor
open _root_.Go.Proofs.Tryz _root_.Go.Proofs.YtpmoadbbfobbcaaGreatDoor.Tryz
open Go Go.Sy Go.Pl Go.Proofs
section
variable {l:List Cl}(hl:(aq l).2=0)
include hl
end
open Go Go.Sy Go.Pl Go.Proofs Go.Shelf Go.Sort
set_option maxRecDepth 100000
theorem sI {α:Type}[Inhabited α]{k:Nat}(en:Enc α k)(l:List α):(flatK en.enc k l.toArray).toList=l.flatMap en.enc:=by
 apply List.ext_getElem?;intro t;by_cases a:t<l.length * k
 ·have b:t / k<l.length:=by rw[Nat.div_lt_iff_lt_mul en.pos];exact a
  have i:t % k<k:=Ja _ en.pos;have j:l[t / k]?=some l[t / k]:=bd b;have c:t % k<(en.enc l[t / k]).length:=by rw[en.len];exact i
  have d:=Enc.get (e:=en) (l:=l) j<|bd c;rw[show t / k * k+t % k=t from Nat.div_add_mod' t k] at d;rw[d];have f:t<(flatK en.enc k l.toArray).size:=by simpa using a
  rw[Array.getElem?_toList,vj f];have g:=get_flatK en.enc k l.toArray t (by simpa using a);rw[getElem!_pos _ t f] at g;rw[g];have m:l.toArray[t / k]! = l[t / k]:=by rw[getElem!_pos l.toArray (t / k)<|by simpa using b];simp
  rw[m,getElem!_pos (en.enc l[t / k]) (t % k) c]
 ·rw[List.getElem?_eq_none (by simp;omega),List.getElem?_eq_none (by rw[Enc.length];omega)]
def HM (P:Program)(fn:Nat){α:Type}(enc:α→List Value)(cf:α→α→Int):Prop:=∀ (E:World) (g:PH) (s:Own) (x y:α),
 Ctr P E fn #[.agg (enc x).toArray,.agg (enc y).toArray] g s (fun r g' s'=>r = .int .i64 (cf x y)∧g=g'∧s=s')
theorem zH {P:Program}{ρ:Ren}(L:SlLaysF0.n6 P ρ){α:Type}[Inhabited α]{k:Nat}(en:Enc α k)(aE:∀ w,(isAgg<|ρ.t 24).run P w = .ok true w)(zE:∀ w,(Go.sizeOf<|ρ.t 24).run P w = .ok k w)(cf:α→α→Int)(Z:SWO<|ltOf cf)(fn:Nat)
  (eg:∀ args w,(callFunc fn args).run P w = .ok (.enter fn args) w) (C:HM P fn en.enc cf) (T:TypeId) (E:World) (g:PH) (s:Own) (v:Value) (l:List α) (i:Nat) (A:s[i]?=some (rowA en T v l)) (hl:l.length<1099511627776) :
  Ctr P E (ρ.f 6) #[v,.func (.func fn) #[] #[]] g s fun _ g' s'=>g=g'∧∃ l':List α,l'.Perm l∧(l'.Pairwise fun x y=>¬ cf y x<0)∧s'=s.set i (rowA en T v l'):=by
 intro w K;obtain ⟨M,h2⟩:=ia K A
 rcases h2 with ⟨p,rfl,hn⟩ | ⟨b,cap,cur,rfl,hb,a0,N,O,ht⟩
 ·have D:l=[]:=zf5 hn;subst D;refine (AnyF.slices_SortFunc_none L p 0 (.func (.func fn) #[] #[]) w).mono ?_;rintro e w' ⟨rfl,rfl⟩;exact⟨_,g,s,I,K,I,[],.nil,.nil,(oh A).symm⟩
 ·have a1:=K.fresh _ (zg3 A) b rfl;have d:=(Array.getElem?_eq_some_iff.1 hb).1;have Q:=sI en l;have r:CmpLays P fn #[] en.enc k cf b 0 l.toArray.size w:=by
   intro m os dk R x y;refine (C (sortWorldK en.enc k w b 0 m dk os) (zj _) [] x y _ (FL _)).mono ?_;rintro e w' ⟨v',g',s',rfl,S,rfl,rfl,rfl⟩;exact⟨I,Ao S⟩
  have hH:HoldsK en.enc k w b 0 l.toArray:=by
   intro j B;have F:j<l.length * k:=by simpa using B
   refine⟨?_,by simp[World.frozen?,hb]⟩;have M:(cur.toList.take<|l.length * k)[j]?=(flatK en.enc k l.toArray).toList[j]?:=by rw[ht,Q]
   rw[List.getElem?_take_of_lt F] at M;have R:j<(flatK en.enc k l.toArray).size:=by simpa using F
   simp only[World.cell?,hb,Nat.zero_add];simp only[Option.isSome_none,Bool.false_eq_true,if_false];rw[← Array.getElem?_toList,M,Array.getElem?_toList,vj R,getElem!_pos _ j R];rfl
  refine (AnyQ.slices_SortFunc L k aE zE en.enc en.len en.one cf Z fn #[] b 0 (cap+1) l.toArray w eg r hH d<|by simp;omega).mono ?_;rintro e w' ⟨rfl,a,n,os,hp,U,rfl⟩;obtain ⟨a⟩:=a;have c:a.length=l.length:=by have:=hp.1;simpa using this
  have u:a.Perm l:=by
   have o:=hp.2.2;simp only[List.size_toArray,List.extract_toArray] at o;simpa [List.extract_eq_take_drop,c,tL<|Nat.le_of_eq c] using o
  have G:a.Pairwise fun x y=>¬ cf y x<0:=by
   rw[zd1];intro i j A B V;have o:=U i j (zf7 _) V (by simp;omega);simp only[ltOf,hP] at o;simpa [A,B] using o
  have W:=sI en a;have a2:(flatK en.enc k a.toArray).size=l.length * k:=by simp[c]
  refine⟨_,g,s.set i<|rowA en T (.slice (some ⟨b,0,none⟩) l.length<|cap+1) a,I,?_,I,a,u,G,I⟩;have o:(sortWorldK en.enc k w b 0 n a.toArray os).heap[b]?=some (.cells (putCells id 0 (flatK en.enc k a.toArray) cur) T (0,0)):=by
   show (grow (putRow id (Sort.ahead w n) b 0<|flatK en.enc k a.toArray) os).heap[b]?=_;rw[heap_grow_old _ _<|by simpa using d];simp[putRow,mapBlock,Sort.ahead,Array.getElem?_modify,hb,onCells]
  exact K.turn (i:=i) (w':=sortWorldK en.enc k w b 0 n a.toArray os) (e':=rowA en T (.slice (some ⟨b,0,none⟩) l.length<|cap+1) a) A I ⟨I,Nat.le_add_right _ _⟩ I (by simp[sortWorldK,grow,putRowK,putRow,mapBlock,Sort.ahead]) (fun q hq X=>by
    have H:b≠q:=fun e=>X (by rw[e];rfl);show (grow (putRow id (Sort.ahead w n) b 0<|flatK en.enc k a.toArray) os).heap[q]?=_;rw[heap_grow_old _ _<|by simpa using hq];simp[putRow,mapBlock,Sort.ahead,Array.getElem?_modify,H]) (by
    have:=eH (w:=sortWorldK en.enc k w b 0 n a.toArray os) (T:=T) (k:=k) (n:=a.length) (b:=b) (cap:=cap) (xs:=a.flatMap en.enc) (by rw[en.length]) o oM N (by simp[putCells];simpa using O) (by
     rw[← W];apply List.ext_getElem?;intro j;by_cases B:j<a.length * k
     ·have z:j<(flatK en.enc k a.toArray).size:=by simpa using B
      have Y:j<cur.size:=by
       have:a.length * k≤(cap+1) * k:=Nat.mul_le_mul_right _ oM;omega
      rw[List.getElem?_take_of_lt B,Array.getElem?_toList,Array.getElem?_toList,vj z];simp only[putCells,Array.getElem?_mapIdx,vj Y,Option.map_some,zf7,true_and,Nat.zero_add,Nat.sub_zero];rw[zg2 z,getElem!_pos _ j z];rfl
     ·rw[List.getElem?_take_eq_none oM,List.getElem?_eq_none (by simp;omega)])
    rw[show rowA en T (.slice (some ⟨b,0,none⟩) l.length<|cap+1) a=row T k (.slice (some ⟨b,0,none⟩) a.length<|cap+1) a.length (a.flatMap en.enc) by simp only[rowA,c]];exact this) (fun b' J=>by
    simp only[rowA,row,jV,zg8] at J;subst J;exact⟨(Array.getElem?_eq_some_iff.1 o).1,.inl I⟩)
set_option maxHeartbeats 2000000
abbrev Ts:=List<|Int×Value×List Tm
def gt (ts:Ts):Own:=ts.map fun t=>rowA fF 189 t.2.1 t.2.2
def xj (ts:Ts):List<|Int×Value:=ts.map fun t=>(t.1,t.2.1)
theorem vC (k:Int):∀ a:Ts,(eU (xj a) k=none∧∀ t∈a,t.1≠k)∨∃ (m:Nat) (t:Int×Value×List Tm),a[m]?=some t∧t.1=k∧eU (xj a) k=some t.2.1∧a.find? (fun t=>decide<|t.1=k)=some t
 | []=>.inl ⟨rfl,by simp⟩
 | t::a=>by
  have hc:xj (t::a)=(t.1,t.2.1)::xj a:=rfl;rw[hc,dv];by_cases h:k=t.1
  ·rw[zg2 h];exact .inr ⟨0,t,I,h.symm,I,by rw[zi7,zf9 h.symm]⟩
  ·rw[zg1 h]
   rcases vC k a with ⟨b,c⟩ | ⟨m,u,b,c,f,g⟩
   ·exact .inl ⟨b,fun x d=>by
     rcases zf2.1 d with rfl | d
     ·exact fun e=>h e.symm
     ·exact c x d⟩
   ·exact .inr ⟨m+1,u,b,c,f,by rw[zi7,zf8 fun e=>h e.symm];exact g⟩
variable {ids:List Int}{m:Nat}{k:Int}{g:PH}
theorem Da {a:Ts}{t:Int×Value×List Tm}(h:a[m]?=some t)(p q:Own):(p++(gt a++q))[p.length+m]?=some (rowA fF 189 t.2.1 t.2.2):=by
 have b:=(zf6.1 h).1;rw[vK,zh3<|by simpa [gt] using b];simp[gt,h]
theorem C9 {a:Ts}{t:Int×Value×List Tm}(h:a[m]?=some t)(l':List Tm)(p q:Own):(p++(gt a++q)).set (p.length+m) (rowA fF 189 t.2.1 l')=p++(gt (a.set m (t.1,t.2.1,l'))++q):=by
 have b:=(zf6.1 h).1;rw[List.set_append_right _ _ oM,Nat.add_sub_cancel_left,List.set_append_left _ _<|by simpa [gt] using b];simp[gt,List.map_set]
theorem freezeRowsT {E:World}{w:World}:∀ (e:Ts) (g:PH) (s:Own),At E g (gt e++s) w→∃ g',Le g g'∧At E g' s w∧∀ t∈e,SlA fF g' t.2.1 t.2.2
 | [],g,s,h=>⟨g,zb9 g,h,by simp⟩
 | (a,v,l)::r,g,s,h=>by
  have f:At E g (row 189 3 v l.length (l.flatMap fF.enc)::(gt r++s)) w:=h;obtain ⟨g1,c,i,j⟩:=f.freezeRow;obtain ⟨g2,b,k,m⟩:=freezeRowsT r g1 s i;refine⟨g2,c.trans b,k,fun t d=>?_⟩
  rcases zf2.1 d with rfl | d
  ·exact Sl.mono j b
  ·exact m t d
theorem SC.freezeRowsT {P:Program}{N:Nat}{E:World}{c:Code}{Q:Exit→Act→World→Prop}{f:Fr}{p q:Own}{b:Ts}(h:∀ g',Le g g'→(∀ t∈b,SlA fF g' t.2.1 t.2.2)→SC P N E c Q f g' (p++q)):SC P N E c Q f g<|p++(gt b++q):=fun a w d e=>by
 have i:(p++(gt b++q)).Perm<|gt b++(p++q):=by
  rw[← zg9,← zg9];exact List.perm_append_comm.append_right q
 obtain ⟨g',j,k,l⟩:=Go.Proofs.YtpmoadbbfobbcaaGreatDoor.freezeRowsT b g (p++q)<|e.perm i;exact h g' j l a w d k
def FU (ts:Ts):Prop:=∀ t∈ts,t.2.2.length<1099511627776∧(t.2.2.map Prod.fst).Nodup∧∃ p n c,t.2.1 = .slice p n c
def Ir (ts:Ts)(k:Int):List Tm:=match ts.find? (fun t=>decide<|t.1=k) with
 | some t=>sortBy Prod.fst t.2.2
 | none=>[(k,1)]
theorem C4 {l l':List Tm}(hp:l'.Perm l)(a:l'.Pairwise fun x y=>¬ iI y.1 x.1<0)(hn:(l.map Prod.fst).Nodup):l'=sortBy Prod.fst l:=by
 have b:Srt Prod.fst l':=a.imp fun h=>by rw[fy] at h;omega
 exact bl b<|vn hp.symm hn
def Tryz.sortT_ren:Ren :=
 {
  f:=fun x =>
   match x with
   | 6=>151
   | 15=>82
   | 14=>200
   | 28=>141
   | 29=>142
   | 20=>220
   | 21=>221
   | 22=>222
   | 23=>223
   | 24=>224
   | 25=>225
   | 26=>226
   | 27=>227
   | 46=>237
   | 47=>188
   | 48=>189
   | 49=>238
   | 50=>239
   | 57=>254
   | n=>n,
  t:=fun x =>
   match x with
   | 22=>184
   | 24=>189
   | 25=>192
   | 3=>3
   | 39=>126
   | 0=>0
   | 53=>177
   | 55=>179
   | 4=>4
   | 46=>171
   | 45=>170
   | 50=>97
   | 5=>5
   | 9=>9
   | 66=>216
   | 70=>220
   | 76=>233
   | 77=>234
   | n=>n,
  g:=fun x =>
   have n:=x;
   n }
theorem Tryz.sortT:SlLaysF0.n6 Tryz.prog Tryz.sortT_ren :=
  {
  mixed:=Eq.refl true,
  f6 :=
   Exists.intro "slices.SortFunc[[]cocycle/api.Term,cocycle/api.Term]"
    ⟨zg4<|id<|Eq.refl true,
     zb8 func151
      (ze3 some
       kR)⟩,
  f14 :=
   Exists.intro "slices.pdqsortCmpFunc[cocycle/api.Term]"
    ⟨zg4<|id<|Eq.refl true,
     zb8 func200
      (ze3 some
       kR)⟩,
  f15:=zb8 func82<|ze3 some kR,
  f20 :=
   Exists.intro "slices.insertionSortCmpFunc[cocycle/api.Term]"
    ⟨zg4<|id<|Eq.refl true,
     zb8 func220
      (ze3 some
       kR)⟩,
  f21 :=
   Exists.intro "slices.heapSortCmpFunc[cocycle/api.Term]"
    ⟨zg4<|id<|Eq.refl true,
     zb8 func221
      (ze3 some
       kR)⟩,
  f22 :=
   Exists.intro "slices.breakPatternsCmpFunc[cocycle/api.Term]"
    ⟨zg4<|id<|Eq.refl true,
     zb8 func222
      (ze3 some
       kR)⟩,
  f23 :=
   Exists.intro "slices.choosePivotCmpFunc[cocycle/api.Term]"
    ⟨zg4<|id<|Eq.refl true,
     zb8 func223
      (ze3 some
       kR)⟩,
  f24 :=
   Exists.intro "slices.reverseRangeCmpFunc[cocycle/api.Term]"
    ⟨zg4<|id<|Eq.refl true,
     zb8 func224
      (ze3 some
       kR)⟩,
  f25 :=
   Exists.intro "slices.partialInsertionSortCmpFunc[cocycle/api.Term]"
    ⟨zg4<|id<|Eq.refl true,
     zb8 func225
      (ze3 some
       kR)⟩,
  f26 :=
   Exists.intro "slices.partitionEqualCmpFunc[cocycle/api.Term]"
    ⟨zg4<|id<|Eq.refl true,
     zb8 func226
      (ze3 some
       kR)⟩,
  f27 :=
   Exists.intro "slices.partitionCmpFunc[cocycle/api.Term]"
    ⟨zg4<|id<|Eq.refl true,
     zb8 func227
      (ze3 some
       kR)⟩,
  f28:=zb8 func141<|ze3 some kR,
  f29:=zb8 func142<|ze3 some kR,
  f46 :=
   Exists.intro "slices.siftDownCmpFunc[cocycle/api.Term]"
    ⟨zg4<|id<|Eq.refl true,
     zb8 func237
      (ze3 some
       kR)⟩,
  f47:=zb8 func188<|ze3 some kR,
  f48:=zb8 func189<|ze3 some kR,
  f49 :=
   Exists.intro "slices.medianAdjacentCmpFunc[cocycle/api.Term]"
    ⟨zg4<|id<|Eq.refl true,
     zb8 func238
      (ze3 some
       kR)⟩,
  f50 :=
   Exists.intro "slices.medianCmpFunc[cocycle/api.Term]"
    ⟨zg4<|id<|Eq.refl true,
     zb8 func239
      (ze3 some
       kR)⟩,
  f57 :=
   Exists.intro "slices.order2CmpFunc[cocycle/api.Term]"
    ⟨zg4<|id<|Eq.refl true,
     zb8 func254
      (ze3 some
       kR)⟩,
  t0:=uT0,a0:=isAgg0,z0:=sizeOf0,v0:=zm3,t3:=uT3,
  a3:=iT3,z3:=zT3,v3:=zl7,t4:=uT4,a4:=isAgg4,
  z4:=zT4,v4:=zm2,t5:=uT5,a5:=isAgg5,z5:=sizeOf5,
  v5:=zeroValue5,t9:=uT9,a9:=isAgg9,z9:=sizeOf9,v9:=zeroValue9,
  t22:=underlying184,a22:=isAgg184,z22:=sizeOf184,v22:=zeroValue184,
  t25:=underlying192,a25:=isAgg192,z25:=sizeOf192,v25:=zeroValue192,
  t39:=j7,a39:=isAgg126,z39:=sizeOf126,v39:=zeroValue126,
  t45:=underlying170,a45:=isAgg170,z45:=sizeOf170,v45:=zeroValue170,
  t46:=underlying171,a46:=isAgg171,z46:=sizeOf171,v46:=zeroValue171,
  t50:=underlying97,a50:=isAgg97,z50:=sizeOf97,v50:=zeroValue97,
  t53:=underlying177,a53:=isAgg177,z53:=sizeOf177,v53:=zeroValue177,
  t55:=nK,a55:=isAgg179,z55:=sizeOf179,v55:=zeroValue179,
  t66:=underlying216,a66:=isAgg216,z66:=sizeOf216,v66:=zeroValue216,
  t70:=underlying220,a70:=isAgg220,z70:=sizeOf220,v70:=zeroValue220,
  t76:=underlying233,a76:=isAgg233,z76:=sizeOf233,v76:=zeroValue233,
  t77:=underlying234,a77:=isAgg234,z77:=sizeOf234,v77:=zeroValue234 }
theorem GK:HM Tryz.prog 152 fF.enc fun x y=>iI x.1 y.1:=by
 intro E g s x y;obtain ⟨a,c⟩:=x;obtain ⟨b,d⟩:=y;refine zb2 (args:=[.agg #[vi a,vb<|HE c,txt<|zw c.natAbs],.agg #[vi b,vb<|HE d,txt<|zw d.natAbs]]) func152 I ntmps152 (bE I)<|rZ (bW (bO I) fun e=>?_);refine bW (bO I) fun f=>aT I<|rZ<|lU (bj underlying189 I zT3 I)<|lK (qL (v:=vi a) iT3 I<|cO 1 I I)<|lU (bj underlying189 I zT3 I)<|lK (qL (v:=vi b) iT3 I<|cO 0 I I)<|lW (bt call30 I<|dV E g _ a b) ?_;rintro _ _ _ ⟨rfl,rfl,rfl⟩;exact aT I<|rE<|dR (s':=s) uR<|za8 (.inl I) results152 I ⟨I,I,I⟩
theorem Hg {α:Type}(key:α→Int):SWO (ltOf fun x y:α=>iI (key x)<|key y):=⟨fun x=>by simp[ltOf,fy],fun x y z a b=>by simp[ltOf,fy] at *;omega,fun x y z a b=>by simp[ltOf,fy] at *;omega⟩
theorem C5 (E:World)(g:PH)(s:Own)(v:Value)(l:List Tm)(i:Nat)(a:s[i]?=some (rowA fF 189 v l))(hl:l.length<1099511627776)(hn:(l.map Prod.fst).Nodup) :
  Ctr Tryz.prog E 151 #[v,.func (.func 152) #[] #[]] g s (fun _ g' s'=>g=g'∧s'=s.set i (rowA fF 189 v<|sortBy Prod.fst l)) :=
 (zH Tryz.sortT fF isAgg189 sizeOf189 (fun x y=>iI x.1 y.1) (Hg Prod.fst) 152 call152 GK 189 E g s v l i a hl).mono fun _ _ _ ⟨b,l',c,d,e⟩=>⟨b,by rw[e,C4 c d hn]⟩
theorem Bn (E:World)(g:PH)(p q:Own)(f bx J ms:Nat)(u:Value)(bk:Bool)(k:Int)(a:Ts)(B:FU a)(i j z:Nat)(hq:p[z]?=some (pt f<|.cells #[pp bx 0] 134 (0,0)))(K:p[i]?=some (edP bx u J ms bk))(L:p[j]?=some (mp ms<|xj a)) :
  cQ Tryz.prog E (.func (.func 149) #[] #[pp f 0]) [vi k] g (p++(gt a++q)) (fun r g' s'=>Le g g'∧∃ d,s'=p++(gt d++q)∧((a.find? (fun t=>decide<|t.1=k)=none∧d=a∧SlA fF g' r [(k,1)])∨∃ (m:Nat) (t:Int×Value×List Tm),a[m]?=some t∧t.1=k∧a.find? (fun t=>decide<|t.1=k)=some t∧r=t.2.1∧d=a.set m (t.1,t.2.1,sortBy Prod.fst t.2.2))):=by
 refine cQ.mk (args:=[_]) (cap:=[pp f 0]) call149 ?_;have left:∀ {n:Nat} {x:Ent},p[n]?=some x→(p++(gt a++q))[n]?=some x:=fun {n x} h=>by
  rw[zh3 (zf6.1 h).1];exact h
 have l:=left hq;have o:=left K;have w:=left L;generalize H:p++(gt a++q)=s at *
 rcases vC k a with ⟨e,C⟩ | ⟨m,t,e,C,M,N⟩
 ·have O:a.find? (fun t=>decide<|t.1=k)=none:=List.find?_eq_none.2 fun t P=>by simpa using C t P
  refine zb2 (args:=[vi k,pp f 0]) func149 I ntmps149 (bE I)<|rZ<|aT I<|rZ<|lK (qL (v:=pp bx 0) isAgg134 I<|cO z l I)<|lU (nC I)<|lU (bj ly I sizeOf181 I)<|lK (qL (v:=.map<|some ms) isAgg181 I<|cO i o I)<|lM I<|lK (SQ.eq (v':=.tuple #[.slice none 0 0,vb false]) (qn mty181 I I<|bo.own j w)<|by rw[e];rfl) ?_;refine lM I<|yX I<|yX I<|lA I<|aT I<|sQ<|sW I<|lU (oF I)<|tZ<|za2 I<|sW I<|lW (bt call150 I<|CY E g _ k 1<|.inr<|.inl I) ?_;rintro _ g1 _ ⟨rfl,rfl,y⟩;refine lW (bS sty184 I I I (ab ⟨I,trivial⟩) dC) ?_;rintro _ _ _ ⟨Q,rfl,rfl,rfl⟩;refine zb5 fun g2 A D=>?_;exact aT I<|rE<|tR<|za8 (.inl I) results149 I ⟨y.trans A,a,H.symm,.inl ⟨O,I,kb D I I⟩⟩
 ·have b:=Da e p q;have c:=C9 e (sortBy Prod.fst t.2.2) p q;rw[H] at b c;obtain ⟨F,G,_⟩:=B t<|zg3 e;refine zb2 (args:=[vi k,pp f 0]) func149 I ntmps149 (bE I)<|rZ<|aT I<|rZ<|lK (qL (v:=pp bx 0) isAgg134 I<|cO z l I)<|lU (nC I)<|lU (bj ly I sizeOf181 I)<|lK (qL (v:=.map<|some ms) isAgg181 I<|cO i o I)<|lM I<|lK (SQ.eq (v':=.tuple #[t.2.1,vb true]) (qn mty181 I I<|bo.own j w)<|by rw[M];rfl) ?_;refine lM I<|yX I<|yX I<|lA I<|aT I<|sQ<|sW I<|lU (oF I)<|tZ<|za1 I<|kP<|tN<|sW I<|lW (bt call151 I<|C5 E g _ t.2.1 t.2.2 _ b F G) ?_;rintro _ _ _ ⟨rfl,rfl⟩;exact tZ<|sW I<|aT I<|rE<|za8 (.inl I) results149 I ⟨zb9 _,_,c,.inr ⟨m,t,e,C,N,I,I⟩⟩
theorem AQ (l:List Tm):sortBy Prod.fst (sortBy Prod.fst l)=sortBy Prod.fst l:=(bl (c8 l)<|aN.refl _).symm
def jU (ts:Ts)(ids:List Int):Ts:=ts.map fun t=>if t.1∈ids then (t.1,t.2.1,sortBy Prod.fst t.2.2) else t
theorem Em (a:Ts):jU a []=a:=by simp[jU]
theorem CX {a:Ts}(h:(jU a ids).find? (fun t=>decide<|t.1=k)=none):∀ t∈a,t.1≠k:=fun t b e=>by
 have c:=List.find?_eq_none.1 h _<|zf3.2 ⟨t,b,rfl⟩;apply c;split <;> exact zf9 e
theorem CW {b:Ts}(h:∀ t∈b,t.1≠k):jU b (ids++[k])=jU b ids:=by
 unfold jU;apply zc9;intro t d;have c:=h t d;by_cases a:t.1∈ids
 ·rw[zg2 a,zg2<|by simp[a]]
 ·rw[zg1 a,zg1<|by simp[a,c]]
theorem Eo {b:Ts}{a:Int×Value×List Tm}(h:(jU b ids)[m]?=some a):∃ t,b[m]?=some t∧t.1=a.1∧t.2.1=a.2.1∧sortBy Prod.fst a.2.2=sortBy Prod.fst t.2.2:=by
 unfold jU at h;rw[zi1] at h;cases c:b[m]? with
 | none=>rw[c] at h;cases h
 | some t =>
  rw[c] at h;simp only[Option.map_some,zg8] at h;subst h;refine⟨t,I,?_,?_,?_⟩
  ·split <;> rfl
  ·split <;> rfl
  ·split
   ·exact AQ _
   ·rfl
theorem CU {a:Ts}(hn:(a.map Prod.fst).Nodup){c:Int×Value×List Tm}(h:(jU a ids)[m]?=some c)(o:c.1=k):(jU a ids).set m (c.1,c.2.1,sortBy Prod.fst c.2.2)=jU a (ids++[k]):=by
 obtain ⟨t,f,g,p,q⟩:=Eo h;apply List.ext_getElem?;intro n;rw[List.getElem?_set];by_cases e:m=n
 ·subst e;have r:=(zf6.1 h).1;rw[zg2 rfl,zg2 r];unfold jU;rw[zi1,f,Option.map_some,zg2<|by simp[g,o],← q,← g,← p]
 ·rw[zg1 e];unfold jU;rw[zi1,zi1];cases d:a[n]? with
  | none=>rfl
  | some u =>
   have i:u.1≠k:=fun s=>by
    have j:=(zf6.1 f).1;have l:=(zf6.1 d).1;have b:(a.map Prod.fst)[m]'(by simpa using j)=(a.map Prod.fst)[n]'(by simpa using l):=by
     rw[List.getElem_map,List.getElem_map,(zf6.1 f).2,(zf6.1 d).2,g,o,s]
    exact e<|(List.getElem_inj hn).1 b
   rw[Option.map_some,Option.map_some];by_cases b:u.1∈ids
   ·rw[zg2 b,zg2<|by simp[b]]
   ·rw[zg1 b,zg1<|by simp[b,i]]
theorem Ch {a:Ts}(h:FU a)(ids:List Int):FU<|jU a ids:=fun t e=>by
 obtain ⟨u,f,rfl⟩:=zf3.1 e;obtain ⟨b,c,d⟩:=h u f;split
 ·exact⟨by rw[dF];exact b,((eO u.2.2).map Prod.fst).symm.nodup c,d⟩
 ·exact⟨b,c,d⟩
theorem El (a:Ts)(ids:List Int):xj (jU a ids)=xj a:=by
 unfold xj jU;rw[zi6];apply zc9;intro t _;simp only[Function.comp];split <;> rfl
theorem wv {α β γ:Type}{R:α→γ→Prop}{S:β→γ→Prop}{f:α→β}:∀ {l:List α} {m:List γ},(∀ a c,a∈l→R a c→S (f a) c)→ay R l m→ay S (l.map f) m
 | [],[],_,_=>trivial
 | a::l,c::m,h,⟨b,d⟩=>⟨h a c dO b,wv (fun x y e=>h x y<|by simp[e]) d⟩
 | [],_::_,_,h=>h.elim
 | _::_,[],_,h=>h.elim
def ImS (ts:Ts)(g:PH)(c:Cl)(r:Im):Prop:=r.cell=c.id∧match ts.find? (fun t=>decide<|t.1=c.id) with
 | some t=>.slice r.sv.p r.sv.n r.sv.c=t.2.1
 | none=>SlA fF g (.slice r.sv.p r.sv.n r.sv.c) [(c.id,1)]
theorem ImS.mono {a:Ts}{g':PH}(hl:Le g g'){c:Cl}{r:Im}(h:ImS a g c r):ImS a g' c r:=by
 refine⟨h.1,?_⟩;have b:=h.2
 revert b
 cases a.find? (fun t=>decide<|t.1=c.id) with
 | some t=>exact id
 | none=>exact fun b=>za5 b hl
theorem ImS.done {a:Ts}{F:List Cl}(e:∀ t∈jU a (F.map Cl.id),SlA fF g t.2.1 t.2.2){c:Cl}(hc:c∈F){r:Im}(h:ImS a g c r):ImR g (c.id,Ir a c.id) r:=by
 refine⟨h.1,?_⟩;have b:=h.2;unfold Ir;dsimp only
 revert b
 cases d:a.find? (fun t=>decide<|t.1=c.id) with
 | some t =>
  intro b;have f:=zk7 d;have i:t.1=c.id:=by simpa using List.find?_some d
  dsimp only at b ⊢;rw[b];exact e (t.1,t.2.1,sortBy Prod.fst t.2.2)<|zf3.2 ⟨t,f,by rw[zg2<|by rw[i];exact zf3.2 ⟨c,hc,I⟩]⟩
 | none=>exact id
theorem CV {a:Ts}{b:Int×Value×List Tm}(h:(jU a ids).find? (fun t=>decide<|t.1=k)=some b):∃ t,a.find? (fun t=>decide<|t.1=k)=some t∧t.2.1=b.2.1:=by
 unfold jU at h;rw[List.find?_map] at h;rw[Option.map_eq_some_iff] at h;obtain ⟨t,c,d⟩:=h;refine⟨t,?_,?_⟩
 ·rw[← c];congr 1;funext u;simp only[Function.comp];split <;> rfl
 ·rw[← d];split <;> rfl
theorem DG {a e:Ts}(j:(a.map Prod.fst).Nodup)(k:FU a){b:Cl}{g2:PH}{v:Value}
  (h:((jU a ids).find? (fun t=>decide<|t.1=b.id)=none∧e=jU a ids∧SlA fF g2 v [(b.id,1)])∨∃ (m:Nat) (t:Int×Value×List Tm),(jU a ids)[m]?=some t∧t.1=b.id∧(jU a ids).find? (fun t=>decide<|t.1=b.id)=some t∧v=t.2.1∧e=(jU a ids).set m (t.1,t.2.1,sortBy Prod.fst t.2.2)) :
  ∃ q n d,v = .slice q n d∧e=jU a (ids++[b.id])∧ImS a g2 b ⟨b.id,⟨q,n,d⟩⟩:=by
 rcases h with ⟨g,rfl,i⟩ | ⟨m,t,g,s,i,rfl,rfl⟩
 ·obtain ⟨p,c,rfl⟩:=za4 i;have f:=CX g;refine⟨p,_,c,I,(CW f).symm,I,?_⟩;rw[show a.find? (fun t=>decide<|t.1=b.id)=none from List.find?_eq_none.2 fun t w=>by simpa using f t w];exact i
 ·obtain ⟨_,_,p,n,c,r⟩:=Ch k ids t<|zg3 g;obtain ⟨u,l,o⟩:=CV i;refine⟨p,n,c,r,CU j g s,I,?_⟩;rw[l];dsimp only;rw[o,r]
theorem C3 (E:World)(g:PH)(n t:Own)(bx Z ms:Nat)(u v:Value)(bk:Bool)(A D:List Cl)(d:Ts)(L:FU d)(a0:(d.map Prod.fst).Nodup)(hu:ai g u A)(hv:ai g v D)(hA:A.length<1099511627776)(hD:D.length<1099511627776)(i j:Nat)(C:n[i]?=some (edP bx u Z ms bk))(a1:n[j]?=some (mp ms<|xj d)) :
  Ctr Tryz.prog E 89 #[pp bx 0,.agg #[v]] g (n++(gt d++t)) fun r g' s'=>s'=n++t∧Le g g'∧∃ iv,r = .agg #[iv,vb bk]∧Ims g' iv ((if bk then D else A).map fun c=>(c.id,Ir d c.id)):=by
 have W:(n++(gt d++t))[i]?=some (edP bx u Z ms bk):=by rw[zh3 (zf6.1 C).1];exact C
 obtain ⟨pu,X,rfl⟩:=hu.form;obtain ⟨pv,y,rfl⟩:=hv.form;refine zb2 (args:=[pp bx 0,.agg #[.slice pv D.length y]]) func89 I ntmps89 (bE I)<|rZ (bW (bO I) fun z=>?_);refine bW (bO I) fun M=>bW (aL zl4) fun J=>tZ (rZ<|lK (qL isAgg134 I<|cO 2 I I)<|lU (nC I)<|lU (bj ly I ae I)<|lK (SQ.loadOne aj ae I<|cO (v:=.slice pu A.length X) (i+3) W I)<|bW (aL zl9) fun N=>?_);refine oZ (sK 0 ae I I I I I sB)<|tZ<|lu (ι:=Unit) (fun _=>[(2,pp z 0),(3,pp M 0),(4,pp J 0),(5,pp N 0)]) (fun _=>g) (fun _=>pt N (bY #[if bk then .slice pv D.length y else .slice pu A.length X] 29)::pt J (bY #[.slice none 0 0,vb false] 74)::pt M (bY #[.slice pv D.length y] 29)::pt z (bY #[pp bx 0] 134)::(n++(gt d++t))) (fun _=>True) ?_ ?_
 ·refine rZ<|lK (qL isAgg134 I<|cO 3 I I)<|lU (nC I)<|lU (bj ly I zT4 I)<|lK (qL (v:=vb bk) isAgg4 I<|cO (i+4) W I)<|tZ ?_;cases bk with
  | true =>
   exact za2 I<|rG<|lK (qV 2 aj ae I I I)<|oZ (sK 0 ae I I I I I sB)<|cp<|za9 () sB I I trivial
  | false =>
   exact za1 I<|kP<|za9 () sB I I trivial
 rintro _ -;try dsimp only
 have hF:ai g (if bk then .slice pv D.length y else .slice pu A.length X)<|if bk then D else A:=by cases bk <;> assumption
 have c0:(if bk then D else A).length<1099511627776:=by cases bk <;> assumption
 generalize (if bk=true then D else A)=F at *;generalize (if bk=true then Value.slice pv D.length y else Value.slice pu A.length X)=w at *;obtain ⟨rs,G,B⟩:=hF;have c1:=B.length;obtain ⟨p,c,rfl⟩:=za4 G;refine rZ (lK (qL isAgg134 I<|cO 3 I I)<|lU (nC I)<|lU (bj ly I zT4 I)<|lK (qL (v:=vb bk) isAgg4 I<|cO (i+4) W I)<|lU (za3 I<|buildB74 _)<|bW (aL zl4) fun Y=>?_);refine oZ (sK 0 bZ I I I I I sB)<|tZ<|rZ<|lU (Ih I)<|aT I<|sQ<|rZ<|lU (bj dw I cg I)<|lK (qL ei I<|cO 1 I I)<|lU (eN aB I)<|lM I<|tZ<|bK ?_;clear W;refine zb6 195 2<|oP (ι:=Nat×PH×Value×List Im) (fun i=>[(2,pp z 0),(4,pp J 0),(6,pp Y 0),(7,.func (.func 149) #[] #[pp z 0]),(26,.slice p rs.length c),(27,vi rs.length),(28,vi i.1)]) (fun i=>i.2.1)
  (fun i=>rowA lQ 195 i.2.2.1 i.2.2.2::pt Y (bY #[i.2.2.1,vb bk] 74)::pt N (bY #[.slice p rs.length c] 29)::pt J (bY #[.slice none 0 0,vb false] 74)::pt M (bY #[.slice pv D.length y] 29)::pt z (bY #[pp bx 0] 134)::(n++(gt (jU d<|(F.take i.1).map Cl.id)++t)))
  (fun i=>i.1≤rs.length∧Le g i.2.1∧ay (ImS d i.2.1) (F.take i.1) i.2.2.2) (fun i=>rs.length - i.1) (0,g,.slice none 0 0,[])
  sB rfl (by dsimp only;rw[List.take_zero,List.map_nil,Em];rfl) ⟨zf7 _,zb9 g,by simp[ay]⟩ ?_
 rintro ⟨k,g1,ov,acc⟩ ⟨hk,s,b⟩;dsimp only at hk s b ⊢;have a2:=b.length;rw[ze5] at a2;refine rZ<|yL I<|tZ<|sQ<|iP I (fun a3=>?_) (fun a3=>?_)
 ·have O:k<rs.length:=oM;have P:k<F.length:=oM;have a4:=za6 G oM;have a5:=B.get (bd P)<|bd O;have a9:rs[((k:Nat):Int).toNat]?=some rs[k]:=bd O;have Q:F.take (k+1)=F.take k++[F[k]]:=tS P;generalize rs[k]=x at *;generalize F[k]=cx at *;obtain ⟨xi,xd,xp,xn,xc⟩:=x;obtain ⟨e1,e2,-⟩:=a5;dsimp only at e1 e2;subst e1 e2;refine kP<|tN<|sQ<|bK<|rZ<|lU (iA aB ar I I a4 oM (show (k:Int)<((rs.length:Nat):Int) by omega)) ?_;refine lK (iN dT ar I (za7<|za5 G s) a9) (bW (aL zl6) fun b9=>?_);refine oZ (sK 0 ar I I I I I sB) ?_;refine tZ ?_;refine SC.drawT 3 [11,14] [(0,2),(1,2),(2,1),(3,2),(4,1),(5,2),(6,2),(7,1),(8,0),(9,2),(10,0),(11,0),(12,2),(13,2),(14,0)] ze4 kR ?_;refine pU I (bj underlying74 I qR I)<|pU I (bj AC I un I)<|gB I (qL isAgg70 I<|cO 2 I I)<|pU I (bj ap I zT3 I)<|gB I (qL iT3 I<|cO 0 I I)<|yM I<|pU I (bj ap I zT3 I)<|gB I (qL iT3 I<|cO 0 I I)<|mf I (DO I I<|Bn E g1 (pt b9 (bY #[vi cx.id,vi cx.dim,.slice xp xn xc] 61)::rowA lQ 195 ov acc::pt Y (bY #[ov,vb bk] 74)::pt N (bY #[.slice p rs.length c] 29)::pt J (bY #[.slice none 0 0,vb false] 74)::pt M (bY #[.slice pv D.length y] 29)::pt z (bY #[pp bx 0] 134)::n) t z bx Z ms _ bk cx.id (jU d<|(F.take k).map Cl.id) (Ch L _) (i+7) (j+7) 6 I C<|by rw[El];exact a1) dC (.inr<|by rintro v40 g2 _ ⟨a,b0,rfl,f⟩;exact⟨by assumption,(by exact .cons_cons _<|.cons_cons _<|.cons_cons _<|List.nil_sublist _)⟩) ?_;rintro v40 g2 _ ⟨a,b0,rfl,f⟩;obtain ⟨R,n2,d2,rfl,S,T⟩:=DG a0 L f;subst S;refine pU rfl (za3 rfl<|build195 _ _ _ _)<|mf rfl (bS sty70 rfl rfl rfl (ab sB) dC) dC (.inr<|by rintro _ _ _ ⟨b1,rfl,rfl,rfl⟩;exact⟨by assumption,(by exact .cons _<|.cons_cons _<|.cons_cons _<|.cons_cons _<|List.nil_sublist _)⟩) ?_;rintro _ _ _ ⟨b1,rfl,rfl,rfl⟩;refine mf I (aP (e:=lQ) 1 ⟨cx.id,⟨R,n2,d2⟩⟩ sty70 I I I I I oM oM) dC (.inl dC) ?_;rintro ov' _ _ ⟨rfl,rfl⟩;refine zd3 fun ⟨w0,U⟩=>?_;obtain ⟨q',d',rfl⟩:=ag (e:=lQ) (l:=acc++[⟨cx.id,⟨R,n2,d2⟩⟩]) (i:=1) U rfl;clear U w0;refine pU rfl (bj underlying74 rfl qR rfl)<|pU rfl (bj AC rfl un rfl)<|H8 rfl (oi 2 un rfl rfl rfl rfl (bE rfl)<|by rfl) (.inl dC) ?_;rintro _ _ _ ⟨rfl,rfl⟩;refine du<|bN<|tN<|rG<|yD I<|lM I<|cp<|dR (.cons _<|.refl _) ?_;exact ct (k+1,g2,_,acc++[⟨cx.id,⟨R,n2,d2⟩⟩]) sB I (by dsimp only;rw[Q,zg6];rfl) ⟨by dsimp only;omega,s.trans a,by
   dsimp only;rw[Q];exact (b.mono fun _ _=>ImS.mono a).append ⟨T,trivial⟩⟩ (by dsimp only;omega)
 ·have b7:F.take k=F:=tL oM;rw[b7] at b ⊢;refine xI (tX<|tX<|bX<|tN<|sQ<|fS fun g2 a V=>?_);obtain ⟨R,d2,rfl⟩:=zc3 V;refine SC.freezeRowsT (p:=pt Y (bY #[.slice R acc.length d2,vb bk] 74)::pt N (bY #[.slice p rs.length c] 29)::pt J (bY #[.slice none 0 0,vb false] 74)::pt M (bY #[.slice pv D.length y] 29)::pt z (bY #[pp bx 0] 134)::n) (q:=t) fun g3 m b8=>?_;refine rG<|lK (qV 0 gX bZ I I I)<|oZ (sK 2 bZ I I I I I sB)<|tZ<|rE ?_;have H:ay (ImR g3) (F.map fun c=>(c.id,Ir d c.id)) acc:=wv (fun c r hc hr=>ImS.done b8 hc<|hr.mono<|a.trans m) b;exact kn 2 (n++t) (.inl I) results89 I gX bZ I I uR ⟨I,s.trans<|a.trans m,_,I,acc,za5 V m,H⟩
abbrev edV (e:Ed)(sv pv:Value):Array Value:=#[vi e.kind,vi e.cell,vi e.dim,vi e.new,vi e.other,sv,pv]
def mn (A:List Cl)(e:Ed):List ak:=((ah A e.other).getD aJ).sides
def tq (A:List Cl)(e:Ed):Int:=if (ah A e.cell).isSome&&(ah A e.other).isSome then (if aG A e.cell=[e.other]∧¬ 0<(aG A e.other).length then 0 else 32) else 30
set_option maxHeartbeats 4000000
def Ha (l:List ak)(cell:Int):Int:=((l.find? fun x=>decide<|x.cell=cell).map ak.sign).getD 0
def xF (e:Ed)(y:Cl):Cl:=⟨y.id,y.dim,y.sides++[⟨e.other,Ha y.sides e.cell⟩]⟩
def gI (A:List Cl)(e:Ed)(ids:List Int):List Cl:=A.map fun y=>if y.id∈ids then xF e y else y
def lh (l:List ak)(b:Bool):ak:=(l.find? fun x=>decide (0<x.sign) == b).getD ⟨0,0⟩
def e6 (A:List Cl)(e:Ed):Int:=match ah A e.cell with
 | none=>30
 | some c=>if c.dim≠1 then 21 else if min e.new e.other<1∨e.new=e.other then 1 else if (ah A e.new).isSome||(ah A e.other).isSome then 54 else 0
def oe (A:List Cl)(e:Ed):List Cl :=
 mx (mx (mx (gI A e<|aG A e.cell) ⟨e.new,0,[]⟩) ⟨e.other,1,[⟨e.new,-1⟩,lh ((ah A e.cell).getD aJ).sides true]⟩) ⟨e.cell,1,[lh ((ah A e.cell).getD aJ).sides false,⟨e.new,1⟩]⟩
theorem Tryz.buildI61 (x:Int)(w:World):(Instr.build 61 #[(0,vi x)]).run Tryz.prog w = .ok (.agg #[vi x,vi 0,.slice none 0 0]) w:=by
 have a:(vi x).cells = #[vi x]:=rfl;simp[Instr.build,Instr.fill,a];rfl
instance:Inhabited ak:=⟨⟨0,0⟩⟩
def BS (x y:ak):Int:=orI [iI x.cell y.cell,iI x.sign y.sign]
theorem mQ (x y:ak):BS x y<0↔x.cell<y.cell∨(x.cell=y.cell∧x.sign<y.sign):=by
 unfold BS orI orI orI iI;split <;> split <;> (try split)<;>(try split)<;>simp_all <;> omega
def HN (l:List ak):Prop:=l.Pairwise fun x y=>¬ BS y x<0
theorem BG {l m:List ak}(hl:HN l)(hm:HN m)(hp:l.Perm m):l=m:=by
 refine hp.eq_of_pairwise (le:=fun x y=>¬ BS y x<0) (fun x y _ _ a b=>?_) hl hm;rw[mQ] at a b;obtain ⟨c,xs⟩:=x;obtain ⟨yc,d⟩:=y;dsimp only at a b;have e1:c=yc:=oM;have e2:xs=d:=oM;rw[e1,e2]
def lf (f:Int→Option Int)(x:ak):ak:=⟨(f x.cell).getD x.cell,x.sign⟩
end Go.Proofs.YtpmoadbbfobbcaaGreatDoor
namespace Go.Sy
open Go Go.MapKept
section
variable {P:Program}{N:Nat}{E:World}{f:Fr}{g:PH}{s:Own}{dst:Option Tmp}{ty:TypeId}{pos:String}{af:Array Edge}{gd:Option<|Nat×Bool}
variable {t kt et:TypeId}{m r clk:Nat}{es:Array MapEntry}{vis:List MapEntry}{x y u:Operand}{l vl:List<|Int×Value}{z:Value}{b:Nat}{k:Int}{v:Value}
def unK:Value→Option Int
 | .int .i64 n=>some n
 | _=>none
theorem Hf (a:Int):unK (vi a)=some a:=rfl
end
end Go.Sy
namespace Go.Proofs.YtpmoadbbfobbcaaGreatDoor
open _root_.Go.Proofs.Tryz _root_.Go.Proofs.YtpmoadbbfobbcaaGreatDoor.Tryz
open Go Go.Sy Go.Pl Go.Proofs
def GR (x y:ak):Bool:=decide<|¬ BS y x<0
def mu (l:List ak):List ak:=l.mergeSort GR
theorem jb (l:List ak):(mu l).Perm l:=List.mergeSort_perm l GR
theorem zF (l:List ak):HN<|mu l:=by
 have h:=List.pairwise_mergeSort (le:=GR) (fun a b c d e=>by
  unfold GR at *;rw[zj7,mQ] at *;omega) (fun a b=>by
  unfold GR;rw[zj5,zj7,zj7,mQ,mQ];omega) l
 refine List.Pairwise.imp ?_ h;intro a b d;exact zg4 d
section
variable {F:Cl→Cl}(hF:∀ y,(F y).id=y.id)
include hF
end
def qU (ps:List Pr):List Int:=ps.flatMap fun p=>[p.1,p.2]
theorem D0 (ps:List Pr)(p:Pr):qU (ps++[p])=qU ps++[p.1,p.2]:=by
 unfold qU;rw[H4];rfl
def AE (ps:List Pr):Bool:=decide<|¬ (qU ps).Nodup
def byF (ps:List Pr)(k:Int):Option Int:=(ps.find? fun p=>decide<|p.2=k).map Prod.fst
theorem uD {ps:List Pr}(h:(qU ps).Nodup):(ps.map Prod.snd).Nodup:=by
 induction ps with
 | nil=>simp
 | cons p ps ih =>
  have hc:qU (p::ps)=p.1::p.2::qU ps:=rfl;rw[hc,zk3,zk3] at h;rw[zg5,zk3];refine⟨fun hm=>h.2.1 ?_,ih h.2.2⟩;obtain ⟨q,hq,e⟩:=zf3.1 hm;unfold qU;rw[List.mem_flatMap];exact⟨q,hq,by simp[e]⟩
def repC (f:Int→Option Int)(c:Cl):Cl:=⟨c.id,c.dim,mu<|c.sides.map<|lf f⟩
def Eb (A:List Cl)(id:Int):Int:=((ah A id).getD aJ).dim
def xG (A:List Cl)(id:Int):List ak:=((ah A id).getD aJ).sides
def Cd (A:List Cl)(ps:List Pr)(p:Pr):Bool:=decide<|mu ((xG A p.1).map<|lf<|byF ps)=mu ((xG A p.2).map<|lf<|byF ps)
def jZ (A:List Cl)(e:Ed):Int :=
 if e.pairs.all (fun p=>(ah A p.1).isSome&&(ah A p.2).isSome) then
  if AE e.pairs then 54 else if e.pairs.any (fun p=>decide<|Eb A p.1≠Eb A p.2) then 21 else if e.pairs.all (Cd A e.pairs) then 0 else 33
 else 30
def um (A:List Cl)(ks:List Int):List Cl:=A.filter fun c=>!decide (c.id∈ks)
def ky (A:List Cl)(e:Ed):List Cl:=(um A<|e.pairs.map Prod.snd).map<|repC<|byF e.pairs
def tT (e:Ed)(k:Int):List Tm:=match byF e.pairs k with
 | some t=>[(t,1)]
 | none=>[(k,1)]
variable {A:List Cl}{k:Nat}
theorem Dd (hn:(A.map Cl.id).Nodup)(ks:List Int)(k:Int):BZ (um A ks) k=um A (ks++[k]):=by
 have a:((um A ks).map Cl.id).Nodup:=(List.filter_sublist.map Cl.id).nodup hn;rw[qM k a];unfold um;rw[List.filter_filter];refine List.filter_congr fun c _=>?_;by_cases b:c.id∈ks <;> by_cases d:c.id=k <;> simp[b,d]
set_option maxRecDepth 100000
set_option maxHeartbeats 8000000
set_option maxHeartbeats 4000000
variable (E:World)(g:PH)(s:Own)
theorem iX (v u:Value)(l m:List Int)(n:dA g v l)(o:dA g u m)(hl:l.length<1099511627776) :
  Ctr Tryz.prog E 16 #[v,u] g s fun r g' s'=>r=vb (decide<|l=m)∧g=g'∧s=s':=by
 obtain ⟨p,c,rfl⟩:=za4 n;obtain ⟨q,d,rfl⟩:=za4 o;refine zb2 (args:=[.slice p l.length c,.slice q m.length d]) func16 I ntmps16 (bE I)<|rZ<|aT I<|sQ<|sW I<|lU (eN aA I)<|lM I<|lU (eN aA I)<|lU (nQ I I)<|tZ<|iP I (fun a=>?_) (fun a=>?_)
 ·exact rZ<|aT I<|rE<|tR<|za8 (.inl I) results16 I ⟨by have:l≠m:=fun e=>a (by rw[e]);simp[this],I,I⟩
 ·refine kP<|tN<|sQ<|rZ<|aT I<|bK ?_;have b:l.length=m.length:=oM;refine oP (ι:=Nat) (fun k=>[(0,.slice p l.length c),(1,.slice q m.length d),(5,vi k)]) (fun _=>g) (fun _=>s) (fun k=>k≤l.length∧l.take k=m.take k) (fun k=>l.length - k) 0
   sB rfl rfl ⟨zf7 _,by simp⟩ ?_
  rintro k ⟨B,f⟩;refine sQ<|sW I<|lM I<|lU (eN aA I)<|yL I<|tZ<|iP I (fun t=>?_) (fun t=>?_)
  ·have i:k<l.length:=oM;have j:k<m.length:=oM;have w:=za6 n oM;have x:=za6 o oM;have y:l[((k:Nat):Int).toNat]?=some l[k]:=bd i;have z:m[((k:Nat):Int).toNat]?=some m[k]:=bd j;refine kP<|tN<|sQ<|bK<|sQ<|dW [] [(0,2),(1,2),(2,2),(3,1),(4,2),(5,2),(6,2),(7,1),(8,2)] ze4 kR<|yM I<|yM I<|pU I (iA aA zT3 I I w oM sL)<|gB I (eB iT3 I (za7 n) y I)<|yM I<|yM I<|pU I (iA aA zT3 I I x oM sL)<|gB I (eB iT3 I (za7 o) z I)<|pU I (nQ I I)<|du<|tN<|iP I (fun hd=>?_) (fun hd=>?_)
   ·exact rZ<|aT I<|rE<|bR<|tR<|tR<|bR<|tR<|za8 (.inl I) results16 I ⟨by have:l≠m:=fun e=>hd (by simp[e]);simp[this],I,I⟩
   ·exact kP<|bN<|tN<|rG<|lM I<|yD I<|lA I<|cp<|ct (k+1) sB I I ⟨oM,gL i j f<|zh1 hd⟩ oM
  ·refine xI<|tX<|tX<|bX<|tN<|rZ<|aT I<|rE ?_;have A:k=l.length:=oM;subst A;have:l=m:=iC b f;exact za8 (.inl I) results16 I ⟨by simp[this],I,I⟩
def cd (A:List Cl)(ks:List Int):List Cl:=A.filter fun c=>!decide (c.id∈ks)
theorem AV (a:k<A.length)(ks:List Int):cd (A.take<|k+1) ks=if A[k].id∈ks then cd (A.take k) ks else cd (A.take k) ks++[A[k]]:=by
 unfold cd;rw[tS a,zh7];by_cases h:A[k].id∈ks
 ·rw[zg2 h];simp[h]
 ·rw[zg1 h];simp[h]
theorem lr (v Z:Value)(l:List Cl)(ks:List Int)(hv:ai g v l)(hf:aM l)(P:dA g Z ks)(a2:ks.length<1099511627776) :
  Ctr Tryz.prog E 180 #[.agg #[v],Z] g s fun r g' s'=>g=g'∧∃ u rs,r = .agg #[u]∧ay (an g) (cd l ks) rs∧s'=rowA encCell 61 u rs::s:=by
 obtain ⟨rs,n,t⟩:=hv;have a0:=t.length;have a3:=hf.1;obtain ⟨p,c,rfl⟩:=za4 n;obtain ⟨q,d,rfl⟩:=za4 P;refine zb2 (args:=[.agg #[.slice p rs.length c],.slice q ks.length d]) func180 I ntmps180 (bE I)<|rZ (bW (bO I) fun L=>?_);refine bW (aL zl9) fun M=>tZ (rZ<|bW (aL zl9) fun N=>?_);refine tZ<|sQ<|rZ<|aT I<|bK<|zb6 61 3<|oP (ι:=Nat×Value×List Rc) (fun i=>[(1,.slice q ks.length d),(2,pp L 0),(4,pp M 0),(5,pp N 0),(6,vi i.1)]) (fun _=>g)
  (fun i=>rowA encCell 61 i.2.1 i.2.2::pt N (bY #[i.2.1] 29)::pt M (bY #[.slice none 0 0] 29)::pt L (bY #[.slice p rs.length c] 29)::s)
  (fun i=>i.1≤rs.length∧ay (an g) (cd (l.take i.1) ks) i.2.2) (fun i=>rs.length - i.1) (0,.slice none 0 0,[])
  sB rfl rfl ⟨zf7 _,by simp[cd,ay]⟩ ?_
 rintro ⟨k,O,acc⟩ ⟨hk,a⟩;dsimp only at hk a ⊢;have a4:=a.length;have a1:(cd (l.take k) ks).length≤l.length:=by
  have h1:=zc6 (fun c:Cl=>!decide (c.id∈ks))<|l.take k;rw[ze5] at h1;unfold cd;omega
 refine sQ<|sW I<|lU (bj dw I cg I)<|lK (qL (v:=.slice p rs.length c) ei I<|cO 3 I I)<|lU (eN aB I)<|yL I<|tZ<|iP I (fun Q=>?_) (fun Q=>?_)
 ·have B:k<rs.length:=oM;have w:k<l.length:=oM;have z:=za6 n oM;have C:=t.get (bd w)<|bd B;have D:rs[((k:Nat):Int).toNat]?=some rs[k]:=bd B;have b:=AV w ks;generalize rs[k]=x at *;generalize l[k]=cx at *;obtain ⟨xi,xd,R,S,T⟩:=x;have F:=C;obtain ⟨e1,e2,G⟩:=C;dsimp only at e1 e2 G;subst e1 e2;refine kP<|tN<|sQ<|bK<|rZ<|aT I<|sQ<|rZ<|aT I<|bK<|oP (ι:=Nat) (fun j=>[(1,.slice q ks.length d),(2,pp L 0),(4,pp M 0),(5,pp N 0),(6,vi k),(7,vb<|(ks.take j).any fun y=>decide<|cx.id=y),(8,vi j)]) (fun _=>g)
   (fun _=>rowA encCell 61 O acc::pt N (bY #[O] 29)::pt M (bY #[.slice none 0 0] 29)::pt L (bY #[.slice p rs.length c] 29)::s)
   (fun j=>j≤ks.length) (fun j=>ks.length - j) 0 sB rfl rfl (zf7 _) ?_
  rintro j hj;try dsimp only at hj ⊢
  refine sQ<|sW I<|lM I<|lU (eN aA I)<|yL I<|tZ<|iP I (fun H=>?_) (fun H=>?_)
  ·have J:j<ks.length:=oM;have U:=za6 P oM;have V:ks[((j:Nat):Int).toNat]?=some ks[j]:=bd J;have f:(ks.take<|j+1).any (fun y=>decide<|cx.id=y)=((ks.take j).any (fun y=>decide<|cx.id=y)||decide (cx.id=ks[j])):=by rw[tS J,List.any_append];simp
   generalize ks[j]=y at *;generalize (ks.take j).any (fun y=>decide<|cx.id=y)=bb at *;cases bb with
   | true =>
    exact kP<|tN<|sQ<|bK<|dW [] [(0,2),(1,2),(2,2),(3,1),(4,2),(5,2),(6,2),(7,1),(8,2),(9,2),(10,2),(11,1),(12,2),(13,2),(14,2)] ze4 kR<|yM I<|yM I<|yG I<|yI I<|yG I<|yG I<|yG I<|yI I<|yG I<|yG I<|yG I<|yI I<|yG I<|pU I (wT I I)<|pU I (aS I)<|du<|bN<|tN<|rG<|lM I<|yD I<|lA I<|cp<|ct (j+1) ⟨I,I,I,I,I,(by rw[f];rfl),rfl,trivial⟩ rfl rfl oM oM
   | false =>
    refine kP<|tN<|sQ<|bK<|dW [] [(0,2),(1,2),(2,2),(3,1),(4,2),(5,2),(6,2),(7,1),(8,2),(9,2),(10,2),(11,1),(12,2),(13,2),(14,2)] ze4 kR<|yM I<|yM I<|zb3 I (gT I I I dC) (bj dw I cg I) dC<|By I (gT I I I dC) (qL (v:=.slice p rs.length c) ei I<|cO 3 I I) dC<|yJ I<|zb3 I (gT I I I dC) (iA aB ar I I z oM (show (k:Int)<((rs.length:Nat):Int) by omega)) dC ?_;refine zb3 I (gT I I I dC) (fC ap I zT3 I z) dC<|By I (gT I I I dC) (aZ (e:=encCell) (o:=0) iT3 I (za7 n) D I) dC<|yJ I<|yJ I<|zb3 I (gT I I I dC) (iA aA zT3 I I U oM sL) dC<|By I (gT I I I dC) (eB iT3 I (za7 P) V I) dC<|zb3 I (gT I I I dC) (eQ I I) dC<|pU I (wF I I)<|pU I (aS I)<|du<|bN<|tN<|rG<|lM I<|yD I<|lA I<|cp ?_;exact ct (j+1) ⟨I,I,I,I,I,(by rw[f];rfl),rfl,trivial⟩ rfl rfl oM oM
  ·have W:ks.take j=ks:=tL oM;have f:(ks.any fun y=>decide<|cx.id=y)=decide (cx.id∈ks):=by
    rw[Bool.eq_iff_iff,zj9,zj7];exact⟨fun ⟨y,hy,he⟩=>by rw[zg4 he];exact hy,fun h=>⟨_,h,zf9 I⟩⟩
   rw[W,f];refine xI<|tX<|tX<|bX<|tN<|sW I<|lU (IN I)<|tZ<|iQ I (fun hg=>?_) (fun hg=>?_)
   ·have A:cx.id ∉ ks:=zg4 hg;rw[zg1 A] at b;refine dW [8,10] [(0,2),(1,1),(2,2),(3,1),(4,2),(5,2),(6,1),(7,0),(8,0),(9,2),(10,0)] ze4 kR<|pU I (bj dw I cg I)<|gB I (qL (v:=O) ei I<|cO 1 I I)<|pU I (bj dw I cg I)<|gB I (qL (v:=.slice p rs.length c) ei I<|cO 3 I I)<|yM I<|pU I (iA aB ar I I z oM (show (k:Int)<((rs.length:Nat):Int) by omega)) ?_;refine gB I (iN dT ar I (za7 n) D)<|mf I (bS sty27 I I I (ab sB) dC) dC (.inr iR) ?_;rintro _ _ _ ⟨a5,rfl,rfl,rfl⟩;refine mf I (aP (e:=encCell) 0 ⟨cx.id,cx.dim,⟨R,S,T⟩⟩ sty27 I I I I I oM oM) dC (.inl dC) ?_;rintro ov' _ _ ⟨rfl,rfl⟩;refine zd3 fun ⟨X,m⟩=>?_;obtain ⟨q',d',rfl⟩:=ag (e:=encCell) (l:=acc++[(⟨cx.id,cx.dim,⟨R,S,T⟩⟩:Rc)]) (i:=0) m rfl;clear m X;refine pU I (bj dw I cg I)<|H8 I (sK 1 cg I I I I I sB) (.inl dC) ?_;rintro _ _ _ ⟨rfl,rfl⟩;refine du<|bN<|tN<|rG<|lM I<|yD I<|lA I<|cp ?_;exact ct (k+1,_,acc++[(⟨cx.id,cx.dim,⟨R,S,T⟩⟩:Rc)]) sB I I ⟨by dsimp only;omega,by
     dsimp only;rw[b];exact a.append ⟨F,trivial⟩⟩ (by dsimp only;omega)
   ·have A:cx.id∈ks:=Decidable.not_not.1<|of_decide_eq_false hg;rw[zg2 A] at b;exact kP<|bN<|tN<|rG<|lM I<|yD I<|lA I<|cp<|ct (k+1,O,acc) sB I I ⟨by dsimp only;omega,by dsimp only;rw[b];exact a⟩ (by dsimp only;omega)
 ·have Y:l.take k=l:=tL oM;rw[Y] at a;refine xI<|tX<|tX<|bX<|tN<|sQ<|IT fun ⟨X,m⟩=>?_;obtain ⟨q2,d2,rfl⟩:=ag (i:=0) m rfl;clear m X;exact rG<|lK (qV 1 aj ae I I I)<|oZ (sK 2 ae I I I I I sB)<|tZ<|rE<|kn 2 _ (.inl I) results180 I aj ae I I (.cons_cons _<|.cons _<|.cons _<|.cons _<|.refl _) ⟨I,_,acc,I,a,I⟩
def dx (cell:Int)(ch:List Tm)(p:Int×List Tm):Int×List Tm:=if p.1=cell then (p.1,ch) else p
theorem jc (v R:Value)(l:List<|Int×List Tm)(cell:Int)(b:List Tm)(Y:Ims g v l)(hl:l.length<1099511627776)(hc:SlA fF g R b) :
  Ctr Tryz.prog E 182 #[.agg #[v],vi cell,R] g s fun r g' s'=>s=s'∧Le g g'∧∃ u,r = .agg #[u]∧Ims g' u (l.map<|dx cell b):=by
 obtain ⟨rs,w,n⟩:=Y;have S:=n.length;obtain ⟨p,c,rfl⟩:=za4 w;obtain ⟨q,d,rfl⟩:=za4 hc;refine zb2 (args:=[.agg #[.slice p rs.length c],vi cell,.slice q b.length d]) func182 I ntmps182 (bE I)<|rZ (bW (bO I) fun T=>?_);refine bW (aL zl8) fun U=>tZ (rZ<|bW (aL zl8) fun V=>?_);refine tZ<|sQ<|rZ<|aT I<|bK<|zb6 195 2<|oP (ι:=Nat×Value×List Im) (fun i=>[(1,vi cell),(2,.slice q b.length d),(3,pp T 0),(6,pp U 0),(7,pp V 0),(8,vi i.1)]) (fun _=>g)
  (fun i=>rowA lQ 195 i.2.1 i.2.2::pt V (bY #[i.2.1] 72)::pt U (bY #[.slice none 0 0] 72)::pt T (bY #[.slice p rs.length c] 72)::s)
  (fun i=>i.1≤rs.length∧ay (ImR g) ((l.take i.1).map<|dx cell b) i.2.2) (fun i=>rs.length - i.1) (0,.slice none 0 0,[])
  sB rfl rfl ⟨zf7 _,by simp[ay]⟩ ?_
 rintro ⟨k,W,acc⟩ ⟨Z,a⟩;dsimp only at Z a ⊢;have C:=a.length;rw[ze7,ze5] at C;refine sQ<|sW I<|lU (bj AC I un I)<|lK (qL (v:=.slice p rs.length c) isAgg70 I<|cO 3 I I)<|lU (eN underlying70 I)<|yL I<|tZ<|iP I (fun D=>?_) (fun D=>?_)
 ·have z:k<rs.length:=oM;have A:k<l.length:=oM;have F:=za6 w oM;have G:=n.get (bd A)<|bd z;have H:rs[((k:Nat):Int).toNat]?=some rs[k]:=bd z;have m:=pj (dx cell b) A;generalize rs[k]=x at *;generalize l[k]=cx at *;obtain ⟨f,J,K,L⟩:=x;obtain ⟨cc,M⟩:=cx;obtain ⟨X,o⟩:=G;dsimp only at X o;subst X;refine kP<|tN<|sQ<|bK<|rZ<|lU (bj AC I un I)<|lK (qL (v:=.slice p rs.length c) isAgg70 I<|cO 3 I I)<|lM I<|lU (iA underlying70 sizeOf195 I I F oM (show (k:Int)<((rs.length:Nat):Int) by omega))<|lK (iN isAgg195 sizeOf195 I (za7 w) H) (bW (aL zeroValue195) fun b9=>?_);refine oZ (sK 0 sizeOf195 I I I I I sB) ?_;refine tZ<|sQ<|rZ<|lU (bj underlying195 I zT3 I)<|lK (qL (v:=vi f) iT3 I<|cO 0 I I)<|lM I<|yE I<|tZ (iP I (fun N=>?_) fun N=>?_)
  ·have y:dx cell b (f,M)=(f,b):=zg2 N;rw[y] at m;refine rG<|lM rfl<|lU (bj underlying195 rfl sizeOf184 rfl)<|oZ (oi 0 sizeOf184 rfl rfl rfl rfl (bE rfl)<|by rfl) ?_;refine tZ<|rG<|lU (bj AC I un I)<|lK (qL (v:=W) isAgg70 I<|cO 2 I I)<|lK (qV 0 isAgg195 sizeOf195 I I I)<|lW (bS sty70 I I I (ab sB) dC) ?_;rintro _ _ _ ⟨O,rfl,rfl,rfl⟩;refine lW (aP (e:=lQ) 1 ⟨f,⟨q,b.length,d⟩⟩ sty70 I I I I I oM oM) ?_;rintro ov' _ _ ⟨rfl,rfl⟩;refine zd4 fun ⟨P,j⟩=>?_;obtain ⟨q',d',rfl⟩:=ag (e:=lQ) (l:=acc++[⟨f,⟨q,b.length,d⟩⟩]) (i:=1) j rfl;clear j P;refine lU (bj AC I un I)<|oZ (sK 2 un I I I I I sB) ?_;refine cp<|bN<|tN<|rG<|lM I<|yD I<|lA I<|cp<|dR (.cons _<|.refl _) ?_;exact ct (k+1,_,acc++[⟨f,⟨q,b.length,d⟩⟩]) sB I I ⟨by dsimp only;omega,by
    dsimp only;rw[m];exact a.append ⟨⟨I,hc⟩,trivial⟩⟩ (by dsimp only;omega)
  ·have y:dx cell b (f,M)=(f,M):=zg1 N;rw[y] at m;refine kP<|tN<|rG<|lU (bj AC I un I)<|lK (qL (v:=W) isAgg70 I<|cO 2 I I)<|lK (qV 0 isAgg195 sizeOf195 I I I)<|lW (bS sty70 I I I (ab sB) dC) ?_;rintro _ _ _ ⟨O,rfl,rfl,rfl⟩;refine lW (aP (e:=lQ) 1 ⟨f,⟨J,K,L⟩⟩ sty70 I I I I I oM oM) ?_;rintro ov' _ _ ⟨rfl,rfl⟩;refine zd4 fun ⟨P,j⟩=>?_;obtain ⟨q',d',rfl⟩:=ag (e:=lQ) (l:=acc++[⟨f,⟨J,K,L⟩⟩]) (i:=1) j rfl;clear j P;refine lU (bj AC I un I)<|oZ (sK 2 un I I I I I sB) ?_;refine cp<|bN<|tN<|rG<|lM I<|yD I<|lA I<|cp<|dR (.cons _<|.refl _) ?_;exact ct (k+1,_,acc++[⟨f,⟨J,K,L⟩⟩]) sB I I ⟨by dsimp only;omega,by
    dsimp only;rw[m];exact a.append ⟨⟨I,o⟩,trivial⟩⟩ (by dsimp only;omega)
 ·have Q:l.take k=l:=tL oM;rw[Q] at a;refine xI (tX<|tX<|bX<|tN<|sQ<|fS fun g2 t B=>?_);obtain ⟨q2,d2,rfl⟩:=zc3 B;exact rG<|lK (qV 0 isAgg72 qR I I I)<|oZ (sK 1 qR I I I I I sB)<|tZ<|rE<|kn 1 s (.inl I) results182 I isAgg72 qR I I uR ⟨I,t,_,I,acc,B,a.mono fun _ _=>ImR.mono t⟩
theorem ir (a:aM A)(ks:List Int):aM<|cd A ks:=⟨by
 have b:=zc6 (fun c:Cl=>!decide (c.id∈ks)) A;have d:=a.1;unfold cd;omega,fun c hc=>a.2 c (zh5.1 hc).1⟩
theorem Tryz.buildT74 (p:Option Addr)(n c:Nat)(b:Bool)(w:World):(Instr.build 74 #[(0,.agg #[.slice p n c]),(1,vb b)]).run Tryz.prog w = .ok (.agg #[.slice p n c,vb b]) w:=by
 have a:(Value.agg #[Value.slice p n c]).cells = #[.slice p n c]:=rfl;have d:(vb b).cells = #[vb b]:=rfl;simp[Instr.build,Instr.fill,a,d];rfl
theorem rK (v ev:Value)(l:List Cl)(e:Ed)(m:ai g v l)(x:aM l)(J:EdR g ev e)(code:Int)(b:code=if (findC l e.cell).isSome then (if 0<(aG l e.cell).length then 31 else 0) else 30) :
  Ctr Tryz.prog E 115 #[.agg #[v],ev] g s fun r g' s'=>s=s'∧Le g g'∧FV code (if code=0 then cd l [e.cell] else l) ((am<|cd l [e.cell]).map gW) (decide<|code=0) r g':=by
 obtain ⟨sv,pv,rfl,y,z⟩:=J;obtain ⟨sp,L,rfl⟩:=za4 y;obtain ⟨M,N,rfl⟩:=za4 z;obtain ⟨p,c,rfl⟩:=m.form;have A:=ir x [e.cell];refine zb2 (args:=[.agg #[.slice p l.length c],.agg #[vi e.kind,vi e.cell,vi e.dim,vi e.new,vi e.other,.slice sp e.sides.length L,.slice M e.pairs.length N]]) func115 I ntmps115 (bE I)<|rZ (bW (bO I) fun P=>?_);refine bW (bO I) fun Q=>bW (aL zl9) fun R=>bW (aL zl4) fun S=>aT I<|sQ<|rZ<|lK (qV 3 aj ae I I I)<|lU (bj aO I zT3 I)<|lK (qL iT3 I<|cO 2 I I)<|lW (bt call177 I<|dB E g _ _ l e.cell m x) ?_;rintro _ g1 _ ⟨rfl,rfl,d⟩;refine lU (oF I)<|tZ<|iQ I (fun hp=>?_) (fun hp=>?_)
 ·have hc:code=30:=by rw[b];rw[Bool.not_eq_true'] at hp;rw[hp];rfl
  subst hc;exact rZ<|lK (qV 3 aj ae I I I)<|lU (za3 I buildZ74)<|oZ (sK 1 ae I I I I I sB)<|oZ (sK 0 bZ I I I I I sB)<|aT I<|rE<|tR<|oR 1 0 s (.inl I) results115 I I I aj ae gX bZ I I I I uR ⟨I,d,_,_,_,_,I,m.mono d,fun h=>by cases h⟩
 rw[Bool.not_eq_false'] at hp;refine kP<|tN<|sQ<|rZ<|lK (qV 3 aj ae I I I)<|lU (bj aO I zT3 I)<|lK (qL iT3 I<|cO 2 I I)<|lW (bt call179 I<|dH E g1 _ _ l e.cell (m.mono d) x) ?_;rintro _ g2 _ ⟨rfl,n,B⟩;obtain ⟨T,U,rfl⟩:=za4 B;have a:=d.trans n;refine lU (eN aA I)<|lU (gR I I)<|tZ<|iP I (fun C=>?_) (fun C=>?_)
 ·have hc:code=31:=by rw[b,hp,zg2 rfl,zg2 oM]
  subst hc;exact rZ<|lK (qV 3 aj ae I I I)<|lU (za3 I buildZ74)<|oZ (sK 1 ae I I I I I sB)<|oZ (sK 0 bZ I I I I I sB)<|aT I<|rE<|tR<|oR 1 0 s (.inl I) results115 I I I aj ae gX bZ I I I I uR ⟨I,a,_,_,_,_,I,m.mono a,fun h=>by cases h⟩
 have hc:code=0:=by rw[b,hp,zg2 rfl,zg1 oM]
 subst hc;refine kP<|tN<|rZ<|lK (qV 3 aj ae I I I)<|lU (bj aO I zT3 I)<|lK (qL iT3 I<|cO 2 I I)<|lW (bS sty43 I I I (ab ⟨I,trivial⟩) dC) ?_;rintro _ _ _ ⟨D,rfl,rfl,rfl⟩;refine zb5 fun g3 i F=>?_;have G:dA g3 (.slice (some ⟨D,0,none⟩) 1 1) [e.cell]:=kb F rfl rfl;refine lW (bt call180 I<|lr E g3 _ _ _ l [e.cell] (m.mono<|a.trans i) x G dO) ?_;rintro _ _ _ ⟨rfl,V,q,rfl,f,rfl⟩;refine zd6 fun g4 j t=>?_;obtain ⟨O,d4,rfl⟩:=zc3 t;have H:=f.length;have u:ai g4 (.slice O q.length d4)<|cd l [e.cell]:=⟨q,t,f.mono fun _ _=>an.mono j⟩;refine bW (aL zl9) fun W=>oZ (sK 0 ae I I I I I sB)<|tZ<|sQ<|dW [4,5] [(0,1),(1,1),(2,0),(3,2),(4,0),(5,0),(6,2)] ze4 kR<|gB I (qV 0 aj ae I I I)<|gB I (qV 0 aj ae I I I)<|mf I (bt call178 I<|fZ E g4 _ _ (cd l [e.cell]) u A) dC (.inr iR) ?_;rintro _ g5 _ ⟨rfl,k,X,rfl,w⟩;obtain ⟨Y,Z,d5,rfl⟩:=w.form;refine pU I (za3 I<|buildT74 _ _ _ _)<|H8 I (sK 2 ae I I I I I sB) (.inl dC) ?_;rintro _ _ _ ⟨rfl,rfl⟩;refine H8 I (sK 1 bZ I I I I I sB) (.inl dC) ?_;rintro _ _ _ ⟨rfl,rfl⟩;exact pU I (aS I)<|du<|tN<|rE<|oR 2 1 s (.inl I) results115 I I I aj ae gX bZ I I I I uR ⟨I,a.trans<|i.trans<|j.trans k,_,_,_,_,I,u.mono k,fun _=>w⟩
def sgF (l:List ak)(cell:Int):Int:=l.foldl (fun a x=>if x.cell=cell then x.sign else a) 0
theorem EC {l:List ak}(a:k<l.length)(cell:Int):sgF (l.take<|k+1) cell=if l[k].cell=cell then l[k].sign else sgF (l.take k) cell:=by
 unfold sgF;rw[tS a,zj1];rfl
theorem Hj (l:List ak)(cell:Int)(h:∀ x∈l,x.sign=1∨x.sign = -1):sgF l cell=0∨sgF l cell=1∨sgF l cell = -1:=by
 unfold sgF;have:∀ (l:List ak) (a:Int),(∀ x∈l,x.sign=1∨x.sign = -1)→(a=0∨a=1∨a = -1)→(l.foldl (fun a x=>if x.cell=cell then x.sign else a) a=0∨l.foldl (fun a x=>if x.cell=cell then x.sign else a) a=1∨l.foldl (fun a x=>if x.cell=cell then x.sign else a) a = -1):=by
  intro l;induction l with
  | nil=>intro a _ h;exact h
  | cons x l ih =>
   intro a b c;rw[zi9];refine ih _ (fun y d=>b y<|by simp[d]) ?_;split
   ·exact .inr (b x<|by simp)
   ·exact c
 exact this l 0 h<|.inl I
def fY (l:List Cl)(e:Ed):List Tm:=((((findC l e.other).getD aJ).sides.filter fun x=>!decide (x.cell=e.cell))).map fun x=>(x.cell,-sgF ((findC l e.other).getD aJ).sides e.cell * x.sign)
def df (l:List Cl)(e:Ed):Int:=if (findC l e.other).isSome&&(findC l e.cell).isSome then (if aG l e.cell=[e.other]∧¬ 0<(aG l e.other).length then 0 else 32) else 30
theorem Fb {l:List ak}(a:k<l.length)(cell:Int):(l.take<|k+1).filter (fun x=>!decide (x.cell=cell))=if l[k].cell=cell then (l.take k).filter (fun x=>!decide (x.cell=cell)) else (l.take k).filter (fun x=>!decide (x.cell=cell))++[l[k]]:=by
 rw[tS a,zh7];by_cases h:l[k].cell=cell
 ·rw[zg2 h];simp[h]
 ·rw[zg1 h];simp[h]
theorem oE (v ev:Value)(l:List Cl)(e:Ed)(hv:ai g v l)(O:aM l)(he:EdR g ev e)(d1:∀ x∈((findC l e.other).getD aJ).sides,x.sign=1∨x.sign = -1)(h8:((findC l e.other).getD aJ).sides.length≤64) :
  Ctr Tryz.prog E 118 #[.agg #[v],ev] g s fun r g' s'=>s=s'∧Le g g'∧FV (df l e) (if df l e=0 then cd l [e.cell,e.other] else l) ((((am l).map gW).map<|dx e.cell<|fY l e).map<|dx e.other []) false r g':=by
 obtain ⟨sv,pv,rfl,e2,e4⟩:=he;obtain ⟨sp,sc,rfl⟩:=za4 e2;obtain ⟨pq,pc,rfl⟩:=za4 e4;obtain ⟨p,c,rfl⟩:=hv.form;have c0:(aG l e.cell).length<1099511627776:=Nat.lt_of_le_of_lt (by unfold aG;rw[ze7];exact zc6 _ _) (bG O).1;refine zb2 (args:=[.agg #[.slice p l.length c],.agg #[vi e.kind,vi e.cell,vi e.dim,vi e.new,vi e.other,.slice sp e.sides.length sc,.slice pq e.pairs.length pc]]) func118 I ntmps118 (bE I) ?_;have i0:(findC l e.other).isSome=true→∃ cy,findC l e.other=some cy:=fun h=>zh9.1 h;cases ho:(findC l e.other).isSome with
 | false =>
  have j:df l e=30:=by unfold df;rw[ho];rfl
  rw[j];refine rZ (bW (bO I) fun b2=>?_);refine bW (bO I) fun b3=>bW (aL zl9) fun b4=>bW (aL zl4) fun b5=>aT I<|rZ<|lK (qV 3 aj ae I I I)<|lU (bj aO I zT3 I)<|lK (qL iT3 I<|cO 2 I I)<|lW (bt call42 I<|aK E g _ _ l e.other hv O) ?_;rintro _ g1 _ ⟨rfl,y,⟨yi,yd,Y,yn,yc⟩,rfl,a1⟩;obtain ⟨a2,a3,H⟩:=a1;dsimp only at a2 a3 H;have a4:yn=((findC l e.other).getD aJ).sides.length:=zc2 H;subst a4;have P:=hv.mono y;rw[ho];refine lM I (yX I<|yX I<|bW (aL zl6) fun b7=>?_);exact oZ (sK 0 ar I I I I I sB)<|aT I<|sQ<|sW I<|lU (oF I)<|lM I<|yA I<|yA I<|yA I<|yA I<|yA I<|yP I<|tZ<|za2 I<|rZ<|lK (qV 4 aj ae I I I)<|lU (za3 I buildZ74)<|oZ (sK 2 ae I I I I I sB)<|oZ (sK 1 bZ I I I I I sB)<|aT I<|rE<|tR<|oR 2 1 s (.inl I) results118 I I I aj ae gX bZ I I I I uR ⟨I,y,_,_,_,_,I,P,fun h=>by cases h⟩
 | true =>
 cases a5:(findC l e.cell).isSome with
 | false =>
  have j:df l e=30:=by unfold df;rw[ho,a5];rfl
  rw[j];refine rZ (bW (bO I) fun b2=>?_);refine bW (bO I) fun b3=>bW (aL zl9) fun b4=>bW (aL zl4) fun b5=>aT I<|rZ<|lK (qV 3 aj ae I I I)<|lU (bj aO I zT3 I)<|lK (qL iT3 I<|cO 2 I I)<|lW (bt call42 I<|aK E g _ _ l e.other hv O) ?_;rintro _ g1 _ ⟨rfl,y,⟨yi,yd,Y,yn,yc⟩,rfl,a1⟩;obtain ⟨a2,a3,H⟩:=a1;dsimp only at a2 a3 H;have a4:yn=((findC l e.other).getD aJ).sides.length:=zc2 H;subst a4;have P:=hv.mono y;rw[ho];refine lM I (yX I<|yX I<|bW (aL zl6) fun b7=>?_);refine oZ (sK 0 ar I I I I I sB)<|aT I<|sQ<|sW I<|lU (oF I)<|lM I<|lR (gT I I I dC) (qV 4 aj ae I I I) dC<|lY I I I (bj aO I zT3 I)<|lR (gT I I I dC) (qL (v:=vi e.cell) iT3 I<|cO 3 I I) dC<|IQ (gT I I I dC) (bt call177 I<|dB E g1 _ _ l e.cell P O) dC ?_;rintro _ g2 _ ⟨rfl,rfl,G⟩;rw[a5];exact lY I I I (oF I)<|yF I<|tZ<|za2 I<|rZ<|lK (qV 4 aj ae I I I)<|lU (za3 I buildZ74)<|oZ (sK 2 ae I I I I I sB)<|oZ (sK 1 bZ I I I I I sB)<|aT I<|rE<|tR<|oR 2 1 s (.inl I) results118 I I I aj ae gX bZ I I I I uR ⟨I,y.trans G,_,_,_,_,I,P.mono G,fun h=>by cases h⟩
 | true =>
 refine rZ (bW (bO I) fun b2=>?_);refine bW (bO I) fun b3=>bW (aL zl9) fun b4=>bW (aL zl4) fun b5=>aT I<|rZ<|lK (qV 3 aj ae I I I)<|lU (bj aO I zT3 I)<|lK (qL iT3 I<|cO 2 I I)<|lW (bt call42 I<|aK E g _ _ l e.other hv O) ?_;rintro _ g1 _ ⟨rfl,y,⟨yi,yd,Y,yn,yc⟩,rfl,a1⟩;obtain ⟨a2,a3,H⟩:=a1;dsimp only at a2 a3 H;have a4:yn=((findC l e.other).getD aJ).sides.length:=zc2 H;subst a4;have P:=hv.mono y;rw[ho];refine lM I (yX I<|yX I<|bW (aL zl6) fun b7=>?_);refine oZ (sK 0 ar I I I I I sB)<|aT I<|sQ<|sW I<|lU (oF I)<|lM I<|lR (gT I I I dC) (qV 4 aj ae I I I) dC<|lY I I I (bj aO I zT3 I)<|lR (gT I I I dC) (qL (v:=vi e.cell) iT3 I<|cO 3 I I) dC<|IQ (gT I I I dC) (bt call177 I<|dB E g1 _ _ l e.cell P O) dC ?_;rintro _ g2 _ ⟨rfl,rfl,G⟩;rw[a5];refine lY I I I (oF I)<|yF I<|tZ<|za1 I<|kP<|tN<|sQ ?_;have Q:=P.mono G;have d2:=za5 H G;have c6:=y.trans G;refine lu (ι:=PH) (fun _=>[(2,pp b2 0),(3,pp b3 0),(4,pp b4 0),(5,pp b5 0),(7,pp b7 0),(48,vb<|!decide (aG l e.cell=[e.other])||decide (0<(aG l e.other).length))]) (fun g'=>g') (fun _=>pt b7 (bY #[vi yi,vi yd,.slice Y ((findC l e.other).getD aJ).sides.length yc] 61)::pt b5 (bY #[.slice none 0 0,vb false] 74)::pt b4 (bY #[.slice none 0 0] 29)::pt b3 (.cells (edV e (.slice sp e.sides.length sc)<|.slice pq e.pairs.length pc) 48 (0,0))::pt b2 (bY #[.slice p l.length c] 29)::s) (fun g'=>Le g2 g') ?_ ?_
 ·by_cases J:aG l e.cell=[e.other]
  ·refine C1 [] ze4 kR ?_;refine Ie (i:=0) I kR (qV 4 aj ae I I I) dC<|iO (i:=1) I kR (bj aO I zT3 I) dC<|Ie (i:=2) I kR (qL (v:=vi e.cell) iT3 I<|cO 3 I I) dC<|iO (i:=4) I kR (bj aO I zT3 I) dC<|Ie (i:=5) I kR (qL (v:=vi e.other) iT3 I<|cO 3 I I) dC ?_
   repeat' (first
    | (refine SB.o (i:=3) rfl (bt call179 rfl<|dH E _ _ _ l e.cell (by exact Q.mono<|by assumption) O) dC (.inr<|by rintro v35 g3 _ ⟨rfl,a,z⟩;exact⟨by exact kc io io,(by exact .refl _)⟩) ?_;rintro v35 g3 _ ⟨rfl,a,z⟩;first | have f:=b.trans a | skip)
    | (refine SB.o (i:=3) rfl (bt call179 rfl<|dH E _ _ _ l e.cell (by exact Q) O) dC (.inr<|by rintro v35 g3 _ ⟨rfl,a,z⟩;exact⟨by assumption,(by exact .refl _)⟩) ?_;rintro v35 g3 _ ⟨rfl,a,z⟩;first | have f:=b.trans a | skip)
    | (refine SB.o (i:=6) rfl (bS sty43 rfl rfl rfl (ab ⟨rfl,trivial⟩) dC) dC (.inr<|by rintro _ _ _ ⟨R,rfl,rfl,rfl⟩;exact⟨by exact zb9 _,(by exact .cons _<|.refl _)⟩) ?_;rintro _ _ _ ⟨R,rfl,rfl,rfl⟩;refine I9 (fun w hw=>Ig (e:=encInt) (l:=[e.other]) (n:=0) hw I I dC) ?_;refine Ic fun g4 b T=>?_;first | have f:=a.trans b | skip)
    | (refine SB.o (i:=6) rfl (bS sty43 rfl rfl rfl (ab ⟨rfl,trivial⟩) dC) dC (.inr<|by rintro _ _ _ ⟨R,rfl,rfl,rfl⟩;exact⟨by assumption,(by exact .cons _<|.refl _)⟩) ?_;rintro _ _ _ ⟨R,rfl,rfl,rfl⟩;refine I9 (fun w hw=>Ig (e:=encInt) (l:=[e.other]) (n:=0) hw I I dC) ?_;refine Ic fun g4 b T=>?_;first | have f:=a.trans b | skip)
    | (refine SB.o (i:=7) rfl (bt call16 rfl<|iX E _ _ _ _ (aG l e.cell) [e.other] (by exact za5 z<|by assumption) (by exact T) c0) dC (.inr<|by rintro _ _ _ ⟨rfl,rfl,rfl⟩;exact⟨by assumption,(by exact .refl _)⟩) ?_;rintro _ _ _ ⟨rfl,rfl,rfl⟩;refine iO (i:=8) I kD (SU.eq (v':=vb false) (oF I)<|ze3 vb<|by rw[zf9 J];rfl) dC ?_;refine iO (i:=9) I kD (mV I) dC ?_;refine SX.gq (i:=10) I kD (gT I I I dC) (qV 4 aj ae I I I) dC ?_;refine SX.gu (i:=11) I kD (gT I I I dC) (bj aO I zT3 I) dC ?_;refine SX.gq (i:=12) I kD (gT I I I dC) (qL (v:=vi e.other) iT3 I<|cO 3 I I) dC ?_)
    | (refine SB.o (i:=7) rfl (bt call16 rfl<|iX E _ _ _ _ (aG l e.cell) [e.other] (by exact z) (by exact za5 T<|by assumption) c0) dC (.inr<|by rintro _ _ _ ⟨rfl,rfl,rfl⟩;exact⟨by assumption,(by exact .refl _)⟩) ?_;rintro _ _ _ ⟨rfl,rfl,rfl⟩;refine iO (i:=8) I kD (SU.eq (v':=vb false) (oF I)<|ze3 vb<|by rw[zf9 J];rfl) dC ?_;refine iO (i:=9) I kD (mV I) dC ?_;refine SX.gq (i:=10) I kD (gT I I I dC) (qV 4 aj ae I I I) dC ?_;refine SX.gu (i:=11) I kD (gT I I I dC) (bj aO I zT3 I) dC ?_;refine SX.gq (i:=12) I kD (gT I I I dC) (qL (v:=vi e.other) iT3 I<|cO 3 I I) dC ?_)
    | (refine SB.go (i:=13) rfl (gT rfl rfl rfl dC) (bt call179 rfl<|dH E _ _ _ l e.other (Q.mono f) O) dC (.inr<|by rintro v45 g5 _ ⟨rfl,A,d3⟩;exact⟨by exact kc io io,(by exact .refl _)⟩) ?_;rintro v45 g5 _ ⟨rfl,A,d3⟩;obtain ⟨q5,d5,rfl⟩:=za4 d3;have d4:=f.trans A;refine SX.gu (i:=14) I kD (gT I I I dC) (eN aA I) dC ?_;refine SX.gu (i:=15) I kD (gT I I I dC) (SU.eq (v':=vb<|decide<|0<(aG l e.other).length) (gR I I)<|ze3 vb<|by simp only[gt_iff_lt,Int.natCast_pos]) dC ?_;refine iO (i:=16) I kD (wF I I) dC ?_)
    | refine zd8 3 6 kD ?_ ?_
    | refine zd7 6 kD ?_
    | refine zd7 7 kD ?_
    | refine zd7 13 kD ?_
    | refine zd7 3 kD ?_
    | (refine H5 kD ?_;exact za9 _ ⟨I,I,I,I,I,(by rw[zf9 J];rfl),trivial⟩ rfl rfl d4))
  ·refine C1 [] ze4 kR ?_;refine Ie (i:=0) I kR (qV 4 aj ae I I I) dC<|iO (i:=1) I kR (bj aO I zT3 I) dC<|Ie (i:=2) I kR (qL (v:=vi e.cell) iT3 I<|cO 3 I I) dC<|iO (i:=4) I kR (bj aO I zT3 I) dC<|Ie (i:=5) I kR (qL (v:=vi e.other) iT3 I<|cO 3 I I) dC ?_
   repeat' (first
    | (refine SB.o (i:=3) rfl (bt call179 rfl<|dH E _ _ _ l e.cell (by exact Q.mono<|by assumption) O) dC (.inr<|by rintro v35 g3 _ ⟨rfl,a,z⟩;exact⟨by exact kc io io,(by exact .refl _)⟩) ?_;rintro v35 g3 _ ⟨rfl,a,z⟩;first | have f:=b.trans a | skip)
    | (refine SB.o (i:=3) rfl (bt call179 rfl<|dH E _ _ _ l e.cell (by exact Q) O) dC (.inr<|by rintro v35 g3 _ ⟨rfl,a,z⟩;exact⟨by assumption,(by exact .refl _)⟩) ?_;rintro v35 g3 _ ⟨rfl,a,z⟩;first | have f:=b.trans a | skip)
    | (refine SB.o (i:=6) rfl (bS sty43 rfl rfl rfl (ab ⟨rfl,trivial⟩) dC) dC (.inr<|by rintro _ _ _ ⟨R,rfl,rfl,rfl⟩;exact⟨by exact zb9 _,(by exact .cons _<|.refl _)⟩) ?_;rintro _ _ _ ⟨R,rfl,rfl,rfl⟩;refine I9 (fun w hw=>Ig (e:=encInt) (l:=[e.other]) (n:=0) hw I I dC) ?_;refine Ic fun g4 b T=>?_;first | have f:=a.trans b | skip)
    | (refine SB.o (i:=6) rfl (bS sty43 rfl rfl rfl (ab ⟨rfl,trivial⟩) dC) dC (.inr<|by rintro _ _ _ ⟨R,rfl,rfl,rfl⟩;exact⟨by assumption,(by exact .cons _<|.refl _)⟩) ?_;rintro _ _ _ ⟨R,rfl,rfl,rfl⟩;refine I9 (fun w hw=>Ig (e:=encInt) (l:=[e.other]) (n:=0) hw I I dC) ?_;refine Ic fun g4 b T=>?_;first | have f:=a.trans b | skip)
    | (refine SB.o (i:=7) rfl (bt call16 rfl<|iX E _ _ _ _ (aG l e.cell) [e.other] (by exact za5 z<|by assumption) (by exact T) c0) dC (.inr<|by rintro _ _ _ ⟨rfl,rfl,rfl⟩;exact⟨by assumption,(by exact .refl _)⟩) ?_;rintro _ _ _ ⟨rfl,rfl,rfl⟩;refine iO (i:=8) I kD (SU.eq (v':=vb true) (oF I)<|ze3 vb<|by rw[zf8 J];rfl) dC ?_;refine iO (i:=9) I kD (mV I) dC ?_;refine SX.off (i:=10) I kD (gZ I I I dC) dC ?_;refine SX.off (i:=11) I kD (gZ I I I dC) dC ?_;refine SX.off (i:=12) I kD (gZ I I I dC) dC ?_)
    | (refine SB.o (i:=7) rfl (bt call16 rfl<|iX E _ _ _ _ (aG l e.cell) [e.other] (by exact z) (by exact za5 T<|by assumption) c0) dC (.inr<|by rintro _ _ _ ⟨rfl,rfl,rfl⟩;exact⟨by assumption,(by exact .refl _)⟩) ?_;rintro _ _ _ ⟨rfl,rfl,rfl⟩;refine iO (i:=8) I kD (SU.eq (v':=vb true) (oF I)<|ze3 vb<|by rw[zf8 J];rfl) dC ?_;refine iO (i:=9) I kD (mV I) dC ?_;refine SX.off (i:=10) I kD (gZ I I I dC) dC ?_;refine SX.off (i:=11) I kD (gZ I I I dC) dC ?_;refine SX.off (i:=12) I kD (gZ I I I dC) dC ?_)
    | (refine SB.offo (i:=13) I (gZ I I I dC) dC ⟨by assumption,(by exact .refl _)⟩ ?_;refine SX.off (i:=14) I kD (gZ I I I dC) dC ?_;refine SX.off (i:=15) I kD (gZ I I I dC) dC ?_;refine iO (i:=16) I kD (wT I I) dC ?_)
    | refine zd8 3 6 kD ?_ ?_
    | refine zd7 6 kD ?_
    | refine zd7 7 kD ?_
    | refine zd7 13 kD ?_
    | refine zd7 3 kD ?_
    | (refine H5 kD ?_;exact za9 _ ⟨I,I,I,I,I,(by rw[zf8 J];rfl),trivial⟩ rfl rfl f))
 rintro g3 a;try dsimp only at a ⊢
 have a9:=c6.trans a;refine iQ I (fun B=>?_) (fun B=>?_)
 ·have j:df l e=32:=by
   unfold df;rw[ho,a5,Bool.and_true,zg2 rfl,zg1];rintro ⟨h1,h2⟩;rw[zf9 h1,zf8 h2] at B;cases B
  rw[j];exact rZ<|lK (qV 4 aj ae I I I)<|lU (za3 I buildZ74)<|oZ (sK 2 ae I I I I I sB)<|oZ (sK 1 bZ I I I I I sB)<|aT I<|rE<|tR<|oR 2 1 s (.inl I) results118 I I I aj ae gX bZ I I I I uR ⟨I,a9,_,_,_,_,I,Q.mono a,fun h=>by cases h⟩
 rw[Bool.or_eq_false_iff,Bool.not_eq_false',zj7,hP] at B;obtain ⟨J,e9⟩:=B;have j:df l e=0:=by
  unfold df;rw[ho,a5,Bool.and_true,zg2 rfl,zg2 ⟨J,e9⟩]
 rw[j];have f7:fY l e=((((findC l e.other).getD aJ).sides.filter fun x=>!decide (x.cell=e.cell))).map fun x=>(x.cell,-sgF ((findC l e.other).getD aJ).sides e.cell * x.sign):=rfl;rw[f7];have L:=za5 d2 a;have f8:=Q.mono a;generalize hS:((findC l e.other).getD aJ).sides=S at *;refine kP<|tN<|rZ<|aT I<|sQ<|rZ<|aT I<|bK<|oP (ι:=Nat) (fun k=>[(2,pp b2 0),(3,pp b3 0),(4,pp b4 0),(5,pp b5 0),(7,pp b7 0),(9,vi<|sgF (S.take k) e.cell),(10,vi k)]) (fun _=>g3) (fun _=>pt b7 (bY #[vi yi,vi yd,.slice Y S.length yc] 61)::pt b5 (bY #[.slice none 0 0,vb false] 74)::pt b4 (bY #[.slice none 0 0] 29)::pt b3 (.cells (edV e (.slice sp e.sides.length sc)<|.slice pq e.pairs.length pc) 48 (0,0))::pt b2 (bY #[.slice p l.length c] 29)::s)
  (fun k=>k≤S.length) (fun k=>S.length - k) 0 sB rfl rfl (zf7 _) ?_
 rintro k hk;try dsimp only at hk ⊢
 refine sQ<|sW I<|lU (bj ap I aI I)<|lK (qL (v:=.slice Y S.length yc) bg I<|cO 0 I I)<|lU (eN aW I)<|yL I<|tZ<|iP I (fun c1=>?_) (fun c1=>?_)
 ·have Z:k<S.length:=oM;have C:=za6 L oM;have a0:S[((k:Nat):Int).toNat]?=some S[k]:=bd Z;have d:=EC Z e.cell;generalize S[k]=x at *;obtain ⟨xc,xs⟩:=x;dsimp only at d;refine kP<|tN<|sQ<|bK<|sQ<|dW [] [(0,2),(1,1),(2,2),(3,2),(4,2),(5,1),(6,2),(7,1),(8,2)] ze4 kR<|pU I (bj ap I aI I)<|gB I (qL (v:=.slice Y S.length yc) bg I<|cO 0 I I)<|yM I<|pU I (iA aW aV I I C oM sL)<|pU I (fC dh I zT3 I C)<|gB I (aZ (e:=encSide) (o:=0) (u:=vi xc) iT3 I (za7 L) a0 I)<|pU I (bj aO I zT3 I)<|gB I (qL (v:=vi e.cell) iT3 I<|cO 3 I I)<|pU I (eQ I I)<|du<|tN<|iP I (fun hx=>?_) (fun hx=>?_)
  ·rw[zg2 hx] at d;exact rG<|lU (bj ap I aI I)<|lK (qL (v:=.slice Y S.length yc) bg I<|cO 0 I I)<|lM I<|lU (iA aW aV I I C oM sL)<|lU (fC dh I zT3 I C)<|lK (aZ (e:=encSide) (o:=1) (u:=vi xs) iT3 I (za7 L) a0 I)<|lA I<|cp<|bN<|tN<|rG<|lM I<|yD I<|lA I<|cp<|ct (k+1) ⟨I,I,I,I,I,(by rw[d];rfl),rfl,trivial⟩ rfl rfl oM oM
  ·rw[zg1 hx] at d;exact kP<|bN<|tN<|rG<|lM I<|yD I<|lA I<|cp<|ct (k+1) ⟨I,I,I,I,I,(by rw[d];rfl),rfl,trivial⟩ rfl rfl oM oM
 have c2:S.take k=S:=tL oM;rw[c2];have b0:=Hj S e.cell d1;generalize sgF S e.cell=sg at *;have d9:IntKind.i64.wrap (0 - sg) = -sg:=by rcases b0 with h | h | h <;> subst h <;> decide
 clear hk c1 c2;refine xI<|tX<|tX<|bX<|tN<|rZ<|aT I<|sQ<|rZ<|aT I<|bK<|zb6 189 3<|oP (ι:=Nat×PH×Value) (fun i=>[(2,pp b2 0),(3,pp b3 0),(4,pp b4 0),(5,pp b5 0),(7,pp b7 0),(9,vi sg),(11,i.2.2),(12,vi i.1)]) (fun i=>i.2.1) (fun i=>rowA fF 189 i.2.2 (((S.take i.1).filter fun x=>!decide (x.cell=e.cell)).map fun x=>(x.cell,-sg * x.sign))::pt b7 (bY #[vi yi,vi yd,.slice Y S.length yc] 61)::pt b5 (bY #[.slice none 0 0,vb false] 74)::pt b4 (bY #[.slice none 0 0] 29)::pt b3 (.cells (edV e (.slice sp e.sides.length sc)<|.slice pq e.pairs.length pc) 48 (0,0))::pt b2 (bY #[.slice p l.length c] 29)::s)
  (fun i=>i.1≤S.length∧Le g3 i.2.1) (fun i=>S.length - i.1) (0,g3,.slice none 0 0) sB rfl rfl ⟨zf7 _,zb9 _⟩ ?_
 rintro ⟨k,g4,w⟩ ⟨hk,b⟩;dsimp only at hk b ⊢;refine sQ<|sW I<|lU (bj ap I aI I)<|lK (qL (v:=.slice Y S.length yc) bg I<|cO 1 I I)<|lU (eN aW I)<|yL I<|tZ<|iP I (fun c1=>?_) (fun c1=>?_)
 ·have Z:k<S.length:=oM;have b1:=za5 L b;have C:=za6 L oM;have a0:S[((k:Nat):Int).toNat]?=some S[k]:=bd Z;have c7:=d1 _<|gM Z;have d:=Fb Z e.cell;have i1:(((S.take k).filter fun x=>!decide (x.cell=e.cell)).map fun x=>(x.cell,-sg * x.sign)).length≤64:=by
   rw[ze7];have:=zc6 (fun x:ak=>!decide (x.cell=e.cell))<|S.take k;rw[ze5] at this;omega
  generalize S[k]=x at *;obtain ⟨xc,xs⟩:=x;dsimp only at d c7;have h0 : -9223372036854775808 ≤ -sg * xs ∧ -sg * xs≤9223372036854775807:=by rcases b0 with h | h | h <;> rcases c7 with h' | h' <;> subst h <;> subst h' <;> decide
  have h3 : -sg * xs=0 ∨ -sg * xs=1 ∨ -sg * xs = -1:=by rcases b0 with h | h | h <;> rcases c7 with h' | h' <;> subst h <;> subst h' <;> decide
  refine kP<|tN<|sQ<|bK<|sQ<|dW [] [(0,2),(1,1),(2,2),(3,2),(4,2),(5,1),(6,2),(7,1),(8,2)] ze4 kR<|pU I (bj ap I aI I)<|gB I (qL (v:=.slice Y S.length yc) bg I<|cO 1 I I)<|yM I<|pU I (iA aW aV I I C oM sL)<|pU I (fC dh I zT3 I C)<|gB I (aZ (e:=encSide) (o:=0) (u:=vi xc) iT3 I (za7 b1) a0 I)<|pU I (bj aO I zT3 I)<|gB I (qL (v:=vi e.cell) iT3 I<|cO 4 I I)<|pU I (nQ I I)<|du<|tN<|iP I (fun hx=>?_) (fun hx=>?_)
  ·rw[zg1 hx] at d;refine dW [18] [(0,2),(1,2),(2,1),(3,2),(4,2),(5,2),(6,1),(7,2),(8,2),(9,2),(10,1),(11,2),(12,2),(13,2),(14,1),(15,2),(16,0),(17,0),(18,0),(19,2)] ze4 kR<|yM I<|pU I (bj ap I aI I)<|gB I (qL (v:=.slice Y S.length yc) bg I<|cO 1 I I)<|yM I<|pU I (iA aW aV I I C oM sL)<|pU I (fC dh I zT3 I C)<|gB I (aZ (e:=encSide) (o:=0) (u:=vi xc) iT3 I (za7 b1) a0 I)<|yM I<|pU I (SU.eq (v':=vi<|-sg) (SU.neg I)<|ze3 vi d9)<|pU I (bj ap I aI I)<|gB I (qL (v:=.slice Y S.length yc) bg I<|cO 1 I I)<|yM I<|pU I (iA aW aV I I C oM sL)<|pU I (fC dh I zT3 I C)<|gB I (aZ (e:=encSide) (o:=1) (u:=vi xs) iT3 I (za7 b1) a0 I)<|pU I (Iz I I h0)<|mf I (bt call181 I<|eS E g4 _ xc (-sg * xs) h3) dC (.inr iR) ?_;rintro _ g5 _ ⟨rfl,rfl,A⟩;refine mf I (bS sty184 I I I (ab ⟨I,trivial⟩) dC) dC (.inr iR) ?_;rintro _ _ _ ⟨h9,rfl,rfl,rfl⟩;refine mf I (aP (e:=fF) 0 (xc,-sg * xs) sty184 I I I I I oM oM) dC (.inl dC) ?_;rintro w' _ _ ⟨rfl,rfl⟩;exact pU I (aS I)<|du<|bN<|tN<|rG<|lM I<|yD I<|lA I<|cp<|ct (k+1,g5,w') sB I (by dsimp only;rw[d,zg6];rfl) ⟨by dsimp only;omega,b.trans A⟩ (by dsimp only;omega)
  ·rw[zg2<|Decidable.not_not.1 hx] at d;exact kP<|bN<|tN<|rG<|lM I<|yD I<|lA I<|cp<|ct (k+1,g4,w) sB I (by dsimp only;rw[d]) ⟨by dsimp only;omega,b⟩ (by dsimp only;omega)
 have c2:S.take k=S:=tL oM;rw[c2];have h4:=f8.mono b;have c3:((am l).map gW).length<1099511627776:=by rw[ze7];exact (bG O).1
 have i2:=ir O [e.cell,e.other];refine xI (tX<|tX<|bX<|tN<|fS fun g5 A c9=>?_);obtain ⟨wq,wd,rfl⟩:=zc3 c9;have d0:=h4.mono A;refine lu (ι:=Nat×PH×Option Addr×Nat×Nat) (fun i=>[(2,pp b2 0),(3,pp b3 0),(4,pp b4 0),(5,pp b5 0),(13,pp i.1 0)]) (fun i=>i.2.1) (fun i=>pt i.1 (bY #[.slice i.2.2.1 i.2.2.2.1 i.2.2.2.2] 72)::pt b7 (bY #[vi yi,vi yd,.slice Y S.length yc] 61)::pt b5 (bY #[.slice none 0 0,vb false] 74)::pt b4 (bY #[.slice none 0 0] 29)::pt b3 (.cells (edV e (.slice sp e.sides.length sc)<|.slice pq e.pairs.length pc) 48 (0,0))::pt b2 (bY #[.slice p l.length c] 29)::s)
  (fun i=>Le g5 i.2.1∧Ims i.2.1 (.slice i.2.2.1 i.2.2.2.1 i.2.2.2.2) ((((am l).map gW).map<|dx e.cell<|((S.filter fun x=>!decide (x.cell=e.cell))).map fun x=>(x.cell,-sg * x.sign)).map<|dx e.other [])) ?_ ?_
 ·refine C1 [10] ze4 kR ?_;refine Ie (i:=0) I kR (qV 4 aj ae I I I) dC<|iO (i:=2) I kR (bj aO I zT3 I) dC<|Ie (i:=3) I kR (qL (v:=vi e.cell) iT3 I<|cO 3 I I) dC<|iO (i:=4) I kR (mV I) dC<|iO (i:=6) I kR (bj aO I zT3 I) dC<|Ie (i:=7) I kR (qL (v:=vi e.other) iT3 I<|cO 3 I I) dC ?_
  repeat' (first
   | (refine SB.o (i:=1) rfl (bt call178 rfl<|fZ E g5 _ _ l d0 O) dC (.inr<|by rintro _ g6 _ ⟨rfl,D,iv,rfl,U⟩;exact⟨by assumption,(by exact .cons _<|.refl _)⟩) ?_;rintro _ g6 _ ⟨rfl,D,iv,rfl,U⟩;obtain ⟨q6,n6,d6,rfl⟩:=U.form)
   | (refine SB.o (i:=1) rfl (bt call178 rfl<|fZ E g5 _ _ l d0 O) dC (.inr<|by rintro _ g6 _ ⟨rfl,D,iv,rfl,U⟩;exact⟨by assumption,(by exact .refl _)⟩) ?_;rintro _ g6 _ ⟨rfl,D,iv,rfl,U⟩;obtain ⟨q6,n6,d6,rfl⟩:=U.form)
   | (refine SB.o (i:=5) rfl (bt call182 rfl<|jc E g6 _ _ _ _ e.cell _ U c3<|Sl.mono c9 D) dC (.inr<|by rintro _ g7 _ ⟨rfl,M,u7,rfl,F⟩;exact⟨by exact kc io io,(by exact .cons _<|.refl _)⟩) ?_;rintro _ g7 _ ⟨rfl,M,u7,rfl,F⟩;obtain ⟨q7,n7,d7,rfl⟩:=F.form;have V:=D.trans M)
   | (refine SB.o (i:=5) rfl (bt call182 rfl<|jc E g6 _ _ _ _ e.cell _ U c3<|Sl.mono c9 D) dC (.inr<|by rintro _ g7 _ ⟨rfl,M,u7,rfl,F⟩;exact⟨by exact kc io io,(by exact .refl _)⟩) ?_;rintro _ g7 _ ⟨rfl,M,u7,rfl,F⟩;obtain ⟨q7,n7,d7,rfl⟩:=F.form;have V:=D.trans M)
   | (refine SB.o (i:=8) I (bt call182 I<|jc E g7 _ _ _ _ e.other [] F (by rw[ze7];exact c3) (zc1 _ _)) dC (.inr<|by rintro _ g8 _ ⟨rfl,N,u8,rfl,m⟩;exact⟨by exact kc io io,(by exact .cons _<|.refl _)⟩) ?_;rintro _ g8 _ ⟨rfl,N,u8,rfl,m⟩;obtain ⟨q8,n8,d8,rfl⟩:=m.form;have t:=V.trans N)
   | (refine SB.o (i:=8) I (bt call182 I<|jc E g7 _ _ _ _ e.other [] F (by rw[ze7];exact c3) (zc1 _ _)) dC (.inr<|by rintro _ g8 _ ⟨rfl,N,u8,rfl,m⟩;exact⟨by exact kc io io,(by exact .refl _)⟩) ?_;rintro _ g8 _ ⟨rfl,N,u8,rfl,m⟩;obtain ⟨q8,n8,d8,rfl⟩:=m.form;have t:=V.trans N)
   | (refine SB.o (i:=9) rfl (aL zl8) dC (.inr<|by rintro _ _ _ ⟨b6,rfl,rfl,rfl⟩;exact⟨by exact zb9 _,(by exact .cons _<|.refl _)⟩) ?_;rintro _ _ _ ⟨b6,rfl,rfl,rfl⟩)
   | (refine SB.o (i:=9) rfl (aL zl8) dC (.inr<|by rintro _ _ _ ⟨b6,rfl,rfl,rfl⟩;exact⟨by assumption,(by exact .cons _<|.refl _)⟩) ?_;rintro _ _ _ ⟨b6,rfl,rfl,rfl⟩)
   | (refine SB.on (i:=10) I (sK 0 qR I I I I I sB) (.inl dC) ?_;rintro _ _ _ ⟨rfl,rfl⟩)
   | refine zd8 1 9 kD ?_ ?_
   | refine zd8 5 9 kD ?_ ?_
   | refine zd8 8 9 kD ?_ ?_
   | refine zd7 9 kD ?_
   | refine zd7 10 kD ?_
   | refine zd7 8 kD ?_
   | refine zd7 5 kD ?_
   | refine zd7 1 kD ?_
   | (refine H5 kD ?_;exact za9 (b6,g8,q8,n8,d8) sB I I ⟨t,m⟩))
 rintro ⟨b6,g8,q8,n8,d8⟩ ⟨t,m⟩;dsimp only at t m ⊢;refine sQ<|C1 [9,10] ze4 kR ?_;refine Ie (i:=0) I kR (qV 5 aj ae I I I) dC<|iO (i:=1) I kR (bj aO I zT3 I) dC<|Ie (i:=2) I kR (qL (v:=vi e.cell) iT3 I<|cO 4 I I) dC<|iO (i:=3) I kR (bj aO I zT3 I) dC<|Ie (i:=4) I kR (qL (v:=vi e.other) iT3 I<|cO 4 I I) dC ?_
 repeat' (first
  | (refine SB.o (i:=5) rfl (bS sty43 rfl rfl rfl (ab sB) dC) dC (.inr<|by rintro _ _ _ ⟨e0,rfl,rfl,rfl⟩;exact⟨by exact zb9 _,(by exact .cons _<|.refl _)⟩) ?_;rintro _ _ _ ⟨e0,rfl,rfl,rfl⟩;refine I9 (fun w hw=>Ig (e:=encInt) (l:=[e.cell,e.other]) (n:=1) hw I I dC) ?_;refine Ic fun g9 c4 h5=>?_)
  | (refine SB.o (i:=6) rfl (bt call180 rfl<|lr E g9 _ _ _ l [e.cell,e.other] (d0.mono<|t.trans c4) O h5 dO) dC (.inr<|by rintro _ _ _ ⟨rfl,h6,b8,rfl,W,rfl⟩;exact⟨by assumption,(by exact .cons _<|.refl _)⟩) ?_;rintro _ _ _ ⟨rfl,h6,b8,rfl,W,rfl⟩;refine Ic fun g10 b9 c5=>?_;obtain ⟨h7,d10,rfl⟩:=zc3 c5;have e1:ai g10 (.slice h7 b8.length d10)<|cd l [e.cell,e.other]:=⟨b8,c5,W.mono fun _ _=>an.mono b9⟩;have X:=c4.trans b9)
  | (refine SB.o (i:=7) rfl (IE<|qV 0 isAgg72 qR rfl rfl rfl) dC (.inr<|by rintro _ _ _ ⟨rfl,rfl,rfl⟩;exact⟨by exact zb9 _,(by exact .refl _)⟩) ?_;rintro _ _ _ ⟨rfl,rfl,rfl⟩;refine iO (i:=8) I kD (za3 I<|buildS74 _ _ _) dC ?_)
  | (refine SB.o (i:=7) rfl (IE<|qV 0 isAgg72 qR rfl rfl rfl) dC (.inr<|by rintro _ _ _ ⟨rfl,rfl,rfl⟩;exact⟨by assumption,(by exact .refl _)⟩) ?_;rintro _ _ _ ⟨rfl,rfl,rfl⟩;refine iO (i:=8) I kD (za3 I<|buildS74 _ _ _) dC ?_)
  | (refine SB.ob (i:=7) I (IE<|qV 0 isAgg72 qR I I I) dC kD ?_;rintro _ _ _ ⟨rfl,rfl,rfl⟩;refine iO (i:=8) I kD (za3 I<|buildS74 _ _ _) dC ?_)
  | (refine SB.on (i:=9) I (sK 3 ae I I I I I sB) (.inl dC) ?_;rintro _ _ _ ⟨rfl,rfl⟩)
  | (refine SB.on (i:=10) I (sK 2 bZ I I I I I sB) (.inl dC) ?_;rintro _ _ _ ⟨rfl,rfl⟩;refine iO (i:=11) I kD (aS I) dC ?_)
  | refine zd8 5 7 kD ?_ ?_
  | refine zd8 6 7 kD ?_ ?_
  | refine zd8 7 9 kD ?_ ?_
  | refine zd7 9 kD ?_
  | refine zd7 10 kD ?_
  | refine zd7 7 kD ?_
  | refine zd7 6 kD ?_
  | refine zd7 5 kD ?_
  | (refine H5 kD ?_;refine tN ?_;refine rE ?_;exact oR 3 2 s (.inl I) results118 I I I aj ae gX bZ I I I I uR ⟨I,a9.trans<|b.trans<|A.trans<|t.trans X,_,_,_,_,I,e1,fun _=>m.mono X⟩))
end Go.Proofs.YtpmoadbbfobbcaaGreatDoor
