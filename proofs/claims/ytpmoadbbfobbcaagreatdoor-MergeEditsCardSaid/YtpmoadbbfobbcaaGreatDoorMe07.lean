/- 7 -/
import Derived.Test.YtpmoadbbfobbcaaGreatDoorMe06
set_option linter.unusedSimpArgs false
set_option linter.unusedVariables false
namespace Go.Proofs.YtpmoadbbfobbcaaGreatDoor
open _root_.Go.Proofs.Tryz _root_.Go.Proofs.YtpmoadbbfobbcaaGreatDoor.Tryz
open Go Go.Sy Go.Pl Go.Proofs
set_option maxRecDepth 100000
abbrev wr (x:Int):Int:=IntKind.i64.wrap x
structure En where
 id:Int
 sum:Int
 many:Int
 fst:Nat
def En.fi (e:En):Int:=e.fst
def En.up (e:En)(p:Int):En:=⟨e.id,wr<|e.sum+p,wr<|e.many+1,e.fst⟩
def l8 (i:Nat)(c p:Int):List En→List En
 | []=>[En.up ⟨c,0,0,i⟩ p]
 | e::r=>if e.id=c then e.up p::r else e::l8 i c p r
def kh (i:Nat)(c:Int):List En→Nat
 | []=>i
 | e::r=>if e.id=c then e.fst else kh i c r
def eX (m:Nat)(old now:Int)(p:List Int):List Int:=p.mapIdx fun q x=>if q<m∧x=now then old else x
def m0 (i:Nat)(sx:Int)(st:List En×List Int)(r:ak):List En×List Int :=
 (l8 i r.cell (wr<|sx * r.sign) st.1,eX (i+1) (st.2.getD (kh i r.cell st.1) 0) (st.2.getD i 0) st.2)
def oT (tl:List Cl)(st:List En×List Int)(p:ak×Nat):List En×List Int:=(az tl p.1).foldl (m0 p.2 p.1.sign) (st.1,st.2.set p.2 p.2)
def nN (tl:List Cl)(l:List ak)(n:Nat):List En×List Int:=l.zipIdx.foldl (oT tl) ([],List.replicate n 0)
def jq (tl:List Cl)(c:Cl):Int :=
 if (nN tl c.sides c.sides.length).1.any (fun e=>decide<|e.sum≠0) then 24
 else if (nN tl c.sides c.sides.length).1.any (fun e=>decide<|e.many≠2) then 25
 else if (nN tl c.sides c.sides.length).2.any (fun x=>decide<|x≠(nN tl c.sides c.sides.length).2.getD 0 0) then 25
 else 0
theorem uf {i:Nat}{c p:Int}{e:En}{B:List En}(a:e.id=c):∀ {A:List En},(∀ x∈A,x.id≠c)→l8 i c p (A++e::B)=A++e.up p::B∧kh i c (A++e::B)=e.fst
 | [],_=>by simp[l8,kh,a]
 | x::A,h=>by
  have b:=h x dO;have:=uf (i:=i) (p:=p) (B:=B) a (A:=A) (fun y d=>h y<|by simp[d]);simp[l8,kh,b,this.1,this.2]
theorem ue {i:Nat}{c p:Int}:∀ {A:List En},(∀ x∈A,x.id≠c)→l8 i c p A=A++[En.up ⟨c,0,0,i⟩ p]∧kh i c A=i
 | [],_=>by simp[l8,kh]
 | x::A,h=>by
  have a:=h x dO;have:=ue (i:=i) (p:=p) (A:=A) (fun y b=>h y<|by simp[b]);simp[l8,kh,a,this.1,this.2]
theorem mU (m:Nat)(old now:Int)(p:List Int):(eX m old now p).length=p.length:=by simp[eX]
theorem yj (old now:Int)(p:List Int):eX 0 old now p=p:=by
 unfold eX;apply List.ext_getElem?;intro q;simp
theorem AY {m:Nat}{old now:Int}{p:List Int}(h:m<p.length):(eX m old now p)[m]?=some p[m]:=by
 simp[eX,h]
theorem yl {m:Nat}{old now:Int}{p:List Int}(h:m<p.length):eX (m+1) old now p=if p[m]=now then (eX m old now p).set m old else eX m old now p:=by
 unfold eX;split
 ·rename_i hm;apply List.ext_getElem?;intro q;rw[List.getElem?_set];by_cases hq:m=q
  ·subst hq;simp[h,hm]
  ·rw[zg1 hq];simp only[List.getElem?_mapIdx];cases p[q]? with
   | none=>rfl
   | some x=>simp;congr 1;simp;intro _;omega
 ·rename_i hm;apply List.ext_getElem?;intro q;simp only[List.getElem?_mapIdx];by_cases hq:m=q
  ·subst hq;simp[h,hm]
  ·cases p[q]? with
   | none=>rfl
   | some x=>simp;congr 1;simp;intro _;omega
theorem Al {i n:Nat}{c p:Int}(b:i<n):∀ {es:List En},(∀ e∈es,e.fst<n)→∀ e∈l8 i c p es,e.fst<n
 | [],_,e,a=>by simp[l8] at a;subst a;exact b
 | x::r,h,e,a=>by
  unfold l8 at a;split at a
  ·rcases zf2.1 a with rfl | a
   ·exact h x dO
   ·exact h e (by simp[a])
  ·rcases zf2.1 a with rfl | a
   ·exact h e dO
   ·exact Al b (fun y d=>h y<|by simp[d]) e a
variable (E:World)(g:PH)(s:Own)
theorem yf (v:Value)(tl:List Cl)(c:Cl)(r:Rc)(hv:ai g v tl)(h8:tl.length<1099511627776)(hs:(tl.map Cl.id).Pairwise (· ≤ ·))(hc:an g c r)(hl:c.sides.length≤64)(i0:∀ x∈c.sides,(ah tl x.cell).isSome=true)(i1:∀ x∈c.sides,(az tl x).length≤64) :
  Ctr Tryz.prog E 154 #[v,rcv r] g s fun r g' s'=>r=vi (jq tl c)∧g=g'∧s=s':=by
 obtain ⟨rs,a3,U⟩:=hv;have hv:ai g v tl:=⟨rs,a3,U⟩;have q0:=U.length;obtain ⟨vp,vc,rfl⟩:=a3.form;obtain ⟨F,d,rfl,b9⟩:=cG hc;refine zb2 (args:=[.slice vp rs.length vc,.agg #[vi c.id,vi c.dim,.slice F c.sides.length d]]) func154 I ntmps154 (bE I)<|rZ (bW (bO I) fun D=>?_);refine aT I<|sQ<|SC.to (g':=g) (s':=pt D (bY #[vi c.id,vi c.dim,.slice F c.sides.length d] 61)::s) (fun w V=>V) ?_;refine rG<|aT I<|rZ<|aT I<|rZ<|aT I<|rZ<|lU (bj ap I aI I)<|lK (qL (v:=.slice F c.sides.length d) bg I<|cO 0 I I)<|lU (eN aW I)<|lW (mK encInt 0 sty43 I I I oM oM) ?_;rintro _ _ _ ⟨C,rfl,rfl,rfl⟩;refine aT I<|rZ<|lW (bS sty43 I I I (ab trivial) dC) ?_;rintro _ _ _ ⟨d0,rfl,rfl,rfl⟩;refine JD (.cons _<|.refl _)<|Is 3 1 (some ⟨d0,0,none⟩)<|aT I<|sQ<|rZ<|aT I<|bK<|zb6 3 1<|zb6 3 1<|zb6 3 1<|oP (ι:=(Value×Value×Value×Value)×(List En×List Int)×Nat) (fun i=>[(0,.slice vp rs.length vc),(3,pp D 0),(5,i.1.1),(6,i.1.2.1),(7,i.1.2.2.1),(8,.slice (some ⟨C,0,none⟩) c.sides.length c.sides.length),(9,i.1.2.2.2),(10,vi (i.2.2:Nat))]) (fun _=>g)
  (fun i=>rowA encInt 3 i.1.1 (i.2.1.1.map En.id)::rowA encInt 3 i.1.2.1 (i.2.1.1.map En.sum)::rowA encInt 3 i.1.2.2.1 (i.2.1.1.map En.many)::rowA encInt 3 i.1.2.2.2 (i.2.1.1.map En.fi)::rowA encInt 3 (.slice (some ⟨C,0,none⟩) c.sides.length c.sides.length) (i.2.1.2)::pt D (bY #[vi c.id,vi c.dim,.slice F c.sides.length d] 61)::s)
  (fun i=>i.2.2≤c.sides.length∧i.2.1=(c.sides.take i.2.2).zipIdx.foldl (oT tl) ([],List.replicate c.sides.length 0)∧i.2.1.2.length=c.sides.length∧i.2.1.1.length≤64 * i.2.2∧∀ e∈i.2.1.1,e.fst<c.sides.length) (fun i=>c.sides.length - i.2.2)
  ((.slice none 0 0,.slice none 0 0,.slice none 0 0,.slice (some ⟨d0,0,none⟩) 0 0),([],List.replicate c.sides.length 0),0) sB rfl rfl ⟨zf7 _,by simp,by simp,by simp,by simp⟩ ?_
 rintro ⟨⟨v5,v6,v7,v9⟩,⟨es,part⟩,i⟩ ⟨hi,a4,d1,i2,d2⟩;dsimp only at hi a4 d1 i2 d2 ⊢;refine sQ<|sW I<|lU (bj ap I aI I)<|lK (qL (v:=.slice F c.sides.length d) bg I<|cO 5 I I)<|lU (eN aW I)<|yL I<|tZ<|iP I (fun i3=>?_) (fun i3=>?_)
 ·have W:i<c.sides.length:=oM;have a5:=b9.based oM;have d3:c.sides[((i:Nat):Int).toNat]?=some c.sides[i]:=bd W;have j0:(c.sides.take<|i+1).zipIdx.foldl (oT tl) ([],List.replicate c.sides.length 0)=oT tl ((c.sides.take i).zipIdx.foldl (oT tl) ([],List.replicate c.sides.length 0)) (c.sides[i],i):=by
   rw[tS W,List.zipIdx_append,zj1];have:(List.take i c.sides).length=i:=by rw[ze5];omega
   rw[this];simp
  have d4:=gM W;have d5:=i0 _ d4;have j1:=i1 _ d4;generalize c.sides[i]=x at *;obtain ⟨yc,X⟩:=zh9.1 d5;have d8:az tl x=yc.sides:=by unfold az;rw[X];rfl
  rw[d8] at j1
  rcases na hs x.cell with ⟨j2,_⟩ | ⟨l0,kk,l1,l2,e0⟩
  ·rw[j2] at X;cases X
  have:yc=l0:=by rw[l1] at X;injection X with h;exact h.symm
  subst this;have e1:kk<tl.length:=(zf6.1 e0).1;have e2:kk<rs.length:=oM;have l3:=a3.based oM;have l4:=U.get e0<|bd e2;have e4:rs[((kk:Nat):Int).toNat]?=some rs[kk]:=bd e2;obtain ⟨L,f,m1,a9⟩:=cG l4;rw[m1] at e4;have m2:(part.set i (i:Int)).length=c.sides.length:=by rw[zi4];exact d1
  refine kP<|tN<|sQ<|bK<|sW I<|lM I<|lM I<|lU (iA aA zT3 I I I oM sL)<|oZ (IM (a:=(i:Int)) 4 zT3 I I I oM I)<|tZ<|sW I<|lM I<|lU (bj ap I aI I)<|lK (qL (v:=.slice F c.sides.length d) bg I<|cO 5 I I)<|lM I<|lU (iA aW aV I I a5 oM sL)<|lU (fC dh I zT3 I a5)<|lK (aZ (e:=encSide) (o:=0) (u:=vi x.cell) iT3 I b9.rd d3 I)<|lW (bt call93 I<|fp E g _ _ tl x.cell hv h8 hs) ?_;rintro _ _ _ ⟨rfl,rfl,rfl⟩;rw[l2];refine lU (iA aB ar I I l3 oM sL) (lK (iN (e:=encCell) dT ar I a3.rd e4)<|bW (aL zl6) fun t=>?_);refine oZ (sK 0 ar I I I I I sB)<|tZ<|rZ<|aT I<|bK<|SC.to (g':=g) (s':=pt t (bY #[vi yc.id,vi yc.dim,.slice L yc.sides.length f] 61)::rowA encInt 3 v5 (es.map En.id)::rowA encInt 3 v6 (es.map En.sum)::rowA encInt 3 v7 (es.map En.many)::rowA encInt 3 v9 (es.map En.fi)::rowA encInt 3 (.slice (some ⟨C,0,none⟩) c.sides.length c.sides.length) (part.set i (i:Int))::pt D (bY #[vi c.id,vi c.dim,.slice F c.sides.length d] 61)::s) (fun w V=>V) ?_;refine oP (ι:=(Value×Value×Value×Value)×(List En×List Int)×Nat) (fun q=>[(0,.slice vp rs.length vc),(3,pp D 0),(5,q.1.1),(6,q.1.2.1),(7,q.1.2.2.1),(8,.slice (some ⟨C,0,none⟩) c.sides.length c.sides.length),(9,q.1.2.2.2),(10,vi (i:Nat)),(11,pp t 0),(12,vi (q.2.2:Nat))]) (fun _=>g)
   (fun q=>pt t (bY #[vi yc.id,vi yc.dim,.slice L yc.sides.length f] 61)::rowA encInt 3 q.1.1 (q.2.1.1.map En.id)::rowA encInt 3 q.1.2.1 (q.2.1.1.map En.sum)::rowA encInt 3 q.1.2.2.1 (q.2.1.1.map En.many)::rowA encInt 3 q.1.2.2.2 (q.2.1.1.map En.fi)::rowA encInt 3 (.slice (some ⟨C,0,none⟩) c.sides.length c.sides.length) (q.2.1.2)::pt D (bY #[vi c.id,vi c.dim,.slice F c.sides.length d] 61)::s)
   (fun q=>q.2.2≤yc.sides.length∧q.2.1=(yc.sides.take q.2.2).foldl (m0 i x.sign) (es,part.set i (i:Int))∧q.2.1.2.length=c.sides.length∧q.2.1.1.length≤64 * i+q.2.2∧∀ e∈q.2.1.1,e.fst<c.sides.length) (fun q=>yc.sides.length - q.2.2)
   ((v5,v6,v7,v9),(es,part.set i (i:Int)),0) sB rfl rfl ⟨zf7 _,by simp,m2,lN,d2⟩ ?_
  rintro ⟨⟨w5,w6,w7,w9⟩,⟨b,y⟩,j⟩ ⟨hj,M,Y,e9,N⟩;dsimp only at hj M Y e9 N ⊢;refine IT fun ⟨w0,l⟩=>?_;obtain ⟨p5,c5,rfl⟩:=ag (i:=1) l rfl;obtain ⟨Z,c6,rfl⟩:=ag (i:=2) l rfl;obtain ⟨S,T,rfl⟩:=ag (i:=3) l rfl;obtain ⟨p9,c9,rfl⟩:=ag (i:=4) l rfl;have m3:0<b.length→based (.slice p5 (b.map En.id).length c5)=true:=fun h=>by obtain ⟨b0,c0,Q⟩:=bI (i:=1) l rfl (by simpa using h);rw[Q];rfl
  clear l w0;refine sQ<|sW I<|lU (bj ap I aI I)<|lK (qL (v:=.slice L yc.sides.length f) bg I<|cO 0 I I)<|lU (eN aW I)<|yL I<|tZ<|iP I (fun f7=>?_) (fun f7=>?_)
  ·have f8:j<yc.sides.length:=oM;have R:=a9.based oM;have c1:yc.sides[((j:Nat):Int).toNat]?=some yc.sides[j]:=bd f8;have b4:(yc.sides.take<|j+1).foldl (m0 i x.sign) (es,part.set i (i:Int))=m0 i x.sign ((yc.sides.take j).foldl (m0 i x.sign) (es,part.set i (i:Int))) yc.sides[j]:=by
    rw[tS f8,zj1];rfl
   rw[← M] at b4;generalize yc.sides[j]=z at *;have p4:(b.map En.id).length=b.length:=by simp
   refine kP<|tN<|sQ<|bK<|rZ<|aT I<|lu (ι:=Nat) (fun k=>[(0,.slice vp rs.length vc),(3,pp D 0),(5,.slice p5 (b.map En.id).length c5),(6,.slice Z (b.map En.sum).length c6),(7,.slice S (b.map En.many).length T),(8,.slice (some ⟨C,0,none⟩) c.sides.length c.sides.length),(9,.slice p9 (b.map En.fi).length c9),(10,vi (i:Nat)),(11,pp t 0),(12,vi (j:Nat)),(13,vi (k:Nat))]) (fun _=>g)
    (fun _=>pt t (bY #[vi yc.id,vi yc.dim,.slice L yc.sides.length f] 61)::rowA encInt 3 (.slice p5 (b.map En.id).length c5) (b.map En.id)::rowA encInt 3 (.slice Z (b.map En.sum).length c6) (b.map En.sum)::rowA encInt 3 (.slice S (b.map En.many).length T) (b.map En.many)::rowA encInt 3 (.slice p9 (b.map En.fi).length c9) (b.map En.fi)::rowA encInt 3 (.slice (some ⟨C,0,none⟩) c.sides.length c.sides.length) (y)::pt D (bY #[vi c.id,vi c.dim,.slice F c.sides.length d] 61)::s)
    (fun k=>k≤b.length∧(∀ e∈b.take k,e.id≠z.cell)∧∀ h:k<b.length,b[k].id=z.cell) ?_ ?_
   ·refine bK<|oP (ι:=Nat) (fun k=>[(0,.slice vp rs.length vc),(3,pp D 0),(5,.slice p5 (b.map En.id).length c5),(6,.slice Z (b.map En.sum).length c6),(7,.slice S (b.map En.many).length T),(8,.slice (some ⟨C,0,none⟩) c.sides.length c.sides.length),(9,.slice p9 (b.map En.fi).length c9),(10,vi (i:Nat)),(11,pp t 0),(12,vi (j:Nat)),(13,vi (k:Nat))]) (fun _=>g)
     (fun _=>pt t (bY #[vi yc.id,vi yc.dim,.slice L yc.sides.length f] 61)::rowA encInt 3 (.slice p5 (b.map En.id).length c5) (b.map En.id)::rowA encInt 3 (.slice Z (b.map En.sum).length c6) (b.map En.sum)::rowA encInt 3 (.slice S (b.map En.many).length T) (b.map En.many)::rowA encInt 3 (.slice p9 (b.map En.fi).length c9) (b.map En.fi)::rowA encInt 3 (.slice (some ⟨C,0,none⟩) c.sides.length c.sides.length) (y)::pt D (bY #[vi c.id,vi c.dim,.slice F c.sides.length d] 61)::s)
     (fun k=>k≤b.length∧∀ e∈b.take k,e.id≠z.cell) (fun k=>b.length - k) 0 sB rfl rfl ⟨zf7 _,by simp⟩ ?_
    rintro k ⟨hk,G⟩;by_cases n:k<b.length
    ·have a0:((k:Nat):Int)<(((b.map En.id).length:Nat):Int):=oM;have m4:(b.map En.id)[((k:Nat):Int).toNat]?=some b[k].id:=by simp[n]
     have g1:=m3 oM;refine sQ<|sQ<|dW [] [(0,2),(1,2),(2,2),(3,2),(4,2),(5,2),(6,2),(7,2),(8,1),(9,2),(10,1),(11,2),(12,2),(13,2),(14,1),(15,2),(16,2)] ze4 kR<|yM I<|yM I<|pU I (eN aA I)<|pU I (SU.eq (v':=vb true) (lS I I)<|ze3 vb<|zf9 a0)<|yM I<|yJ I<|yJ I<|zb3 I (gT I I I dC) (iA aA zT3 I I g1 oM sL) dC<|By I (gT I I I dC) (eB iT3 I (zb7 1 I) m4 I) dC<|zb3 I (gT I I I dC) (bj ap I aI I) dC<|By I (gT I I I dC) (qL (v:=.slice L yc.sides.length f) bg I<|cO 0 I I) dC<|yJ I<|zb3 I (gT I I I dC) (iA aW aV I I R oM sL) dC<|zb3 I (gT I I I dC) (fC dh I zT3 I R) dC<|By I (gT I I I dC) (aZ (e:=encSide) (o:=0) (u:=vi z.cell) iT3 I a9.rd c1 I) dC<|zb3 I (gT I I I dC) (nQ I I) dC<|pU I (wT I I)<|du<|tN<|iP I (fun c2=>?_) (fun c2=>?_)
     ·refine kP<|tN<|bK<|rG<|lM I<|yD I<|lA I<|cp<|bN ?_;exact ct (k+1) sB I I ⟨oM,by
       rw[tS n];intro e Q
       rcases zf4.1 Q with h | h
       ·exact G e h
       ·simp at h;subst h;exact c2⟩ oM
     ·exact xI<|tX<|tX<|bX<|za9 k sB I I ⟨hk,G,fun _=>zh1 c2⟩
    ·have a0:¬ ((k:Nat):Int)<(((b.map En.id).length:Nat):Int):=oM;exact sQ<|sQ<|dW [] [(0,2),(1,2),(2,2),(3,2),(4,2),(5,2),(6,2),(7,2),(8,1),(9,2),(10,1),(11,2),(12,2),(13,2),(14,1),(15,2),(16,2)] ze4 kR<|yM I<|yM I<|pU I (eN aA I)<|pU I (SU.eq (v':=vb false) (lS I I)<|ze3 vb<|zf8 a0)<|yM I<|yG I<|yG I<|yG I<|yI I<|yG I<|yI I<|yG I<|yG I<|yG I<|yI I<|yG I<|pU I (wF I I)<|du<|tN<|za1 I<|xI<|tX<|tX<|bX<|za9 k sB I I ⟨hk,G,fun h=>absurd h n⟩
   ·rintro k ⟨hk,G,g2⟩;refine lu (ι:=(Value×Value×Value×Value)×List En×En×List En) (fun q=>[(0,.slice vp rs.length vc),(3,pp D 0),(5,q.1.1),(6,q.1.2.1),(7,q.1.2.2.1),(8,.slice (some ⟨C,0,none⟩) c.sides.length c.sides.length),(9,q.1.2.2.2),(10,vi (i:Nat)),(11,pp t 0),(12,vi (j:Nat)),(13,vi (q.2.1.length:Nat))]) (fun _=>g)
     (fun q=>pt t (bY #[vi yc.id,vi yc.dim,.slice L yc.sides.length f] 61)::rowA encInt 3 q.1.1 ((q.2.1++q.2.2.1::q.2.2.2).map En.id)::rowA encInt 3 q.1.2.1 ((q.2.1++q.2.2.1::q.2.2.2).map En.sum)::rowA encInt 3 q.1.2.2.1 ((q.2.1++q.2.2.1::q.2.2.2).map En.many)::rowA encInt 3 q.1.2.2.2 ((q.2.1++q.2.2.1::q.2.2.2).map En.fi)::rowA encInt 3 (.slice (some ⟨C,0,none⟩) c.sides.length c.sides.length) (y)::pt D (bY #[vi c.id,vi c.dim,.slice F c.sides.length d] 61)::s)
     (fun q=>(∀ p,l8 i z.cell p b=q.2.1++q.2.2.1.up p::q.2.2.2)∧kh i z.cell b=q.2.2.1.fst∧q.2.2.1.fst<c.sides.length∧q.2.1.length+1+q.2.2.2.length≤b.length+1) ?_ ?_
    ·refine sW I<|lM I<|lU (eN aA I)<|yE I<|tZ<|iP I (fun g3=>?_) (fun g3=>?_)
     ·have n0:k=b.length:=oM;subst n0;rw[List.take_length] at G;refine sW I<|lU (bj ap I aI I)<|lK (qL (v:=.slice L yc.sides.length f) bg I<|cO 0 I I)<|lM I<|lU (iA aW aV I I R oM sL)<|lU (fC dh I zT3 I R)<|lK (aZ (e:=encSide) (o:=0) (u:=vi z.cell) iT3 I a9.rd c1 I)<|lW (bS sty43 I I I (ab sB) dC) ?_;rintro _ _ _ ⟨q1,rfl,rfl,rfl⟩;refine lW (aP (e:=encInt) 1 z.cell sty43 I I I I I oM oM) ?_;rintro u5 _ _ ⟨rfl,rfl⟩;refine aT I<|sW I<|lW (bS sty43 I I I (ab sB) dC) ?_;rintro _ _ _ ⟨q2,rfl,rfl,rfl⟩;refine lW (aP (e:=encInt) 2 0 sty43 I I I I I (by simp;omega)<|by simp;omega) ?_;rintro u6 _ _ ⟨rfl,rfl⟩;refine aT I<|sW I<|lW (bS sty43 I I I (ab sB) dC) ?_;rintro _ _ _ ⟨q3,rfl,rfl,rfl⟩;refine lW (aP (e:=encInt) 3 0 sty43 I I I I I (by simp;omega)<|by simp;omega) ?_;rintro u7 _ _ ⟨rfl,rfl⟩;refine aT I<|rG<|lM I<|lM I<|lW (bS sty43 I I I (ab sB) dC) ?_;rintro _ _ _ ⟨q4,rfl,rfl,rfl⟩;refine lW (aP (e:=encInt) 4 ((i:Nat):Int) sty43 I I I I I (by simp;omega)<|by simp;omega) ?_;rintro u9 _ _ ⟨rfl,rfl⟩;refine lA I<|cp (ST.to (fun w V=>?_) (g':=g) (s':=pt t (bY #[vi yc.id,vi yc.dim,.slice L yc.sides.length f] 61)::rowA encInt 3 u5 ((b++(⟨z.cell,0,0,i⟩:En)::[]).map En.id)::rowA encInt 3 u6 ((b++(⟨z.cell,0,0,i⟩:En)::[]).map En.sum)::rowA encInt 3 u7 ((b++(⟨z.cell,0,0,i⟩:En)::[]).map En.many)::rowA encInt 3 u9 ((b++(⟨z.cell,0,0,i⟩:En)::[]).map En.fi)::rowA encInt 3 (.slice (some ⟨C,0,none⟩) c.sides.length c.sides.length) (y)::pt D (bY #[vi c.id,vi c.dim,.slice F c.sides.length d] 61)::s) ?_)
      ·simp only[zg6,zg5,List.map_nil];exact V
      exact za9 ((u5,u6,u7,u9),b,⟨z.cell,0,0,i⟩,[]) sB I I ⟨fun p=>(ue G).1,(ue (p:=0) G).2,W,by simp⟩
     ·have n:k<b.length:=oM;have c3:b=b.take k++b[k]::b.drop (k+1):=by rw[← zg7 n,zj3]
      have n1:(b.take k).length=k:=by rw[ze5];omega
      refine kP<|za9 ((_,_,_,_),b.take k,b[k],b.drop<|k+1) ⟨I,I,I,I,I,I,I,I,I,I,bP<|by dsimp only;omega,trivial⟩ I (by dsimp only;rw[← c3]) ⟨fun p=>?_,?_,N _<|gM n,by rw[n1,zf1];omega⟩
      ·conv=>lhs;rw[c3]
       exact (uf (g2 n) G).1
      ·conv=>lhs;rw[c3]
       exact (uf (p:=0) (g2 n) G).2
    ·rintro ⟨⟨u5,u6,u7,u9⟩,A,e,B⟩ ⟨H,b5,n2,g4⟩;dsimp only at H b5 n2 g4 ⊢;refine IT fun ⟨w0,l⟩=>?_;obtain ⟨q6,d6,rfl⟩:=ag (i:=2) l rfl;obtain ⟨q7,d7,rfl⟩:=ag (i:=3) l rfl;obtain ⟨q9,d9,rfl⟩:=ag (i:=4) l rfl;have b1:based (.slice q6 ((A++e::B).map En.sum).length d6)=true:=by obtain ⟨b0,c0,Q⟩:=bI (i:=2) l rfl (by simp;omega);rw[Q];rfl
     have b2:based (.slice q7 ((A++e::B).map En.many).length d7)=true:=by obtain ⟨b0,c0,Q⟩:=bI (i:=3) l rfl (by simp;omega);rw[Q];rfl
     have n3:based (.slice q9 ((A++e::B).map En.fi).length d9)=true:=by obtain ⟨b0,c0,Q⟩:=bI (i:=4) l rfl (by simp;omega);rw[Q];rfl
     clear l w0;have n4:((A++e::B).map En.sum).length=A.length+1+B.length:=by simp;omega
     have n5:((A++e::B).map En.many).length=A.length+1+B.length:=by simp;omega
     have q5:((A++e::B).map En.fi).length=A.length+1+B.length:=by simp;omega
     have g6:((A++e::B).map En.sum)[((A.length:Nat):Int).toNat]?=some e.sum:=by rw[zg6,zg5];exact bV dO
     have g7:((A++e::B).map En.many)[((A.length:Nat):Int).toNat]?=some e.many:=by rw[zg6,zg5];exact bV dO
     have g9:((A++e::B).map En.fi)[((A.length:Nat):Int).toNat]?=some ((e.fst:Nat):Int):=by rw[zg6,zg5];exact bV dO
     have gp1:y[((e.fst:Nat):Int).toNat]?=some (y.getD e.fst 0):=by
      have h:e.fst<y.length:=oM;rw[show ((e.fst:Nat):Int).toNat=e.fst by omega,bd h,zh2,bd h];rfl
     have gp2:y[((i:Nat):Int).toNat]?=some (y.getD i 0):=by
      have h:i<y.length:=oM;rw[show ((i:Nat):Int).toNat=i by omega,bd h,zh2,bd h];rfl
     obtain ⟨wp,g5⟩:∃ wp,wp=wr (x.sign * z.sign):=⟨_,rfl⟩;refine sQ<|dW [20,21] [(0,2),(1,2),(2,2),(3,2),(4,2),(5,1),(6,2),(7,1),(8,2),(9,2),(10,2),(11,1),(12,2),(13,1),(14,2),(15,2),(16,2),(17,1),(18,2),(19,2),(20,0),(21,0)] ze4 kR<|yM I<|yM I<|yM I<|yM I<|pU I (iA aA zT3 I I b1 oM sL)<|gB I (eB iT3 I (zb7 2 I) g6 I)<|pU I (bj ap I aI I)<|gB I (qL (v:=.slice F c.sides.length d) bg I<|cO 6 I I)<|yM I<|pU I (iA aW aV I I a5 oM sL)<|pU I (fC dh I zT3 I a5)<|gB I (aZ (e:=encSide) (o:=1) (u:=vi x.sign) iT3 I b9.rd d3 I)<|pU I (bj ap I aI I)<|gB I (qL (v:=.slice L yc.sides.length f) bg I<|cO 0 I I)<|yM I<|pU I (iA aW aV I I R oM sL)<|pU I (fC dh I zT3 I R)<|gB I (aZ (e:=encSide) (o:=1) (u:=vi z.sign) iT3 I a9.rd c1 I)<|pU I (SU.eq (v':=vi wp) (SU.mulW I I)<|by rw[g5]) ?_;refine pU I (ze2 I I)<|oU I (iA aA zT3 I I b1 oM sL) dC (.inl dC)<|H8 I (IM (a:=wr<|e.sum+wp) 2 zT3 I I I oM I) (.inl dC) ?_;rintro _ _ _ ⟨rfl,rfl⟩;refine du<|tN<|sW I<|lM I<|lU (iA aA zT3 I I b2 oM sL)<|lK (eB iT3 I (zb7 3 I) g7 I)<|lU (ze2 I I)<|lU (iA aA zT3 I I b2 oM sL)<|oZ (IM (a:=wr<|e.many+1) 3 zT3 I I I oM I)<|tZ<|sW I<|lM I<|lM I<|lU (iA aA zT3 I I n3 oM sL)<|lK (eB iT3 I (zb7 4 I) g9 I)<|lU (iA aA zT3 I I I oM sL)<|lK (eB iT3 I (zb7 5 I) gp1 I)<|aT I<|sW I<|lM I<|lU (iA aA zT3 I I I oM sL) ?_;refine lK (eB iT3 I (zb7 5 I) gp2 I)<|aT I<|rZ<|aT I<|bK ?_;have n6:((A++e::B).map En.sum).set ((A.length:Nat):Int).toNat (wr<|e.sum+wp)=(A++e.up wp::B).map En.sum:=by rw[zg6,zg5,ee dO];simp[En.up]
     have n7:((A++e::B).map En.many).set ((A.length:Nat):Int).toNat (wr<|e.many+1)=(A++e.up wp::B).map En.many:=by rw[zg6,zg5,ee dO];simp[En.up]
     have n8:(A++e::B).map En.id=(A++e.up wp::B).map En.id:=by simp[En.up]
     have o1:((A++e::B).map En.fi)=(A++e.up wp::B).map En.fi:=by simp[En.up,En.fi]
     generalize g8:y.getD e.fst 0=old at *;generalize h0:y.getD i 0=now at *;refine SC.to (fun w V=>?_) (g':=g) (s':=pt t (bY #[vi yc.id,vi yc.dim,.slice L yc.sides.length f] 61)::rowA encInt 3 u5 ((A++e.up wp::B).map En.id)::rowA encInt 3 (.slice q6 ((A++e::B).map En.sum).length d6) ((A++e.up wp::B).map En.sum)::rowA encInt 3 (.slice q7 ((A++e::B).map En.many).length d7) ((A++e.up wp::B).map En.many)::rowA encInt 3 (.slice q9 ((A++e::B).map En.fi).length d9) ((A++e.up wp::B).map En.fi)::rowA encInt 3 (.slice (some ⟨C,0,none⟩) c.sides.length c.sides.length) (eX 0 old now y)::pt D (bY #[vi c.id,vi c.dim,.slice F c.sides.length d] 61)::s) ?_
     ·rw[← n6,← n7,← n8,← o1,yj];exact V
     refine oP (ι:=Nat) (fun m=>[(0,.slice vp rs.length vc),(3,pp D 0),(5,u5),(6,.slice q6 ((A++e::B).map En.sum).length d6),(7,.slice q7 ((A++e::B).map En.many).length d7),(8,.slice (some ⟨C,0,none⟩) c.sides.length c.sides.length),(9,.slice q9 ((A++e::B).map En.fi).length d9),(10,vi (i:Nat)),(11,pp t 0),(12,vi (j:Nat)),(14,vi old),(15,vi now),(16,vi (m:Nat))]) (fun _=>g)
      (fun m=>pt t (bY #[vi yc.id,vi yc.dim,.slice L yc.sides.length f] 61)::rowA encInt 3 u5 ((A++e.up wp::B).map En.id)::rowA encInt 3 (.slice q6 ((A++e::B).map En.sum).length d6) ((A++e.up wp::B).map En.sum)::rowA encInt 3 (.slice q7 ((A++e::B).map En.many).length d7) ((A++e.up wp::B).map En.many)::rowA encInt 3 (.slice q9 ((A++e::B).map En.fi).length d9) ((A++e.up wp::B).map En.fi)::rowA encInt 3 (.slice (some ⟨C,0,none⟩) c.sides.length c.sides.length) (eX m old now y)::pt D (bY #[vi c.id,vi c.dim,.slice F c.sides.length d] 61)::s)
      (fun m=>m≤i+1) (fun m=>i+1 - m) 0 sB rfl rfl (zf7 _) ?_
     rintro m hm;have b6:=mU m old now y;refine sQ<|sW I<|lM I<|lU (JG I I)<|tZ<|iP I (fun h1=>?_) (fun h1=>?_)
     ·have h2:m<y.length:=oM;have gm:(eX m old now y)[((m:Nat):Int).toNat]?=some y[m]:=AY h2;have b7:=yl (old:=old) (now:=now) h2;refine kP<|tN<|sQ<|bK<|sW I<|lM I<|lU (iA aA zT3 I I I oM sL)<|lK (eB iT3 I (zb7 5 I) gm I)<|lM I<|yE I<|tZ<|iP I (fun c4=>?_) (fun c4=>?_)
      ·refine rG<|lM I<|lM I<|lM I<|lU (iA aA zT3 I I I oM sL)<|oZ (IM (a:=old) 5 zT3 I I I (by rw[b6];omega) I) ?_;refine cp<|bN<|tN<|rG<|lM I<|yD I<|lA I<|cp (ST.to (fun w V=>?_) (g':=g) (s':=pt t (bY #[vi yc.id,vi yc.dim,.slice L yc.sides.length f] 61)::rowA encInt 3 u5 ((A++e.up wp::B).map En.id)::rowA encInt 3 (.slice q6 ((A++e::B).map En.sum).length d6) ((A++e.up wp::B).map En.sum)::rowA encInt 3 (.slice q7 ((A++e::B).map En.many).length d7) ((A++e.up wp::B).map En.many)::rowA encInt 3 (.slice q9 ((A++e::B).map En.fi).length d9) ((A++e.up wp::B).map En.fi)::rowA encInt 3 (.slice (some ⟨C,0,none⟩) c.sides.length c.sides.length) (eX (m+1) old now y)::pt D (bY #[vi c.id,vi c.dim,.slice F c.sides.length d] 61)::s) ?_)
       ·rw[b7,zg2 c4];exact V
       exact ct (m+1) sB I I oM oM
      ·refine kP<|bN<|tN<|rG<|lM I<|yD I<|lA I<|cp ?_;refine ST.to (fun w V=>?_) (g':=g) (s':=pt t (bY #[vi yc.id,vi yc.dim,.slice L yc.sides.length f] 61)::rowA encInt 3 u5 ((A++e.up wp::B).map En.id)::rowA encInt 3 (.slice q6 ((A++e::B).map En.sum).length d6) ((A++e.up wp::B).map En.sum)::rowA encInt 3 (.slice q7 ((A++e::B).map En.many).length d7) ((A++e.up wp::B).map En.many)::rowA encInt 3 (.slice q9 ((A++e::B).map En.fi).length d9) ((A++e.up wp::B).map En.fi)::rowA encInt 3 (.slice (some ⟨C,0,none⟩) c.sides.length c.sides.length) (eX (m+1) old now y)::pt D (bY #[vi c.id,vi c.dim,.slice F c.sides.length d] 61)::s) ?_
       ·rw[b7,zg1 c4];exact V
       exact ct (m+1) sB I I oM oM
     ·have o2:m=i+1:=oM;subst o2;refine xI<|tX<|tX<|bX<|bN<|tN<|rG<|lM I<|yD I<|lA I<|cp ?_;have J:m0 i x.sign (b,y) z=(A++e.up wp::B,eX (i+1) old now y):=by
       unfold m0;dsimp only;rw[b5,g8,h0,g5,H]
      refine ct ((u5,_,_,_),(A++e.up wp::B,eX (i+1) old now y),j+1) sB I I ⟨lN,by dsimp only;rw[b4,J],by dsimp only;rw[b6];exact Y,lN,fun q hq=>?_⟩ lN;have h9:=Al (c:=z.cell) (p:=wp) W N q (by rw[H];exact hq);exact h9
  ·have p1:yc.sides.take j=yc.sides:=tL oM;rw[p1] at M;have J:oT tl (es,part) (x,i)=(b,y):=by unfold oT;rw[d8];exact M.symm
   exact xI<|tX<|tX<|bX<|bN<|tN<|rG<|lM I<|yD I<|lA I<|cp<|dR (s':=rowA encInt 3 (.slice p5 (b.map En.id).length c5) (b.map En.id)::rowA encInt 3 (.slice Z (b.map En.sum).length c6) (b.map En.sum)::rowA encInt 3 (.slice S (b.map En.many).length T) (b.map En.many)::rowA encInt 3 (.slice p9 (b.map En.fi).length c9) (b.map En.fi)::rowA encInt 3 (.slice (some ⟨C,0,none⟩) c.sides.length c.sides.length) (y)::pt D (bY #[vi c.id,vi c.dim,.slice F c.sides.length d] 61)::s) (.cons _<|.refl _)<|ct ((_,_,_,_),(b,y),i+1) sB I I ⟨lN,by dsimp only;rw[j0,← a4,J],Y,lN,N⟩ lN
 ·have p2:c.sides.take i=c.sides:=tL oM;rw[p2] at a4;have O:nN tl c.sides c.sides.length=(es,part):=a4.symm;refine IT fun ⟨w0,l⟩=>?_;obtain ⟨Z,c6,rfl⟩:=ag (i:=1) l rfl;obtain ⟨S,T,rfl⟩:=ag (i:=2) l rfl;have b1:0<es.length→based (.slice Z (es.map En.sum).length c6)=true:=fun h=>by obtain ⟨b0,c0,Q⟩:=bI (i:=1) l rfl (by simpa using h);rw[Q];rfl
  have b2:0<es.length→based (.slice S (es.map En.many).length T)=true:=fun h=>by obtain ⟨b0,c0,Q⟩:=bI (i:=2) l rfl (by simpa using h);rw[Q];rfl
  clear l w0;have n4:(es.map En.sum).length=es.length:=by simp
  have n5:(es.map En.many).length=es.length:=by simp
  refine xI<|tX<|tX<|bX<|tN<|sQ<|rZ<|aT I<|bK<|oP (ι:=Nat) (fun k=>[(6,.slice Z (es.map En.sum).length c6),(7,.slice S (es.map En.many).length T),(8,.slice (some ⟨C,0,none⟩) c.sides.length c.sides.length),(17,vi (k:Nat))]) (fun _=>g)
   (fun _=>rowA encInt 3 v5 (es.map En.id)::rowA encInt 3 (.slice Z (es.map En.sum).length c6) (es.map En.sum)::rowA encInt 3 (.slice S (es.map En.many).length T) (es.map En.many)::rowA encInt 3 v9 (es.map En.fi)::rowA encInt 3 (.slice (some ⟨C,0,none⟩) c.sides.length c.sides.length) (part)::pt D (bY #[vi c.id,vi c.dim,.slice F c.sides.length d] 61)::s)
   (fun k=>k≤es.length∧(es.take k).any (fun e=>decide<|e.sum≠0)=false) (fun k=>es.length - k) 0 sB rfl rfl ⟨zf7 _,by simp⟩ ?_
  rintro k ⟨hk,a1⟩;refine sQ<|sW I<|lM I<|lU (eN aA I)<|yL I<|tZ<|iP I (fun h3=>?_) (fun h3=>?_)
  ·have n:k<es.length:=oM;have gk:(es.map En.sum)[((k:Nat):Int).toNat]?=some es[k].sum:=by simp[n]
   refine kP<|tN<|sQ<|bK<|sW I<|lM I<|lU (iA aA zT3 I I (b1 oM) oM sL)<|lK (eB iT3 I (zb7 1 I) gk I)<|lU (nQ I I)<|tZ<|iP I (fun hz=>?_) (fun hz=>?_)
   ·refine rZ<|aT I<|rE<|bR<|tR<|tR<|bR<|tR<|dR (s':=s) (by repeat (first | exact zc4 _ | refine List.Sublist.cons _ ?_)) ?_;exact za8 (.inl I) results154 I ⟨by unfold jq;rw[O,zg2<|zj9.2 ⟨es[k],gM n,by simpa using hz⟩],I,I⟩
   ·exact kP<|bN<|tN<|rG<|lM I<|yD I<|lA I<|cp<|ct (k+1) sB I I ⟨oM,by rw[tS n,List.any_append,a1];simpa using hz⟩ oM
  ·have e1:es.take k=es:=tL oM;rw[e1] at a1;refine xI<|tX<|tX<|bX<|tN<|sQ<|rZ<|aT I<|bK<|oP (ι:=Nat) (fun k=>[(7,.slice S (es.map En.many).length T),(8,.slice (some ⟨C,0,none⟩) c.sides.length c.sides.length),(18,vi (k:Nat))]) (fun _=>g)
    (fun _=>rowA encInt 3 v5 (es.map En.id)::rowA encInt 3 (.slice Z (es.map En.sum).length c6) (es.map En.sum)::rowA encInt 3 (.slice S (es.map En.many).length T) (es.map En.many)::rowA encInt 3 v9 (es.map En.fi)::rowA encInt 3 (.slice (some ⟨C,0,none⟩) c.sides.length c.sides.length) (part)::pt D (bY #[vi c.id,vi c.dim,.slice F c.sides.length d] 61)::s)
    (fun k=>k≤es.length∧(es.take k).any (fun e=>decide<|e.many≠2)=false) (fun k=>es.length - k) 0 sB rfl rfl ⟨zf7 _,by simp⟩ ?_
   rintro k2 ⟨q8,P⟩;refine sQ<|sW I<|lM I<|lU (eN aA I)<|yL I<|tZ<|iP I (fun h4=>?_) (fun h4=>?_)
   ·have n:k2<es.length:=oM;have gk:(es.map En.many)[((k2:Nat):Int).toNat]?=some es[k2].many:=by simp[n]
    refine kP<|tN<|sQ<|bK<|sW I<|lM I<|lU (iA aA zT3 I I (b2 oM) oM sL)<|lK (eB iT3 I (zb7 2 I) gk I)<|lU (nQ I I)<|tZ<|iP I (fun hz=>?_) (fun hz=>?_)
    ·refine rZ<|aT I<|rE<|bR<|tR<|tR<|bR<|tR<|dR (s':=s) (by repeat (first | exact zc4 _ | refine List.Sublist.cons _ ?_)) ?_;exact za8 (.inl I) results154 I ⟨by unfold jq;rw[O,zg1<|by rw[a1];simp,zg2<|zj9.2 ⟨es[k2],gM n,by simpa using hz⟩],I,I⟩
    ·exact kP<|bN<|tN<|rG<|lM I<|yD I<|lA I<|cp<|ct (k2+1) sB I I ⟨oM,by rw[tS n,List.any_append,P];simpa using hz⟩ oM
   ·have h5:es.take k2=es:=tL oM;rw[h5] at P;refine xI<|tX<|tX<|bX<|tN<|sQ<|rZ<|aT I<|bK<|oP (ι:=Nat) (fun k=>[(8,.slice (some ⟨C,0,none⟩) c.sides.length c.sides.length),(19,vi (k:Nat))]) (fun _=>g)
     (fun _=>rowA encInt 3 v5 (es.map En.id)::rowA encInt 3 (.slice Z (es.map En.sum).length c6) (es.map En.sum)::rowA encInt 3 (.slice S (es.map En.many).length T) (es.map En.many)::rowA encInt 3 v9 (es.map En.fi)::rowA encInt 3 (.slice (some ⟨C,0,none⟩) c.sides.length c.sides.length) (part)::pt D (bY #[vi c.id,vi c.dim,.slice F c.sides.length d] 61)::s)
     (fun k=>k≤c.sides.length∧(part.take k).any (fun q=>decide<|q≠part.getD 0 0)=false) (fun k=>c.sides.length - k) 0 sB rfl rfl ⟨zf7 _,by simp⟩ ?_
    rintro k3 ⟨r0,a2⟩;refine sQ<|sW I<|lM I<|lU (eN aA I)<|yL I<|tZ<|iP I (fun h6=>?_) (fun h6=>?_)
    ·have n:k3<part.length:=oM;have gk:part[((k3:Nat):Int).toNat]?=some part[k3]:=bd n;have g0:part[((0:Nat):Int).toNat]?=some (part.getD 0 0):=by
      have h:0<part.length:=oM;rw[show ((0:Nat):Int).toNat=0 from rfl,bd h,zh2,bd h];rfl
     generalize p3:part.getD 0 0=p0 at *;refine kP<|tN<|sQ<|bK<|sQ<|dW [] [(0,2),(1,2),(2,2),(3,1),(4,2),(5,2),(6,1),(7,2)] ze4 kR<|yM I<|yM I<|pU I (iA aA zT3 I I I oM sL)<|gB I (eB iT3 I (zb7 4 I) gk I)<|yM I<|pU I (iA aA zT3 I I I dC sL)<|gB I (eB iT3 I (zb7 4 I) g0 I)<|pU I (nQ I I)<|du<|tN<|iP I (fun hz=>?_) (fun hz=>?_)
     ·refine rZ<|aT I<|rE<|bR<|tR<|tR<|bR<|tR<|dR (s':=s) (by repeat (first | exact zc4 _ | refine List.Sublist.cons _ ?_)) ?_;exact za8 (.inl I) results154 I ⟨by unfold jq;rw[O,zg1<|by rw[a1];simp,zg1<|by rw[P];simp,zg2<|zj9.2 ⟨part[k3],gM n,by rw[p3];simpa using hz⟩],I,I⟩
     ·exact kP<|bN<|tN<|rG<|lM I<|yD I<|lA I<|cp<|ct (k3+1) sB I I ⟨oM,by rw[tS n,List.any_append,a2];simpa using hz⟩ oM
    ·have h7:part.take k3=part:=tL oM;rw[h7] at a2;refine xI<|tX<|tX<|bX<|tN<|rZ<|aT I<|rE<|dR (s':=s) (by repeat (first | exact zc4 _ | refine List.Sublist.cons _ ?_)) ?_;exact za8 (.inl I) results154 I ⟨by unfold jq;rw[O,zg1<|by rw[a1];simp,zg1<|by rw[P];simp,zg1<|by rw[a2];simp],I,I⟩
theorem nt {tl:List Cl}{c:Cl}(h:dj tl c=0):∀ x∈c.sides,(ah tl x.cell).isSome=true:=by
 intro x e;unfold dj at h;split at h
 ·cases h
 split at h
 ·cases h
 split at h
 ·cases h
 rename_i b;have a:(List.range c.sides.length).any (jz tl c)=false:=by simpa using b
 obtain ⟨k,d,rfl⟩:=zc8 e;have f:=zk6.1 a k<|List.mem_range.2 d;cases g:(ah tl c.sides[k].cell).isSome with
 | true=>rfl
 | false =>
  exfalso;apply f;unfold jz;rw[bd d];exact pS (by rw[g];simp)
theorem l5 {tl:List Cl}:∀ {L:List Cl} {last:Int},iZ tl L last=none→(∀ x∈L,last<x.id)∧L.Pairwise fun a b=>a.id<b.id
 | [],_,_=>⟨by simp,List.Pairwise.nil⟩
 | x::r,last,h=>by
  unfold iZ at h;split at h
  ·cases h
  ·rename_i f;split at h
   ·cases h
   ·obtain ⟨d,e⟩:=l5 h;refine⟨fun y c=>?_,zk4.2 ⟨d,e⟩⟩
    rcases zf2.1 c with rfl | c
    ·omega
    ·have:=d y c;omega
theorem nZ:∀ {L acc:List Cl},(acc++L).Pairwise (fun a b=>a.id<b.id)→L.foldl gU acc=acc++L
 | [],acc,_=>by simp
 | x::r,acc,h=>by
  have c:acc.any (fun y=>y.id == x.id)=false:=by
   rw[zk6];intro y d;have:=(List.pairwise_append.1 h).2.2 y d x dO;simp;omega
  rw[zi9,mr c,nZ<|by simpa using h];simp
theorem bH {l:List Cl}(h:(aa l).Pairwise fun a b=>a.id<b.id):am l=aa l:=by
 unfold am;rw[nZ<|by simpa using h];rfl
def nP (tl:List Cl):List Cl→Option (Int×Int)
 | []=>none
 | x::r=>if x.dim>1∧jq tl x≠0 then some (x.id,jq tl x) else nP tl r
def aH (l:List Cl):Int×Int:=if (l.length:Int)>4000 then (0,2) else (iZ (am l) (aa l) 0).getD<|(nP (aa l)<|aa l).getD (0,0)
def iS (L:List Cl)(i:Nat):Int:=if i=0 then 0 else (L.getD (i - 1) aJ).id
variable {a b l out:List Int}{i k:Nat}{c p x:Int}
theorem yR {L:List Cl}(h:i<L.length):iS L (i+1)=L[i].id:=by
 unfold iS;rw[zg1 oM];simp[h]
theorem mW (v:Value)(l:List Cl)(hv:ai g v l)(hf:aM l) :
  Ctr Tryz.prog E 92 #[.agg #[v]] g s fun r g' s'=>r = .tuple #[vi (aH l).1,vi (aH l).2]∧s=s'∧Le g g':=by
 obtain ⟨p,c,rfl⟩:=hv.form;have W:=jm l;have c7:=ax l;have X:=aF hf;have Y:=bG hf;have Z:=eL l;have b6:=jL l;refine zb2 (args:=[.agg #[.slice p l.length c]]) func92 I ntmps92 (bE I)<|rZ (bW (bO I) fun b1=>?_);refine lA I<|aT I<|sQ<|rZ<|lU (bj dw I cg I)<|lK (qL ei I<|cO 0 I I)<|lU (eN aB I)<|lU (gR I I)<|tZ<|iP I (fun Q=>?_) (fun Q=>?_)
 ·exact rZ<|lA I<|aT I<|rE<|tR<|dR (s':=s) uR<|Iq (.inl I) results92 I I ⟨by unfold aH;rw[zg2 oM],I,zb9 g⟩
 ·refine kP<|tN<|rZ<|lU (bj dw I cg I)<|lK (qL ei I<|cO 0 I I)<|lW (bt call96 I<|kL E l.length g _ _ l (dm _) hv hf) ?_;rintro v16 g1 _ ⟨rfl,n,hL⟩;obtain ⟨rs,a0,O⟩:=hL;have c9:=O.length;obtain ⟨q,d,rfl⟩:=a0.form;refine aT I<|rZ<|lK (qV 0 aj ae I I I)<|lW (bt call41 I<|bA E g1 _ _ l (hv.mono n) hf) ?_;rintro v18 g2 _ ⟨rfl,k,hO⟩;have a:=a0.mono k;have t:=O.mono fun _ _=>an.mono k;obtain ⟨q2,d2,rfl⟩:=hO.form;refine aT I<|sQ<|rZ<|aT I<|bK ?_;have b7:ai g2 (.slice q rs.length d)<|aa l:=⟨rs,a,t⟩;have w:aH l=(iZ (am l) (aa l) 0).getD ((nP (aa l)<|aa l).getD (0,0)):=by unfold aH;rw[zg1 oM]
  refine oP (ι:=Nat) (fun i=>[(1,pp b1 0),(4,.slice q rs.length d),(5,.slice q2 (am l).length d2),(6,vi i)]) (fun _=>g2) (fun _=>pt b1 (bY #[.slice p l.length c] 29)::s)
   (fun i=>i≤rs.length∧iZ (am l) (aa l) 0=iZ (am l) ((aa l).drop i) (iS (aa l) i)∧(0<i→1≤iS (aa l) i)) (fun i=>rs.length - i) 0
   sB rfl rfl ⟨zf7 _,rfl,fun h=>absurd h oM⟩ ?_
  rintro i ⟨hi,F,b8⟩;refine sQ<|sW I<|lM I<|lU (eN aB I)<|yL I<|tZ<|iP I (fun b9=>?_) (fun b9=>?_)
  ·have G:i<(aa l).length:=oM;have a1:i<rs.length:=oM;have b:=a.based oM;have z:=t.get (bd G)<|bd a1;have f:rs[((i:Nat):Int).toNat]?=some rs[i]:=bd a1;have A:(aa l).drop i=(aa l)[i]::(aa l).drop (i+1):=zg7 G;have a2:=X.2 _<|gM G;have R:=yR G;rw[A] at F;have S:0<i→∃ (r:Rc),rs[((i:Int) - 1).toNat]?=some r∧r.id=iS (aa l) i∧iS (aa l) i≤(aa l)[i].id:=fun h=>by
    have h2:i - 1<rs.length:=oM;have h3:i - 1<(aa l).length:=oM;refine⟨rs[i - 1],by rw[show ((i:Int) - 1).toNat=i - 1 by omega];exact bd h2,?_,?_⟩
    ·have:=(t.get (bd h3)<|bd h2).1;rw[this];unfold iS;rw[zg1 oM];simp[h3]
    ·have:=zd1.1 W (i - 1) i h3 G oM;unfold iS;rw[zg1 oM];simpa [h3] using this
   generalize (aa l)[i]=x at *;generalize rs[i]=rx at *;obtain ⟨m,N,T⟩:=z;have z:an g2 x rx:=⟨m,N,T⟩;have P:x.id≤iS (aa l) i→aH l=(x.id,20):=fun h=>by rw[w,F,iZ,zg2 h];rfl
   by_cases U:x.id<1
   ·have a3:x.id≤iS (aa l) i:=by
     by_cases h0:0<i
     ·have:=b8 h0;omega
     ·have:i=0:=oM;subst this;show x.id≤0;omega
    refine kP<|tN<|sQ<|bK<|sQ<|sQ<|dW [] [(0,2),(1,2),(2,2),(3,2),(4,1),(5,2),(6,2),(7,2),(8,2),(9,2),(10,2),(11,2),(12,2),(13,2),(14,1),(15,2),(16,2),(17,2),(18,2),(19,2),(20,1),(21,2),(22,2),(23,2)] ze4 kR<|yM I<|yM I<|pU I (iA aB ar I I b oM sL)<|pU I (fC ap I zT3 I b)<|gB I (aZ (e:=encCell) (o:=0) (u:=vi x.id) iT3 I a.rd f<|by rw[← m];rfl) ?_;refine pU I (SU.eq (v':=vb true) (lS I I)<|ze3 vb<|zf9 U)<|yM I<|yG I<|yG I<|yG I<|yH I<|yH I<|yH I<|yH I<|It I (zb4 I I I dC) dC<|yH I<|yH I<|yH I<|yH I<|yH I<|It I (zb4 I I I dC) dC<|yH I<|yG I<|pU I (wT I I)<|du<|tN<|za2 I<|sW I<|lM I<|lU (iA aB ar I I b oM sL)<|lU (fC ap I zT3 I b)<|lK (aZ (e:=encCell) (o:=0) (u:=vi x.id) iT3 I a.rd f<|by rw[← m];rfl) ?_;exact lA I<|aT I<|rE<|tR<|bR<|tR<|tR<|bR<|tR<|dR (s':=s) uR<|Iq (.inl I) results92 I I ⟨by rw[P a3],I,n.trans k⟩
   ·have a4:iS (aa l) i<x.id→iZ (am l) (aa l) 0=if dj (am l) x≠0 then some (x.id,dj (am l) x) else iZ (am l) ((aa l).drop<|i+1) (iS (aa l)<|i+1):=fun h=>by
     rw[F,iZ,zg1 oM,R]
    by_cases a5:(i:Int)>0
    ·obtain ⟨rp,c0,a9,c1⟩:=S oM;refine kP<|tN<|sQ<|bK<|sQ<|sQ<|dW [] [(0,2),(1,2),(2,2),(3,2),(4,1),(5,2),(6,2),(7,2),(8,2),(9,2),(10,2),(11,2),(12,2),(13,2),(14,1),(15,2),(16,2),(17,2),(18,2),(19,2),(20,1),(21,2),(22,2),(23,2)] ze4 kR<|yM I<|yM I<|pU I (iA aB ar I I b oM sL)<|pU I (fC ap I zT3 I b)<|gB I (aZ (e:=encCell) (o:=0) (u:=vi x.id) iT3 I a.rd f<|by rw[← m];rfl) ?_;refine pU I (SU.eq (v':=vb false) (lS I I)<|ze3 vb<|zf8 U)<|yM I<|yJ I<|zb3 I (gT I I I dC) (SU.eq (v':=vb true) (gR I I)<|ze3 vb<|zf9 a5) dC<|yJ I<|yJ I<|yJ I<|zb3 I (gT I I I dC) (iA aB ar I I b oM sL) dC<|zb3 I (gT I I I dC) (fC ap I zT3 I b) dC<|By I (gT I I I dC) (aZ (e:=encCell) (o:=0) (u:=vi x.id) iT3 I a.rd f<|by rw[← m];rfl) dC ?_;refine yJ I<|yJ I<|zb3 I (gT I I I dC) (sU I I oM) dC<|zb3 I (gT I I I dC) (iA aB ar I I b oM sL) dC<|zb3 I (gT I I I dC) (fC ap I zT3 I b) dC<|By I (gT I I I dC) (aZ (e:=encCell) (o:=0) (u:=vi<|iS (aa l) i) iT3 I a.rd c0<|by rw[← a9];rfl) dC ?_;refine zb3 I (gT I I I dC) (eQ I I) dC<|zb3 I (gT I I I dC) (wT I I) dC<|pU I (wF I I)<|du<|tN<|iP I (fun c2=>?_) (fun c2=>?_)
     ·refine sW I<|lM I<|lU (iA aB ar I I b oM sL)<|lU (fC ap I zT3 I b)<|lK (aZ (e:=encCell) (o:=0) (u:=vi x.id) iT3 I a.rd f<|by rw[← m];rfl) ?_;exact lA I<|aT I<|rE<|tR<|bR<|tR<|tR<|bR<|tR<|dR (s':=s) uR<|Iq (.inl I) results92 I I ⟨by rw[P oM],I,n.trans k⟩
     ·refine kP<|tN<|sW I<|lM I<|lM I<|lU (iA aB ar I I b oM sL)<|lK (iN (e:=encCell) dT ar I a.rd f)<|lW (bt call153 I<|sJ E g2 _ _ (am l) x rx hO Y.1 Z z a2) ?_;rintro _ _ _ ⟨rfl,rfl,rfl⟩;refine aT I<|sW I<|lU (nQ I I)<|tZ ?_;have hg:=a4 oM;refine iP I (fun H=>?_) (fun H=>?_)
      ·rw[zg2 H] at hg;refine sW I<|lM I<|lU (iA aB ar I I b oM sL)<|lU (fC ap I zT3 I b)<|lK (aZ (e:=encCell) (o:=0) (u:=vi x.id) iT3 I a.rd f<|by rw[← m];rfl) ?_;exact lM I<|lA I<|aT I<|rE<|bR<|tR<|tR<|bR<|tR<|dR (s':=s) uR<|Iq (.inl I) results92 I I ⟨by rw[w,hg];rfl,rfl,n.trans k⟩
      ·rw[zg1 H] at hg;exact kP<|bN<|tN<|rG<|lM I<|yD I<|lA I<|cp<|ct (i+1) sB I I ⟨oM,hg,fun _=>by rw[R];omega⟩ oM
    ·have b0:i=0:=oM;have hg:=a4 (by rw[b0];show (0:Int)<x.id;omega);refine kP<|tN<|sQ<|bK<|sQ<|sQ<|dW [] [(0,2),(1,2),(2,2),(3,2),(4,1),(5,2),(6,2),(7,2),(8,2),(9,2),(10,2),(11,2),(12,2),(13,2),(14,1),(15,2),(16,2),(17,2),(18,2),(19,2),(20,1),(21,2),(22,2),(23,2)] ze4 kR ?_;refine yM I<|yM I<|pU I (iA aB ar I I b oM sL)<|pU I (fC ap I zT3 I b)<|gB I (aZ (e:=encCell) (o:=0) (u:=vi x.id) iT3 I a.rd f<|by rw[← m];rfl) ?_;refine pU I (SU.eq (v':=vb false) (lS I I)<|ze3 vb<|zf8 U)<|yM I<|yJ I<|zb3 I (gT I I I dC) (SU.eq (v':=vb false) (gR I I)<|ze3 vb<|zf8 a5) dC<|yJ I<|yG I<|yG I<|yG I<|yG I<|yI I<|yG I<|yG I<|yG I<|yG I<|yG I<|yI I<|yG I<|zb3 I (gT I I I dC) (wF I I) dC<|pU I (wF I I)<|du<|tN<|za1 I<|kP<|tN<|sW I<|lM I<|lM I<|lU (iA aB ar I I b oM sL) ?_;refine lK (iN (e:=encCell) dT ar I a.rd f)<|lW (bt call153 I<|sJ E g2 _ _ (am l) x rx hO Y.1 Z z a2) ?_;rintro _ _ _ ⟨rfl,rfl,rfl⟩;refine aT I<|sW I<|lU (nQ I I)<|tZ (iP I (fun H=>?_) fun H=>?_)
     ·rw[zg2 H] at hg;refine sW I<|lM I<|lU (iA aB ar I I b oM sL)<|lU (fC ap I zT3 I b)<|lK (aZ (e:=encCell) (o:=0) (u:=vi x.id) iT3 I a.rd f<|by rw[← m];rfl) ?_;exact lM I<|lA I<|aT I<|rE<|bR<|tR<|tR<|bR<|tR<|dR (s':=s) uR<|Iq (.inl I) results92 I I ⟨by rw[w,hg];rfl,rfl,n.trans k⟩
     ·rw[zg1 H] at hg;exact kP<|bN<|tN<|rG<|lM I<|yD I<|lA I<|cp<|ct (i+1) sB I I ⟨oM,hg,fun _=>by rw[R];omega⟩ oM
  ·have c3:(aa l).drop i=[]:=List.drop_eq_nil_of_le oM;rw[c3] at F;have B:iZ (am l) (aa l) 0=none:=F;have c4:=(l5 B).2;have b2:=bH c4;have J:=mR B;rw[B] at w;have L:aH l=(nP (aa l)<|aa l).getD (0,0):=w;refine xI<|tX<|tX<|bX<|tN<|sQ<|rZ<|aT I<|bK<|oP (ι:=Nat) (fun i=>[(1,pp b1 0),(4,.slice q rs.length d),(8,vi i)]) (fun _=>g2) (fun _=>pt b1 (bY #[.slice p l.length c] 29)::s)
    (fun i=>i≤rs.length∧nP (aa l) (aa l)=nP (aa l) ((aa l).drop i)) (fun i=>rs.length - i) 0
    sB rfl rfl ⟨zf7 _,rfl⟩ ?_
   rintro j ⟨hj,D⟩;refine sQ<|sW I<|lM I<|lU (eN aB I)<|yL I<|tZ<|iP I (fun b3=>?_) (fun b3=>?_)
   ·have V:j<(aa l).length:=oM;have b4:j<rs.length:=oM;have b:=a.based oM;have z:=t.get (bd V)<|bd b4;have f:rs[((j:Nat):Int).toNat]?=some rs[j]:=bd b4;have A:(aa l).drop j=(aa l)[j]::(aa l).drop (j+1):=zg7 V;have b5:(aa l)[j]∈aa l:=gM V;rw[A] at D;generalize (aa l)[j]=x at *;generalize rs[j]=rx at *;obtain ⟨m,N,T⟩:=z;have z:an g2 x rx:=⟨m,N,T⟩;have M:=Cc J b5;have C:=nt<|J x b5;rw[b2] at M C;refine kP<|tN<|sQ<|bK<|sQ<|sW I<|lM I<|lU (iA aB ar I I b oM sL)<|lU (fC ap I zT3 I b)<|lK (aZ (e:=encCell) (o:=1) (u:=vi x.dim) iT3 I a.rd f<|by rw[← N];rfl) ?_;refine yL I<|tZ<|iP I (fun c5=>?_) (fun c5=>?_)
    ·exact xI<|tX<|bX<|tN<|rG<|lM I<|yD I<|lA I<|cp<|ct (j+1) sB I I ⟨oM,by rw[D,nP,zg1 fun h=>by omega]⟩ oM
    ·refine kP<|tN<|sW I<|lM I<|lM I<|lU (iA aB ar I I b oM sL)<|lK (iN (e:=encCell) dT ar I a.rd f)<|lW (bt call154 I<|yf E g2 _ _ (aa l) x rx b7 X.1 b6 z M.1 C<|fun y hy=>(M.2.2 y hy).1) ?_;rintro _ _ _ ⟨rfl,rfl,rfl⟩;refine aT I<|sW I<|lU (nQ I I)<|tZ<|iP I (fun H=>?_) (fun H=>?_)
     ·refine sW I<|lM I<|lU (iA aB ar I I b oM sL)<|lU (fC ap I zT3 I b)<|lK (aZ (e:=encCell) (o:=0) (u:=vi x.id) iT3 I a.rd f<|by rw[← m];rfl) ?_;exact lM I<|lA I<|aT I<|rE<|bR<|tR<|tR<|bR<|tR<|dR (s':=s) uR<|Iq (.inl I) results92 I I ⟨by rw[L,D,nP,zg2 ⟨oM,H⟩];rfl,rfl,n.trans k⟩
     ·exact kP<|bN<|tN<|rG<|lM I<|yD I<|lA I<|cp<|ct (j+1) sB I I ⟨oM,by rw[D,nP,zg1 fun h=>H h.2]⟩ oM
   ·have c6:(aa l).drop j=[]:=List.drop_eq_nil_of_le oM;rw[c6] at D;exact xI<|tX<|tX<|bX<|tN<|rZ<|lA I<|aT I<|rE<|dR (s':=s) uR<|Iq (.inl I) results92 I I ⟨by rw[L,D];rfl,rfl,n.trans k⟩
theorem cY (v:Value)(l:List Cl)(b:ai g v l)(c:aM l) :
  Ctr Tryz.prog E 39 #[.agg #[v]] g s fun r g' s'=>r=vb (decide<|(aH l).2=0)∧s=s'∧Le g g':=by
 refine zb2 (args:=[.agg #[v]]) func39 I ntmps39 (bE I)<|rZ (bW (bO I) fun d=>?_);refine aT I<|rZ<|lK (qV 0 aj ae I I I)<|lW (bt call92 I<|mW E g _ _ l b c) ?_;rintro _ g1 _ ⟨rfl,rfl,a⟩;exact lM I<|yX I<|yX I<|lA I<|aT I<|sW I<|yE I<|aT I<|rE<|dR (s':=s) uR<|za8 (.inl I) results39 I ⟨I,I,a⟩
theorem wY (h:a.length≠b.length):decide (aw a b<0)=decide ((a.length:Int)<b.length):=by
 unfold aw
 rcases bJ a.length b.length with ⟨c,e⟩ | ⟨c,e⟩ | ⟨c,e⟩
 ·rw[e];simp;omega
 ·omega
 ·rw[e];simp;omega
theorem im (h:a.length=b.length):aw a b=iH a b:=by
 unfold aw
 rcases bJ a.length b.length with ⟨c,e⟩ | ⟨c,e⟩ | ⟨c,e⟩
 ·omega
 ·rw[e];simp
 ·omega
theorem w4 {y:Int}(h:x≠y):decide (iH (x::a) (y::b)<0)=decide (x<y):=by
 rw[decide_eq_decide];simp only[iH]
 rcases bJ x y with ⟨c,e⟩ | ⟨c,e⟩ | ⟨c,e⟩
 ·rw[e];simp;omega
 ·omega
 ·rw[e];simp;omega
theorem w8 {y:Int}(h:x=y):iH (x::a) (y::b)=iH a b:=by
 simp only[iH]
 rcases bJ x y with ⟨c,e⟩ | ⟨c,e⟩ | ⟨c,e⟩
 ·omega
 ·rw[e];simp
 ·omega
theorem qP (v u:Value)(a b:List Int)(m:dA g v a)(n:dA g u b)(hl:a.length<1099511627776) :
  Ctr Tryz.prog E 176 #[v,u] g s fun r g' s'=>r=vb (decide<|aw a b<0)∧g=g'∧s=s':=by
 obtain ⟨p,c,rfl⟩:=za4 m;obtain ⟨q,d,rfl⟩:=za4 n;refine zb2 (args:=[.slice p a.length c,.slice q b.length d]) func176 I ntmps176 (bE I)<|rZ<|aT I<|sQ<|sW I<|lU (eN aA I)<|lM I<|lU (eN aA I)<|lU (nQ I I)<|tZ<|iP I (fun o=>?_) (fun o=>?_)
 ·exact sW I<|lU (eN aA I)<|lM I<|lU (eN aA I)<|yL I<|aT I<|rE<|tR<|za8 (.inl I) results176 I ⟨by rw[wY oM],I,I⟩
 ·have j:a.length=b.length:=oM;have l:=im j;refine kP<|tN<|sQ<|rZ<|aT I<|bK<|oP (ι:=Nat) (fun k=>[(0,.slice p a.length c),(1,.slice q b.length d),(5,vi k)]) (fun _=>g) (fun _=>s) (fun k=>k≤a.length∧iH a b=iH (a.drop k) (b.drop k)) (fun k=>a.length - k) 0
   sB rfl rfl ⟨zf7 _,by simp⟩ ?_
  rintro k ⟨y,e⟩;refine sQ<|sW I<|lM I<|lU (eN aA I)<|yL I<|tZ<|iP I (fun t=>?_) (fun t=>?_)
  ·have f:k<a.length:=oM;have i:k<b.length:=oM;have w:=za6 m oM;have x:=za6 n oM;rw[zg7 f,zg7 i] at e;refine kP<|tN<|sQ<|bK<|sQ<|dW [] [(0,2),(1,2),(2,2),(3,1),(4,2),(5,2),(6,2),(7,1),(8,2)] ze4 kR<|yM I<|yM I<|pU I (iA aA zT3 I I io oM<|by (simp[slen];omega))<|pQ I (eB iT3 I (za7 m) (bd f) I) dC ?_;refine yM I<|yM I<|pU I (iA aA zT3 I I io oM<|by (simp[slen];omega))<|pQ I (eB iT3 I (za7 n) (bd i) I) dC ?_;refine pU I (nQ I I)<|du<|tN (iP I (fun hd=>?_) fun hd=>?_)
   ·refine sQ<|dW [] [(0,2),(1,2),(2,2),(3,1),(4,2),(5,2),(6,2),(7,1),(8,2),(9,2)] ze4 kR<|yM I<|yM I<|pU I (iA aA zT3 I I io oM<|by (simp[slen];omega)) ?_;refine pQ I (eB iT3 I (za7 m) (bd f) I) dC ?_;refine yM I<|yM I<|pU I (iA aA zT3 I I io oM<|by (simp[slen];omega))<|pQ I (eB iT3 I (za7 n) (bd i) I) dC ?_;refine pU I (lS I I)<|pU I (aS I)<|du<|tN<|rE<|bR<|tR<|tR<|bR<|tR ?_;exact za8 (.inl I) results176 I ⟨by rw[l,e,w4 hd],I,I⟩
   ·exact kP<|bN<|tN<|rG<|lM I<|yD I<|lA I<|cp<|ct (k+1) sB I I ⟨oM,by rw[e,w8<|zh1 hd]⟩ oM
  ·rw[List.drop_eq_nil_of_le oM,List.drop_eq_nil_of_le oM] at e;exact xI<|tX<|tX<|bX<|tN<|rZ<|aT I<|rE<|za8 (.inl I) results176 I ⟨by rw[l,e];rfl,rfl,rfl⟩
theorem sf (v u:Value)(ls:List<|List Int)(t:List Int)(W:dn g v ls)(T:dA g u t)(hl:ls.length<1099511627776)(J:∀ x∈ls,x.length<1099511627776)(K:t.length<1099511627776)(U:ux ls) :
  Ctr Tryz.prog E 110 #[v,u] g s fun r g' s'=>r = .tuple #[vi<|lbL ls t,vb<|ls.contains t]∧g=g'∧s=s':=by
 obtain ⟨rs,a,b⟩:=W;have V:=b.length;have d:=zD U t;obtain ⟨p,c,rfl⟩:=za4 a;refine zb2 (args:=[.slice p rs.length c,u]) func110 I ntmps110 (bE I)<|rZ<|lA I<|aT I<|rZ<|aT I<|sW I<|lU (eN fe I)<|aT I<|sQ<|bK<|oP (ι:=Nat×Nat) (fun q=>[(0,.slice p rs.length c),(1,u),(6,vi q.1),(7,vi q.2)]) (fun _=>g) (fun _=>s)
  (fun q=>q.1≤q.2∧q.2≤ls.length∧(∀ k (h:k<ls.length),k<q.1→aw ls[k] t<0)∧∀ k (h:k<ls.length),q.2≤k→¬ aw ls[k] t<0) (fun q=>q.2 - q.1) (0,ls.length)
  ⟨rfl,rfl,rfl,bP oM,trivial⟩ rfl rfl ⟨zf7 _,dm _,fun k _ h=>absurd h oM,fun k L y=>absurd L<|by dsimp only at y;omega⟩ ?_
 rintro ⟨i,j⟩ ⟨M,N,e,f⟩;dsimp only at M N e f ⊢;refine sQ<|sW I<|lM I<|yL I<|tZ<|iP I (fun O=>?_) (fun O=>?_)
 ·have z:=a.based oM;have l:(i+j) / 2<ls.length:=oM;have D:(i+j) / 2<rs.length:=oM;have A:rs[((((i+j) / 2:Nat):Int)).toNat]?=some rs[(i+j) / 2]:=bd D;have P:=b.get (bd l)<|bd D;have Q:=J _<|gM l;refine kP<|tN<|bK<|sW I<|lM I<|yD I<|lU (SU.eq (v':=vi (((i+j) / 2:Nat):Int)) (IZ I I dC)<|ze3 vi<|by rw[← Int.natCast_add];exact mN _ oM) ?_;refine aT I<|sW I<|lM I<|lU (iA fe gy I I z oM sL)<|lK (eB iE I a.rd A I)<|lM I<|lW (bt call176 I<|qP E g _ _ _ ls[(i+j) / 2] t P T Q) ?_;rintro _ _ _ ⟨rfl,rfl,rfl⟩;refine tZ<|iP I (fun hc=>?_) (fun hc=>?_)
  ·refine rG<|lM I<|yD I<|lA I<|cp<|bN<|ct ((i+j) / 2+1,j) sB I I ⟨lN,N,fun k w h=>?_,f⟩ lN;dsimp only at h
   rcases Nat.eq_or_lt_of_le (show k≤(i+j) / 2 by omega) with rfl | m
   ·exact hc
   ·exact d k ((i+j) / 2) w l m hc
  ·refine rG<|lM I<|lA I<|cp<|bN<|ct (i,(i+j) / 2) sB I I ⟨lN,lN,e,fun k w h=>?_⟩ lN;dsimp only at h
   rcases Nat.eq_or_lt_of_le (show (i+j) / 2≤k by omega) with m | m
   ·subst m;exact hc
   ·exact fun X=>hc<|d ((i+j) / 2) k l w m X
 ·have R:i=j:=oM;subst R;have F:lbL ls t=i:=FE N (fun k h m=>by simpa using e k h m) (fun k h m=>by simpa using f k h m);by_cases G:(i:Int)<(rs.length:Int)
  ·have n:i<ls.length:=oM;have H:i<rs.length:=oM;have z:=a.based oM;have A:rs[((i:Nat):Int).toNat]?=some rs[i]:=bd H;have P:=b.get (bd n)<|bd H;have o:(!decide (aw t ls[i]<0))=ls.contains t:=by
    have L:=f i n<|dm _;by_cases y:aw t ls[i]<0
    ·rw[zf9 y];symm;rw[Bool.not_true,← zj8];intro hm;have B:t∈ls:=by simpa using hm
     obtain ⟨k,w,rfl⟩:=zc8 B
     rcases Nat.lt_trichotomy k i with C | C | C
     ·have:=e k w C;rw[cZ] at this;omega
     ·subst C;rw[cZ] at y;omega
     ·exact zd1.1 U i k n w C y
    ·rw[zf8 y];have C:t=ls[i]:=by
      rcases ex t ls[i] with h | h | h
      ·exact absurd h y
      ·exact h
      ·exact absurd h L
     symm;rw[Bool.not_false];have:t∈ls:=by rw[C];exact gM n
     simpa using this
   refine xI<|tX<|tX<|bX<|tN<|sW I<|lM I<|lM I<|lU (eN fe I)<|lU (SU.eq (v':=vb true) (lS I I)<|ze3 vb<|zf9 G)<|lM I<|yC I<|yC I<|yC I<|lY I I I (iA fe gy I I z oM sL)<|lR (gT I I I dC) (eB iE I a.rd A I) dC<|IQ (gT I I I dC) (bt call176 I<|qP E g _ _ _ t ls[i] T P K) dC ?_;rintro _ _ _ ⟨rfl,rfl,rfl⟩;exact lY I I I (oF I)<|yP I<|lA I<|aT I<|rE<|Iq (.inl I) results110 I I ⟨by rw[F,← o],I,I⟩
  ·have S:ls.contains t=false:=by
    rw[← zj8];intro hm;have B:t∈ls:=by simpa using hm
    obtain ⟨k,w,rfl⟩:=zc8 B;have:=e k w oM;rw[cZ] at this;omega
   exact xI<|tX<|tX<|bX<|tN<|sW I<|lM I<|lM I<|lU (eN fe I)<|lU (SU.eq (v':=vb false) (lS I I)<|ze3 vb<|zf8 G)<|lM I<|yA I<|yA I<|yA I<|yA I<|yA I<|yA I<|yA I<|yF I<|lA I<|aT I<|rE<|Iq (.inl I) results110 I I ⟨by rw[F,S],I,I⟩
abbrev ey (l:List Int):Prop:=l.Pairwise (· < ·)
theorem mT:∀ {l m:List Int},ey l→ey m→(∀ x,x∈l↔x∈m)→l=m
 | [],[],_,_,_=>rfl
 | [],y::m,_,_,h=>by have:=(h y).2 dO;simp at this
 | x::l,[],_,_,h=>by have:=(h x).1 dO;simp at this
 | x::l,y::m,hl,hm,h=>by
  obtain ⟨c,f⟩:=zk4.1 hl;obtain ⟨d,g⟩:=zk4.1 hm;have b:x=y:=by
   rcases zf2.1 ((h x).1<|by simp) with e | i
   ·exact e
   ·rcases zf2.1 ((h y).2<|by simp) with e | j
    ·exact e.symm
    ·have:=d x i;have:=c y j;omega
  subst b;rw[mT f g fun z=>?_];constructor
  ·intro hz
   rcases zf2.1 ((h z).1<|by simp[hz]) with e | a
   ·have:=c z hz;omega
   ·exact a
  ·intro hz
   rcases zf2.1 ((h z).2<|by simp[hz]) with e | a
   ·have:=d z hz;omega
   ·exact a
theorem jH:∀ {x:Int} {l:List Int},(x::l).Pairwise (· ≤ ·)→ey (bn (fun a b:Int=>decide<|a=b) x l)∧(∀ y∈bn (fun a b:Int=>decide<|a=b) x l,x<y)∧∀ y,y∈l→y=x∨y∈bn (fun a b:Int=>decide<|a=b) x l
 | x,[],_=>⟨List.Pairwise.nil,by simp[bn],by simp⟩
 | x,y::r,h=>by
  obtain ⟨c,d⟩:=zk4.1 h;obtain ⟨i1,i2,i3⟩:=jH d;have f:=c y dO;unfold bn;by_cases e:y=x
  ·subst e;simp only[decide_true,if_true];refine⟨i1,i2,fun z hz=>?_⟩
   rcases zf2.1 hz with rfl | hz
   ·exact .inl I
   ·exact i3 z hz
  ·simp only[e,decide_false];refine⟨zk4.2 ⟨i2,i1⟩,fun z hz=>?_,fun z hz=>?_⟩
   ·rcases zf2.1 hz with rfl | hz
    ·omega
    ·have:=i2 z hz;omega
   ·rcases zf2.1 hz with rfl | hz
    ·exact .inr dO
    ·rcases i3 z hz with rfl | h
     ·exact .inr dO
     ·exact .inr (by simp[h])
theorem kJ (l:List Int):(fh l).Pairwise (· ≤ ·):=by
 have:=List.pairwise_mergeSort (le:=fun x y:Int=>decide<|x≤y) (fun a b c d e=>by simp at *;omega) (fun a b=>by simp;omega) l;exact this.imp fun h=>by simpa using h
theorem lF (l:List Int):ey<|dM l:=by
 have a:=kJ l;unfold dM;cases h:fh l with
 | nil=>exact List.Pairwise.nil
 | cons x r =>
  rw[h] at a;obtain ⟨b,c,_⟩:=jH a;exact zk4.2 ⟨c,b⟩
theorem ol (l:List Int)(y:Int):y∈dM l↔y∈l:=by
 have a:=kJ l;have hp:=rX l;rw[← hp.mem_iff];unfold dM;refine⟨fun h=>(tu _ _).subset h,fun h=>?_⟩;cases hc:fh l with
 | nil=>rw[hc] at h;simp at h
 | cons x r =>
  rw[hc] at a h
  rcases zf2.1 h with rfl | h
  ·simp[je]
  ·rcases (jH a).2.2 y h with rfl | h
   ·simp[je]
   ·simp[je,h]
theorem Gk (a:ey out)(hm:∀ x,x∈out↔x∈l):out=dM l:=mT a (lF l) fun x=>by rw[hm,ol]
theorem C2 (c:ey a)(h:∀ x∈a,x∈b):a.length≤b.length:=tI (c.imp fun h=>by omega) h
def okS (l:List Int):Bool:=!(l.any fun x=>decide<|x<0)&&decide ((dM l).length≤9)
theorem GB (h:okS l=false):jO (dM l)=true:=by
 unfold okS at h;rw[Bool.and_eq_false_iff] at h;cases hc:dM l with
 | nil=>rfl
 | cons a r =>
  unfold jO
  rcases h with h | h
  ·simp only[Bool.not_eq_false',zj9,zj6] at h;obtain ⟨x,d,e⟩:=h;have b:=(ol l x).2 d;rw[hc] at b;have c:=lF l;rw[hc] at c;have:a≤x:=by
    rcases zf2.1 b with rfl | f
    ·omega
    ·have:=(zk4.1 c).1 x f;omega
   simp;omega
  ·rw[hc] at h;simp at h ⊢;omega
theorem EP (h:okS l=true):(dM l).length≤9∧(jO (dM l)=true→dM l=[]):=by
 unfold okS at h;simp only[zj4,Bool.not_eq_true',zj6] at h;refine⟨h.2,fun hb=>?_⟩;cases hc:dM l with
 | nil=>rfl
 | cons a r =>
  rw[hc] at hb;unfold jO at hb;rw[hc] at h;simp at hb;have b:a∈l:=(ol l a).1 (by rw[hc];simp);have c:=zk6.1 h.1 a b;simp at c;have d:=h.2;simp at d;omega
theorem Bi (d:ey out)(e:∀ y∈out.take k,y<x)(f:∀ y∈out.drop k,x<y):ey<|out.take k++x::out.drop k:=by
 have a:ey<|out.take k++out.drop k:=by rw[zj3];exact d
 have b:=List.pairwise_append.1 a;refine List.pairwise_append.2 ⟨b.1,zk4.2 ⟨f,b.2.1⟩,fun y c z hz=>?_⟩
 rcases zf2.1 hz with rfl | hz
 ·exact e y c
 ·exact b.2.2 y c z hz
theorem Cv {α:Type}{out:List α}{x y:α}:y∈out.take k++x::out.drop k↔y=x∨y∈out:=by
 rw[zf4,zf2];constructor
 ·rintro (h | h | h)
  ·exact .inr<|List.mem_of_mem_take h
  ·exact .inl h
  ·exact .inr<|List.mem_of_mem_drop h
 ·rintro (h | h)
  ·exact .inr<|.inl h
  ·rw[← zj3 k out] at h
   rcases zf4.1 h with h | h
   ·exact .inl h
   ·exact .inr<|.inr h
theorem qm (e:ey out)(b:k<out.length)(h:c≤out[k]):∀ y∈out.drop k,c≤y:=by
 rw[zg7 b];intro y a;have d:ey<|out.drop k:=List.Pairwise.sublist (List.drop_sublist k out) e;rw[zg7 b] at d
 rcases zf2.1 a with rfl | a
 ·exact h
 ·have:=(zk4.1 d).1 y a;omega
theorem ED (v:Value)(l:List Int)(hv:dA g v l)(hl:l.length<17592186044416) :
  Ctr Tryz.prog E 109 #[v] g s fun r g' s'=>s=s'∧Le g g'∧((okS l=true∧∃ u,r = .tuple #[u,vb true]∧dA g' u (dM l))∨(okS l=false∧r = .tuple #[.slice none 0 0,vb false])):=by
 obtain ⟨p,c,rfl⟩:=za4 hv;refine zb2 (args:=[.slice p l.length c]) func109 I ntmps109 (bE I)<|rZ<|lA I<|aT I<|rZ<|aT I<|sQ<|rZ<|aT I<|bK<|oP (ι:=PH×Value×List Int×Nat) (fun i=>[(0,.slice p l.length c),(4,i.2.1),(5,vi i.2.2.2)]) (fun i=>i.1) (fun _=>s)
  (fun i=>Le g i.1∧dA i.1 i.2.1 i.2.2.1∧i.2.2.2≤l.length∧ey i.2.2.1∧(∀ x,x∈i.2.2.1↔x∈l.take i.2.2.2)∧((l.take i.2.2.2).any (fun x=>decide<|x<0)=false∧i.2.2.1.length≤9)) (fun i=>l.length - i.2.2.2)
  (g,.slice none 0 0,[],0) sB rfl rfl ⟨zb9 g,zc1 g _,zf7 _,List.Pairwise.nil,by simp,by simp,by simp⟩ ?_
 rintro ⟨g1,ov,out,i⟩ ⟨f,a,hi,j,t,z,h9⟩;dsimp only at f a hi j t z h9 ⊢;obtain ⟨q,d,rfl⟩:=za4 a;have c2:=(IK a).2;refine sQ<|sW I<|lM I<|lU (eN aA I)<|yL I<|tZ<|iP I (fun b1=>?_) (fun b1=>?_)
 ·have S:i<l.length:=oM;have M:=za6 (hv.mono f) oM;have N:l[((i:Nat):Int).toNat]?=some l[i]:=bd S;have O:l.take (i+1)=l.take i++[l[i]]:=tS S;have b2:l[i]∈l:=gM S;generalize l[i]=x at *;refine kP<|tN<|sQ<|bK<|rZ<|aT I<|lu (ι:=Nat) (fun k=>[(0,.slice p l.length c),(4,.slice q out.length d),(5,vi i),(6,vi k)]) (fun _=>g1) (fun _=>s) (fun k=>k≤out.length∧(∀ y∈out.take k,y<x)∧∀ y∈out.drop k,x≤y) ?_ ?_
  ·refine bK<|oP (ι:=Nat) (fun k=>[(0,.slice p l.length c),(4,.slice q out.length d),(5,vi i),(6,vi k)]) (fun _=>g1) (fun _=>s) (fun k=>k≤out.length∧∀ y∈out.take k,y<x) (fun k=>out.length - k) 0
    sB rfl rfl ⟨zf7 _,by simp⟩ ?_
   rintro k ⟨hk,C⟩;by_cases a3:(k:Int)<(out.length:Int)
   ·have T:k<out.length:=oM;have U:=za6 a oM;refine sQ<|sQ<|dW [] [(0,2),(1,2),(2,2),(3,2),(4,2),(5,2),(6,2),(7,2),(8,1),(9,2),(10,2),(11,2),(12,1),(13,2),(14,2)] ze4 kR<|yM I<|yM I<|pU I (eN aA I)<|pU I (SU.eq (v':=vb true) (lS I I)<|ze3 vb<|zf9 a3)<|yM I<|yJ I<|yJ I<|zb3 I (gT I I I dC) (iA aA zT3 I I U oM sL) dC<|By I (gT I I I dC) (eB iT3 I (za7 a) (bd T) I) dC ?_;refine yJ I<|yJ I<|zb3 I (gT I I I dC) (iA aA zT3 I I M oM sL) dC<|By I (gT I I I dC) (eB iT3 I (za7<|hv.mono f) N I) dC<|zb3 I (gT I I I dC) (lS I I) dC<|pU I (wT I I)<|du<|tN<|iP I (fun hc=>?_) (fun hc=>?_)
    ·refine kP<|tN<|bK<|rG<|lM I<|yD I<|lA I<|cp<|bN ?_;exact ct (k+1) sB I I ⟨oM,by
      rw[tS T];intro y hy
      rcases zf4.1 hy with h | h
      ·exact C y h
      ·simp at h;subst h;exact hc⟩ oM
    ·exact xI<|tX<|tX<|bX<|za9 k sB I I ⟨hk,C,qm j T oM⟩
   ·exact sQ<|sQ<|dW [] [(0,2),(1,2),(2,2),(3,2),(4,2),(5,2),(6,2),(7,2),(8,1),(9,2),(10,2),(11,2),(12,1),(13,2),(14,2)] ze4 kR<|yM I<|yM I<|pU I (eN aA I)<|pU I (SU.eq (v':=vb false) (lS I I)<|ze3 vb<|zf8 a3)<|yM I<|yG I<|yG I<|yG I<|yI I<|yG I<|yG I<|yG I<|yI I<|yG I<|pU I (wF I I)<|du<|tN<|za1 I<|xI<|tX<|tX<|bX<|za9 k sB I I ⟨hk,C,by rw[List.drop_eq_nil_of_le oM];simp⟩
  ·rintro k ⟨hk,V,a4⟩;have W:x∈out→∀ y,y∈out↔y∈l.take (i+1):=fun h y=>by
    rw[O,zf4,← t];constructor
    ·exact .inl
    ·rintro (h' | h')
     ·exact h'
     ·simp at h';rw[h'];exact h
   have X:x∈out→(l.take<|i+1).any (fun x=>decide<|x<0)=false:=fun h=>by
    have Y:=zk6.1 z x<|(t x).1 h;rw[O,List.any_append,z];simpa using Y
   have F:(∀ y∈out.drop k,x<y)→ey (out.take k++x::out.drop k)∧∀ y,y∈out.take k++x::out.drop k↔y∈l.take (i+1):=fun h=>⟨Bi j V h,fun y=>by
    rw[Cv,O,zf4,← t];simp;exact or_comm⟩
   have a5:=IC a (l:=k) (m:=out.length) hk<|dm _;have a9:=IC a (l:=0) (m:=k) (zf7 _) hk;rw[tL<|by rw[zf1];exact dm _] at a5;rw[List.drop_zero,Nat.sub_zero] at a9;have c3:(out.take k++x::out.drop k).length=out.length+1:=lN;obtain ⟨nw,c4⟩:∃ nw,nw=out.take k++x::out.drop k:=⟨_,rfl⟩;have Z:x<0→okS l=false:=fun h=>by
    unfold okS;have:l.any (fun x=>decide<|x<0)=true:=zj9.2 ⟨x,b2,by simpa using h⟩;rw[this];rfl
   have a0:(∀ y∈out.drop k,x<y)→9<(out.take k++x::out.drop k).length→okS l=false:=fun h h'=>by
    obtain ⟨Y,G⟩:=F h;have h3:=C2 Y (b:=dM l) (fun y hy=>by rw[ol];exact List.mem_of_mem_take<|(G y).1 hy);unfold okS;have:decide ((dM l).length≤9)=false:=zf8 oM;rw[this];simp
   have b3:∀ g3 q3 d3,(∀ y∈out.drop k,x<y)→Le g g3→dA g3 (.slice q3 (out.take k++x::out.drop k).length d3) (out.take k++x::out.drop k)→¬ x<0→(out.take k++x::out.drop k).length≤9 →
     Le g g3∧dA g3 (.slice q3 (out.take k++x::out.drop k).length d3) (out.take k++x::out.drop k)∧i+1≤l.length∧ey (out.take k++x::out.drop k)∧(∀ y,y∈out.take k++x::out.drop k↔y∈l.take (i+1))∧((l.take<|i+1).any (fun x=>decide<|x<0)=false∧(out.take k++x::out.drop k).length≤9):=fun g3 q3 d3 Y G h3 h4 h5 =>
    ⟨G,h3,oM,(F Y).1,(F Y).2,by rw[O,List.any_append,z];simpa using h4,h5⟩
   have b4:out.contains x=false→∀ y∈out.drop k,x<y:=fun h y hy=>by
    have Y:=a4 y hy;have G:y≠x:=fun e=>by
     have:out.contains x=true:=by rw[← e];simpa using List.mem_of_mem_drop hy
     rw[h] at this;cases this
    omega
   have H:(k:Int)<(out.length:Int)→out[((k:Nat):Int).toNat]?=some (out.getD k 0):=fun h=>by
    have G:k<out.length:=oM;rw[show ((k:Nat):Int).toNat=k by omega,bd G,zh2,bd G];rfl
   have hA:(k:Int)<(out.length:Int)→out.contains x=decide (out.getD k 0=x):=fun h=>by
    have G:k<out.length:=oM;rw[zh2,bd G,Option.getD_some,Bool.eq_iff_iff,zj7];constructor
    ·intro hm;have J:x∈out:=by simpa using hm
     rw[← zj3 k out] at J
     rcases zf4.1 J with h3 | h3
     ·have:=V x h3;omega
     ·have h4:=a4 _ (by rw[zg7 G];exact List.mem_cons_self:out[k]∈out.drop k);have h5:=qm j G (Int.le_refl out[k]) x h3;omega
    ·intro e;rw[← e];simp
   have hB:¬ (k:Int)<(out.length:Int)→out.contains x=false:=fun h=>by
    rw[← zj8];intro hm;have J:x∈out:=by simpa using hm
    rw[← zj3 k out,List.drop_eq_nil_of_le oM,zc7] at J;have:=V x J;omega
   have U:=fun h=>za6 a h;generalize out.getD k 0=yk at H hA;obtain ⟨nl,c1⟩:∃ nl,nl=(out.take k++x::out.drop k).length:=⟨_,rfl⟩;have f1:x<0→(decide (x<0)||decide ((((out.take k++x::out.drop k).length:Nat):Int)>9))=true:=fun h=>by simp[h]
   have f2:¬ x<0→(decide (x<0)||decide ((((out.take k++x::out.drop k).length:Nat):Int)>9))=decide ((((out.take k++x::out.drop k).length:Nat):Int)>9):=fun h=>by simp only[h,decide_false,Bool.false_or]
   refine sQ<|BY 45 ((out.contains x)) ?_ ?_
   ·refine dW [] [(0,2),(1,2),(2,2),(3,2),(4,2),(5,2),(6,2),(7,2),(8,1),(9,2),(10,2),(11,2),(12,1),(13,2),(14,2)] ze4 kR<|yM I<|yM I<|pU I (eN aA I)<|pU I (lS I I)<|yM I<|Jf ?_ ?_
    ·intro P;exact yJ I<|yJ I<|zb3 I (gT I I I dC) (iA aA zT3 I I (U oM) oM sL) dC<|By I (gT I I I dC) (eB iT3 I (za7 a) (H P) I) dC<|yJ I<|yJ I<|zb3 I (gT I I I dC) (iA aA zT3 I I M oM sL) dC<|By I (gT I I I dC) (eB iT3 I (za7<|hv.mono f) N I) dC<|zb3 I (gT I I I dC) (eQ I I) dC<|pU I (wT I I)<|du<|zb1 (by (rw[hA P];rfl)) mI
    ·intro P;exact yG I<|yG I<|yG I<|yI I<|yG I<|yG I<|yG I<|yI I<|yG I<|pU I (wF I I)<|du<|zb1 (by (rw[hB P];rfl)) mI
   refine iQ I (fun A=>?_) (fun A=>?_)
   ·have b0:x∈out:=by simpa using A
    exact xI<|tX<|bX<|tN<|rG<|lM I<|yD I<|lA I<|cp<|ct (g1,_,out,i+1) sB I I ⟨f,a,lN,j,W b0,X b0,h9⟩ lN
   ·have hg:=b4 A;refine kP<|tN<|sQ<|dW [8] [(0,2),(1,2),(2,2),(3,1),(5,2),(6,2),(7,2),(4,0),(8,0),(9,2)] ze4 kR<|yM I<|yM I<|pU I (iA aA zT3 I I M oM sL)<|gB I (eB iT3 I (za7<|hv.mono f) N I)<|yM I<|yM I<|pU I (Ik aA zT3 I I oM oM)<|mf I (bS sty43 I I I (ab ⟨I,trivial⟩) dC) dC (.inr iR) ?_;rintro _ _ _ ⟨c5,rfl,rfl,rfl⟩;refine JJ (fun w hw=>Ig (e:=encInt) (l:=[x]) (n:=0) hw I I dC) ?_;refine mf I (aQ (e:=encInt) 0 sty43 I I I a5 (by rw[zf1];(first | with_reducible rfl | ((try dsimp only);(try simp only[ze6,ze9,zc5,ze8,ze5,zf1])<;>omega)))<|by rw[zf1];(first | with_reducible rfl | ((try dsimp only);(try simp only[ze6,ze9,zc5,ze8,ze5,zf1])<;>omega))) dC (.inl dC) ?_;rintro v54 _ _ ⟨rfl,rfl⟩;refine pU I (aS I) (du<|tN<|sQ<|fS fun g2 D b5=>?_);have a1:dA g2 v54<|[x]++out.drop k:=b5;refine rG<|lW (bS sty43 I I I (ab trivial) dC) ?_;rintro _ _ _ ⟨b6,rfl,rfl,rfl⟩;refine Is 3 1 (some ⟨b6,0,none⟩)<|lM I<|lM I<|lU (Il aA zT3 I I oM oM)<|lW (aQ (e:=encInt) (l:=[]) 0 sty43 I I I (a9.mono D) (by rw[ze5];(first | with_reducible rfl | ((try dsimp only);(try simp only[ze6,ze9,zc5,ze8,ze5,zf1])<;>omega)))<|by rw[ze5];(first | with_reducible rfl | ((try dsimp only);(try simp only[ze6,ze9,zc5,ze8,ze5,zf1])<;>omega))) ?_;rintro v59 _ _ ⟨rfl,rfl⟩;refine lM I<|lW (aQ (e:=encInt) 0 sty43 I I I a1 lN lN) ?_;rintro v61 _ _ ⟨rfl,rfl⟩;refine aT I (fS fun g3 L b7=>?_);have Q:dA g3 v61<|out.take k++x::out.drop k:=(by have h:dA g3 v61<|[]++out.take k++([x]++out.drop k):=b7;simpa using h);refine Jk (s':=s) (.cons _<|.refl _) ?_;obtain ⟨q3,d3,rfl⟩:=za4 Q;refine SC.sub (f':=[(0,.slice p l.length c),(4,.slice q3 (out.take k++x::out.drop k).length d3),(5,vi i)]) sB ?_;refine BY 71 ((decide (x<0)||decide ((((out.take k++x::out.drop k).length:Nat):Int)>9))) ?_ ?_
    ·refine rG<|lM I<|lM I<|lU (iA aA zT3 I I M oM sL)<|lK (eB iT3 I (za7<|hv.mono<|f.trans<|D.trans L) N I)<|yL I<|lM I<|sP ?_ ?_
     ·intro a2;exact yA I<|yA I<|yA I<|yP I<|cp<|zb1 (by (rw[f1 a2];rfl)) mI
     ·intro a2;exact yC I<|lY I I I (eN aA I)<|lY I I I (gR I I)<|yF I<|cp<|zb1 (by (rw[f2 a2];rfl)) mI
    refine iQ I (fun B=>?_) (fun B=>?_)
    ·have b8:okS l=false:=by
      rw[zj5,zj7,zj7] at B
      rcases B with h | h
      ·exact Z h
      ·exact a0 hg oM
     exact rZ<|lA I<|aT I<|rE<|bR<|tR<|tR<|bR<|tR<|Iq (.inl I) results109 I I ⟨I,f.trans<|D.trans L,.inr ⟨b8,I⟩⟩
    ·rw[Bool.or_eq_false_iff,hP,hP] at B;exact kP<|bN<|tN<|rG<|lM I<|yD I<|lA I<|cp<|ct (g3,_,out.take k++x::out.drop k,i+1) sB I I (b3 g3 q3 d3 hg (f.trans<|D.trans L) Q B.1 oM) lN
 ·have b9:l.take i=l:=tL oM;rw[b9] at t z;have R:=Gk j t;have c0:okS l=true:=by unfold okS;rw[z,← R];simpa using h9
  exact xI<|tX<|tX<|bX<|tN<|sW I<|lA I<|aT I<|rE<|Iq (.inl I) results109 I I ⟨I,f,.inl ⟨c0,_,I,by rw[← R];exact a⟩⟩
abbrev fq (l:List<|List Int):Prop:=l.Pairwise fun a b=>aw a b<0
theorem ja (h:aw a b<0):¬ aw b a<0:=by have:=jx a b;omega
theorem fq.srt {l:List<|List Int}(h:fq l):ux l:=h.imp fun h=>ja h
theorem i8:∀ {l m:List<|List Int},fq l→fq m→(∀ x,x∈l↔x∈m)→l=m
 | [],[],_,_,_=>rfl
 | [],y::m,_,_,h=>by have:=(h y).2 dO;simp at this
 | x::l,[],_,_,h=>by have:=(h x).1 dO;simp at this
 | x::l,y::m,hl,hm,h=>by
  obtain ⟨d,g⟩:=zk4.1 hl;obtain ⟨f,i⟩:=zk4.1 hm;have c:x=y:=by
   rcases zf2.1 ((h x).1<|by simp) with e | j
   ·exact e
   ·rcases zf2.1 ((h y).2<|by simp) with e | k
    ·exact e.symm
    ·exact absurd (d y k)<|ja<|f x j
  subst c;have a:¬ aw x x<0:=by rw[cZ];decide
  rw[i8 g i fun z=>?_];constructor
  ·intro hz
   rcases zf2.1 ((h z).1<|by simp[hz]) with e | b
   ·subst e;exact absurd (d z hz) a
   ·exact b
  ·intro hz
   rcases zf2.1 ((h z).2<|by simp[hz]) with e | b
   ·subst e;exact absurd (f z hz) a
   ·exact b
theorem i5:∀ {x:List Int} {l:List<|List Int},ux (x::l)→fq (bn eqL x l)∧(∀ y∈bn eqL x l,aw x y<0)∧∀ y,y∈l→y=x∨y∈bn eqL x l
 | x,[],_=>⟨List.Pairwise.nil,by simp[bn],by simp⟩
 | x,y::r,h=>by
  obtain ⟨c,d⟩:=zk4.1 h;obtain ⟨i1,i2,i3⟩:=i5 d;have b:=c y dO;unfold bn;by_cases e:y=x
  ·subst e;simp only[eqL,decide_true,if_true];refine⟨i1,i2,fun z hz=>?_⟩
   rcases zf2.1 hz with rfl | hz
   ·exact .inl I
   ·exact i3 z hz
  ·have a:aw x y<0:=by
    rcases ex x y with h | h | h
    ·exact h
    ·exact absurd h.symm e
    ·exact absurd h b
   simp only[eqL,e,decide_false];refine⟨zk4.2 ⟨i2,i1⟩,fun z hz=>?_,fun z hz=>?_⟩
   ·rcases zf2.1 hz with rfl | hz
    ·exact a
    ·exact fg _ _ _ a<|i2 z hz
   ·rcases zf2.1 hz with rfl | hz
    ·exact .inr dO
    ·rcases i3 z hz with rfl | h
     ·exact .inr dO
     ·refine .inr ?_;simp;exact .inr h
theorem ln (all:List<|List Int)(t:List Int):fq<|e7 all t:=by
 have a:=jX<|all++bU t;unfold e7;cases h:oW (all++bU t) with
 | nil=>exact List.Pairwise.nil
 | cons x r =>
  rw[h] at a;obtain ⟨b,c,_⟩:=i5 a;exact zk4.2 ⟨c,b⟩
theorem jG (all:List<|List Int)(t x:List Int):x∈e7 all t↔x∈all∨x∈bU t:=by
 refine⟨l7,fun h=>?_⟩;have a:=jX<|all++bU t;have hm:x∈oW (all++bU t):=(jh _).symm.subset<|zf4.2 h;unfold e7;cases hc:oW (all++bU t) with
 | nil=>rw[hc] at hm;simp at hm
 | cons y r =>
  rw[hc] at a hm
  rcases zf2.1 hm with rfl | hm
  ·simp[je]
  ·rcases (i5 a).2.2 x hm with rfl | h
   ·simp[je]
   ·simp[je,h]
theorem pm:∀ {l:List<|List Int} (t:List Int),ux l→(∀ y∈l.take (lbL l t),aw y t<0)∧∀ y∈l.drop (lbL l t),¬ aw y t<0
 | [],t,_=>⟨by simp,by simp⟩
 | a::r,t,e=>by
  obtain ⟨f,g⟩:=zk4.1 e;obtain ⟨i1,i2⟩:=pm t g;by_cases d:aw a t<0
  ·have hl:lbL (a::r) t=lbL r t+1:=by simp[lbL,d]
   rw[hl,List.take_succ_cons,List.drop_succ_cons];refine⟨fun y b=>?_,i2⟩
   rcases zf2.1 b with rfl | b
   ·exact d
   ·exact i1 y b
  ·have c:∀ y∈a::r,¬ aw y t<0:=fun y b=>by
    rcases zf2.1 b with rfl | b
    ·exact d
    ·exact iK y a t (f y b) d
   have hz:lbL (a::r) t=0:=by
    unfold lbL;rw[List.length_eq_zero_iff,List.filter_eq_nil_iff];intro y b;simpa using c y b
   rw[hz];exact⟨by simp,by simpa using c⟩
theorem yS {l:List<|List Int}{t:List Int}(d:fq l)(hn:l.contains t=false):fq<|l.take (lbL l t)++t::l.drop (lbL l t):=by
 obtain ⟨e,f⟩:=pm t d.srt;have b:fq<|l.take (lbL l t)++l.drop (lbL l t):=by rw[zj3];exact d
 have c:=List.pairwise_append.1 b;refine List.pairwise_append.2 ⟨c.1,zk4.2 ⟨fun y a=>?_,c.2.1⟩,fun y a z hz=>?_⟩
 ·rcases ex t y with h | h | h
  ·exact h
  ·have:l.contains t=true:=by rw[h];simpa using List.mem_of_mem_drop a
   rw[hn] at this;cases this
  ·exact absurd h<|f y a
 ·rcases zf2.1 hz with rfl | hz
  ·exact e y a
  ·exact c.2.2 y a z hz
theorem EA (all:List<|List Int):Srt Cl.id<|bi all:=by
 unfold Srt;rw[zd1];intro i j b c a;simp[bi,og];omega
theorem s4 (all:List<|List Int):aa (bi all)=(bi all).map cH:=by
 unfold aa;rw[← bl (EA all) (aN.refl _)]
theorem Ep (k:Nat):((k:Nat):Int).tmod 2=((k:Nat):Int) % 2:=Int.tmod_eq_emod_of_nonneg oM
theorem a6 (v:Value)(ls:List<|List Int)(hv:dn g v ls)(hn:ls.length<1099511627776)(hl:∀ x∈ls,x.length<17592186044416) :
  Ctr Tryz.prog E 63 #[v] g s fun r g' s'=>s=s'∧Le g g'∧∃ u,r = .agg #[u]∧ai g' u (dJ ls):=by
 obtain ⟨D,a4,a5⟩:=hv;have c9:=a5.length;obtain ⟨p,c,rfl⟩:=za4 a4;refine zb2 (args:=[.slice p D.length c]) func63 I ntmps63 (bE I)<|rZ (bW (aL zl9) fun G=>?_);refine tZ<|rZ<|aT I<|sQ<|rZ<|aT I<|bK<|oP (ι:=PH×Value×List (List Int)×Nat) (fun i=>[(0,.slice p D.length c),(2,pp G 0),(3,i.2.1),(4,vi i.2.2.2)]) (fun i=>i.1)
  (fun _=>pt G (bY #[.slice none 0 0] 29)::s)
  (fun i=>Le g i.1∧i.2.2.2≤D.length∧dn i.1 i.2.1 i.2.2.1∧(i.2.2.1.length≤4000∧∀ x∈i.2.2.1,x.length≤9)∧fq i.2.2.1∧a8 [] ls=a8 i.2.2.1 (ls.drop i.2.2.2)) (fun i=>D.length - i.2.2.2)
  (g,.slice none 0 0,[],0) sB rfl rfl ⟨zb9 g,zf7 _,⟨[],zc1 g _,trivial⟩,⟨zf7 _,by simp⟩,List.Pairwise.nil,rfl⟩ ?_
 rintro ⟨g1,av,all,i⟩ ⟨a0,hi,a9,⟨e1,a1⟩,P,W⟩;dsimp only at a0 hi a9 e1 a1 P W ⊢;refine sQ<|sW I<|lM I<|lU (eN fe I)<|yL I<|tZ<|iP I (fun i1=>?_) (fun i1=>?_)
 ·have a2:i<ls.length:=oM;have e2:i<D.length:=oM;have hR:=(a5.get (bd a2)<|bd e2).mono a0;have i2:=hl _<|gM a2;have Q:=a4.based oM;have d0:ls.drop i=ls[i]::ls.drop (i+1):=zg7 a2;rw[d0] at W;generalize hx:ls[i]=x at *;generalize hr:D[i]=r at *;have R:D[((i:Nat):Int).toNat]?=some r:=by rw[← hr];exact bd e2
  refine kP<|tN<|sQ<|bK<|sW I<|lM I<|lU (iA fe gy I I Q oM sL)<|lK (eB iE I (a4.mono a0).rd R I)<|lW (bt call109 I<|ED E g1 _ _ x hR i2) ?_;rintro v31 g2 _ ⟨rfl,b0,e4⟩;have Z:=a9.mono b0
  rcases e4 with ⟨d1,u,rfl,hu⟩ | ⟨d1,rfl⟩
  ·obtain ⟨d2,i3⟩:=EP d1;obtain ⟨q,d,rfl⟩:=za4 hu;have n8:=B6 (dM x).length d2;refine lM I<|yX I<|yX I<|lA I<|aT I<|lu (ι:=PH×Value×List (List Int)) (fun j=>[(0,.slice p D.length c),(2,pp G 0),(3,j.2.1),(4,vi i)]) (fun j=>j.1) (fun _=>pt G (bY #[.slice none 0 0] 29)::s)
    (fun j=>Le g j.1∧dn j.1 j.2.1 j.2.2∧fq j.2.2∧(∀ y,y∈j.2.2↔y∈all∨y∈bU (dM x))∧j.2.2.length≤4600) ?_ ?_
   ·refine rZ<|aT I<|bK<|oP (ι:=PH×Value×List (List Int)×Nat) (fun j=>[(0,.slice p D.length c),(2,pp G 0),(3,j.2.1),(4,vi i),(5,.slice q (dM x).length d),(6,vb true),(7,vi (j.2.2.2+1:Nat))]) (fun j=>j.1) (fun _=>pt G (bY #[.slice none 0 0] 29)::s)
     (fun j=>Le g2 j.1∧j.2.2.2+1≤2 ^ (dM x).length∧dn j.1 j.2.1 j.2.2.1∧fq j.2.2.1∧(∀ y,y∈j.2.2.1↔y∈all∨y∈(List.range j.2.2.2).map fun m=>fj (m+1)<|dM x)∧j.2.2.1.length≤4000+j.2.2.2) (fun j=>2 ^ (dM x).length - j.2.2.2)
     (g2,av,all,0) sB rfl rfl ⟨zb9 g2,Nat.one_le_two_pow,Z,P,by simp,lN⟩ ?_
    rintro ⟨g3,bv,z,b⟩ ⟨a,hb,S,H,M,d3⟩;dsimp only at a hb S H M d3 ⊢;have b1:∀ y∈z,y.length≤9:=fun y hy=>by
     rcases (M y).1 hy with h | h
     ·exact a1 y h
     ·obtain ⟨m,_,rfl⟩:=zf3.1 h;exact zk8 (gP _ _) d2
    refine sQ<|sW I<|lM I<|yC I<|yC I<|lY I I I (eN aA I)<|lY I I I (SU.eq (v':=vi ((2 ^ (dM x).length:Nat):Int)) (SU.shl I I oM)<|ze3 vi<|Cp (dM x).length oM)<|lY I I I (lS I I)<|yP I<|tZ<|iP I (fun b3=>?_) (fun b3=>?_)
    ·have c3:b+1<2 ^ (dM x).length:=oM;refine kP<|tN<|sQ<|bK<|rZ<|aT I<|sQ<|sQ<|zb6 3 1<|rG<|aT I<|bK<|oP (ι:=Value×Nat) (fun k=>[(0,.slice p D.length c),(2,pp G 0),(3,bv),(4,vi i),(5,.slice q (dM x).length d),(6,vb true),(7,vi (b+1:Nat)),(8,k.1),(9,vi k.2)]) (fun _=>g3)
      (fun k=>rowA encInt 3 k.1 (fj (b+1)<|(dM x).take k.2)::pt G (bY #[.slice none 0 0] 29)::s) (fun k=>k.2≤(dM x).length) (fun k=>(dM x).length - k.2) (.slice none 0 0,0)
      sB rfl rfl (zf7 _) ?_
     rintro ⟨cv,k⟩ hk;dsimp only at hk ⊢;have j0:=gP (b+1)<|(dM x).take k;rw[ze5] at j0;refine sQ<|sW I<|lM I<|lU (eN aA I)<|yL I<|tZ<|iP I (fun e9=>?_) (fun e9=>?_)
     ·have a2:k<(dM x).length:=oM;have j1:=za6 (hu.mono a) oM;have F:=sh (bits:=b+1) a2;refine kP<|tN<|sQ<|bK<|sW I<|lM I<|lU (I0 I I oM)<|lU (SU.eq (v':=vi (((b+1) / 2 ^ k % 2:Nat):Int)) (SU.and I I)<|ze3 vi<|(xD _).trans<|Co (b+1) k oM)<|yE I<|tZ<|iP I (fun f7=>?_) (fun f7=>?_)
      ·refine rG<|lM I<|lM I<|lM I<|lU (iA aA zT3 I I j1 oM sL)<|SL.q (eB iT3 I (za7<|hu.mono a) (bd a2) I) dC ?_;refine lW (bS sty43 I I I (ab sB) dC) ?_;rintro _ _ _ ⟨p2,rfl,rfl,rfl⟩;refine lW (aP (e:=encInt) 0 (dM x)[k] sty43 I I I I I oM oM) ?_;rintro cv' _ _ ⟨rfl,rfl⟩;refine lA I<|cp<|bN<|tN<|rG<|lM I<|yD I<|lA I<|cp ?_;refine ST.to (fun w hw=>?_) (g':=g3) (s':=rowA encInt 3 cv' (fj (b+1)<|(dM x).take<|k+1)::pt G (bY #[.slice none 0 0] 29)::s) ?_
       ·rw[F,zg2 oM];exact hw
       exact ct (cv',k+1) sB I I lN lN
      ·refine kP<|bN<|tN<|rG<|lM I<|yD I<|lA I<|cp ?_;refine ST.to (fun w hw=>?_) (g':=g3) (s':=rowA encInt 3 cv (fj (b+1)<|(dM x).take<|k+1)::pt G (bY #[.slice none 0 0] 29)::s) ?_
       ·rw[F,zg1 oM];exact hw
       exact ct (cv,k+1) sB I I lN lN
     ·have j2:(dM x).take k=dM x:=tL oM;have p3:=gP (b+1)<|dM x;have b4:∀ nw:List (List Int),(∀ y,y∈nw↔y=fj (b+1) (dM x)∨y∈z)→∀ y,y∈nw↔y∈all∨y∈(List.range<|b+1).map fun m=>fj (m+1) (dM x):=fun nw h y=>by
       rw[h,M,wb,zg6,zf4];simp;constructor
       ·rintro (h | h | h)
        ·exact .inr<|.inr h
        ·exact .inl h
        ·exact .inr<|.inl h
       ·rintro (h | h | h)
        ·exact .inr<|.inl h
        ·exact .inr<|.inr h
        ·exact .inl h
      generalize l0:fj (b+1) (dM x)=t at *;refine xI (tX<|tX<|bX<|tN<|sQ<|fS fun g4 f c0=>?_);rw[j2,l0] at c0;have ht:dA g4 cv t:=c0;have b5:=S.mono f;refine rG<|lM I<|lM I<|lW (bt call110 I<|sf E g4 _ _ _ z t b5 ht oM (fun y hy=>by have:=b1 y hy;omega) oM H.srt) ?_;rintro _ _ _ ⟨rfl,rfl,rfl⟩;refine lM I<|yX I<|yX I<|lA I<|aT I<|sW I<|lU (oF I)<|tZ<|iQ I (fun N=>?_) (fun N=>?_)
      ·have d4:z.contains t=false:=by simpa using N
       have l1:=B7 z t;obtain ⟨ra,J,B⟩:=b5;have c4:=B.length;obtain ⟨qa,da,rfl⟩:=za4 J;have l2:=(IK J).2;obtain ⟨qt,dt,rfl⟩:=za4 ht;have f8:=IC J (l:=lbL z t) (m:=ra.length) oM<|dm _;have g7:=IC J (l:=0) (m:=lbL z t) (zf7 _) oM;rw[tL<|by rw[zf1];exact dm _] at f8;rw[List.drop_zero,Nat.sub_zero] at g7;refine sW I<|lW (bS sty22 I I I (ab ⟨I,trivial⟩) dC) ?_;rintro _ _ _ ⟨p4,rfl,rfl,rfl⟩;refine SL.to (fun w hw=>Ig (e:=ec) (l:=[⟨qt,t.length,dt⟩]) (n:=0) hw I I dC) ?_;refine lM I<|lM I<|lU (Ik fe gy I I oM oM)<|lW (aQ (e:=ec) 0 sty22 I I I f8 (by rw[zf1];(first | with_reducible rfl | ((try dsimp only);(try simp only[ze6,ze9,zc5,ze8,ze5,zf1])<;>omega)))<|by rw[zf1];(first | with_reducible rfl | ((try dsimp only);(try simp only[ze6,ze9,zc5,ze8,ze5,zf1])<;>omega))) ?_;rintro v75 _ _ ⟨rfl,rfl⟩;refine aT I (fS fun g5 C d5=>?_);have X:SlA ec g5 v75<|[⟨qt,t.length,dt⟩]++ra.drop (lbL z t):=d5;refine rG<|lW (bS sty22 I I I (ab trivial) dC) ?_;rintro _ _ _ ⟨l3,rfl,rfl,rfl⟩;refine Is 43 1 (some ⟨l3,0,none⟩)<|lM I<|lM I<|lU (Il fe gy I I oM oM)<|lW (aQ (e:=ec) (l:=[]) 0 sty22 I I I (g7.mono C) (by rw[ze5];(first | with_reducible rfl | ((try dsimp only);(try simp only[ze6,ze9,zc5,ze8,ze5,zf1])<;>omega)))<|by rw[ze5];(first | with_reducible rfl | ((try dsimp only);(try simp only[ze6,ze9,zc5,ze8,ze5,zf1])<;>omega))) ?_;rintro v80 _ _ ⟨rfl,rfl⟩;refine lM I<|lW (aQ (e:=ec) 0 sty22 I I I X lN lN) ?_;rintro v82 _ _ ⟨rfl,rfl⟩;refine lA I (cp<|bN<|tN<|rG<|lM I<|yD I<|lA I<|cp<|fT fun g6 A a3=>?_);refine dR (s':=pt G (bY #[.slice none 0 0] 29)::s) (.cons _<|.refl _) ?_;have g8:dn g6 v82<|z.take (lbL z t)++t::z.drop (lbL z t):=by
        refine⟨ra.take (lbL z t)++⟨qt,t.length,dt⟩::ra.drop (lbL z t),?_,?_⟩
        ·have h:SlA ec g6 v82<|[]++ra.take (lbL z t)++([⟨qt,t.length,dt⟩]++ra.drop (lbL z t)):=a3;simpa using h
        ·exact ((ay.take _ B).mono fun _ _=>ep.mono<|C.trans A).append ⟨ht.mono<|C.trans A,(ay.drop _ B).mono fun _ _=>ep.mono<|C.trans A⟩
       exact ct (g6,v82,z.take (lbL z t)++t::z.drop (lbL z t),b+1) ⟨I,I,I,I,I,I,bP dO,trivial⟩ I I ⟨a.trans<|f.trans<|C.trans A,c3,g8,yS H d4,b4 _ fun y=>Cv,lN⟩ lN
      ·have d4:t∈z:=by simpa using N
       exact kP<|bN<|tN<|rG<|lM I<|yD I<|lA I<|cp<|ct (g4,bv,z,b+1) ⟨I,I,I,I,I,I,bP dO,trivial⟩ I I ⟨a.trans f,c3,b5,H,b4 _ fun y=>⟨.inr,fun h=>h.elim (fun e=>by rw[e];exact d4) id⟩,lN⟩ lN
    ·have l4:b=2 ^ (dM x).length - 1:=oM;exact xI<|tX<|tX<|bX<|za9 (g3,bv,z) sB I I ⟨a0.trans<|b0.trans a,S,H,fun y=>by dsimp only;rw[M];unfold bU;rw[l4],lN⟩
   ·rintro ⟨g3,bv,z⟩ ⟨a,S,H,M,d3⟩;dsimp only at a S H M d3 ⊢;have b1:∀ y∈z,y.length≤9:=fun y hy=>by
     rcases (M y).1 hy with h | h
     ·exact a1 y h
     ·exact i7 d2 y h
    have key:((z.length:Int)>4000→a8 [] ls=none)∧(¬ (z.length:Int)>4000→a8 [] ls=a8 z (ls.drop<|i+1)):=by
     by_cases hb:jO (dM x)=true
     ·have he:=i3 hb;have L:z=all:=i8 H P fun y=>by rw[M,he];simp[bU]
      refine⟨fun h=>by rw[L] at h;omega,fun _=>by rw[W,a8,zg2 hb,L]⟩
     ·have L:z=e7 all (dM x):=i8 H (ln _ _) fun y=>by rw[M,jG]
      refine⟨fun h=>by rw[W,a8,zg1 hb,zg2<|by rw[← L];exact h],fun h=>by rw[W,a8,zg1 hb,zg1<|by rw[← L];exact h,← L]⟩
    obtain ⟨ra,J,B⟩:=S;have S:dn g3 bv z:=⟨ra,J,B⟩;have c4:=B.length;obtain ⟨qa,da,rfl⟩:=za4 J;refine sW I<|lU (eN fe I)<|lU (gR I I)<|tZ<|iP I (fun Y=>?_) (fun Y=>?_)
    ·exact rZ<|lU (za3 I<|buildE29)<|oZ (sK 0 ae I I I I I sB)<|tZ<|rE<|bR<|tR<|tR<|bR<|tR<|kn 0 s (.inl I) results63 I aj ae I I uR ⟨I,a,_,I,by simp only[dJ,key.1 oM];exact⟨[],zc1 _ _,trivial⟩⟩
    ·exact kP<|bN<|tN<|rG<|lM I<|yD I<|lA I<|cp<|ct (g3,_,z,i+1) sB I I ⟨a,lN,S,⟨lN,b1⟩,H,key.2 oM⟩ lN
  ·have hb:=GB d1;obtain ⟨ra,J,B⟩:=Z;have Z:dn g2 av all:=⟨ra,J,B⟩;have c4:=B.length;obtain ⟨qa,da,rfl⟩:=za4 J;refine lM I<|yX I<|yX I<|lA I<|aT I<|sQ<|rZ<|aT I<|bK<|oP (ι:=Unit) (fun _=>[(0,.slice p D.length c),(2,pp G 0),(3,.slice qa ra.length da),(4,vi i),(5,.slice none 0 0),(6,vb false),(7,vi 1)]) (fun _=>g2) (fun _=>pt G (bY #[.slice none 0 0] 29)::s) (fun _=>True) (fun _=>0) () sB I I trivial ?_;rintro ⟨⟩ -;refine sQ<|sW I<|lM I<|yA I<|yA I<|yA I<|yA I<|yA I<|yF I<|tZ<|za1 I<|xI<|tX<|tX<|bX<|tN<|sW I<|lU (eN fe I)<|lU (gR I I)<|tZ<|iP I (fun Y=>?_) (fun Y=>?_)
   ·exfalso;omega
   ·exact kP<|bN<|tN<|rG<|lM I<|yD I<|lA I<|cp<|ct (g2,_,all,i+1) sB I I ⟨a0.trans b0,lN,Z,⟨e1,a1⟩,P,by dsimp only;rw[W,a8,zg2 hb]⟩ lN
 ·have m1:i=D.length:=oM;have d7:a8 [] ls=some all:=by rw[W,m1,← c9,List.drop_length];rfl
  obtain ⟨rs,O,b6⟩:=a9;have a9:dn g1 av all:=⟨rs,O,b6⟩;have p5:=b6.length;obtain ⟨q,d,rfl⟩:=za4 O;refine xI (tX<|tX<|bX<|tN<|rZ<|bW (aL zl9) fun T=>?_);refine tZ<|sQ<|rZ<|aT I<|bK<|zb6 61 3<|oP (ι:=PH×Value×List Rc×Nat) (fun i=>[(2,pp G 0),(3,.slice q rs.length d),(13,pp T 0),(14,vi i.2.2.2)]) (fun i=>i.1)
   (fun i=>rowA encCell 61 i.2.1 i.2.2.1::pt T (bY #[i.2.1] 29)::pt G (bY #[.slice none 0 0] 29)::s)
   (fun i=>Le g1 i.1∧i.2.2.2≤rs.length∧ay (an i.1) (((bi all).take i.2.2.2).map cH) i.2.2.1) (fun i=>rs.length - i.2.2.2)
   (g1,.slice none 0 0,[],0) sB rfl rfl ⟨zb9 g1,zf7 _,trivial⟩ ?_
  rintro ⟨g3,ov,U,n⟩ ⟨a,m2,V⟩;dsimp only at a m2 V ⊢;have g9:=V.length;rw[ze7,ze5,bT] at g9;refine sQ<|sW I<|lM I<|lU (eN fe I)<|yL I<|tZ<|iP I (fun b3=>?_) (fun b3=>?_)
  ·have d8:n<all.length:=oM;have h1:n<rs.length:=oM;have Q:=O.based oM;have hR:=(b6.get (bd d8)<|bd h1).mono a;have h2:=hR.len;have p6:=a1 _<|gM d8;have h3:=jJ d8;generalize hx:all[n]=x at *;generalize hr:rs[n]=r at *;obtain ⟨rp,rn,rc⟩:=r;dsimp only at h2;subst h2;have m3:dA g3 (.slice rp x.length rc) x:=hR;have R:rs[((n:Nat):Int).toNat]?=some ⟨rp,x.length,rc⟩:=by rw[← hr];exact bd h1
   refine kP (tN<|sQ<|bK<|sW I<|yD I<|lM I<|lM I<|lU (iA fe gy I I Q oM sL)<|lK (eB (u:=.slice rp x.length rc) iE I (O.mono a).rd R I)<|lU (eN aA I)<|lU (sU I I oM)<|lU (za3 I<|buildC61 _ _)<|bW (aL zl6) fun b7=>?_);refine oZ (sK 0 ar I I I I I sB)<|tZ<|lu (ι:=PH×Value) (fun i=>[(2,pp G 0),(3,.slice q rs.length d),(13,pp T 0),(14,vi n),(15,pp b7 0)]) (fun i=>i.1)
    (fun i=>rowA encSide 87 i.2 (a7 all x x.length)::pt b7 (bY #[vi<|(n:Int)+1,vi<|(x.length:Int) - 1,i.2] 61)::rowA encCell 61 ov U::pt T (bY #[ov] 29)::pt G (bY #[.slice none 0 0] 29)::s)
    (fun i=>Le g3 i.1) ?_ ?_
   ·refine sQ<|zb6 87 2<|rG<|aT I<|bK<|oP (ι:=PH×Value×Nat) (fun i=>[(2,pp G 0),(3,.slice q rs.length d),(13,pp T 0),(14,vi n),(15,pp b7 0),(16,vi i.2.2)]) (fun i=>i.1)
     (fun i=>rowA encSide 87 i.2.1 (a7 all x i.2.2)::pt b7 (bY #[vi<|(n:Int)+1,vi<|(x.length:Int) - 1,i.2.1] 61)::rowA encCell 61 ov U::pt T (bY #[ov] 29)::pt G (bY #[.slice none 0 0] 29)::s)
     (fun i=>Le g3 i.1∧i.2.2≤x.length) (fun i=>x.length - i.2.2)
     (g3,.slice none 0 0,0) sB rfl rfl ⟨zb9 g3,zf7 _⟩ ?_
    rintro ⟨g4,sv,j⟩ ⟨f,hj⟩;dsimp only at f hj ⊢;have h4:=fk all x j;have F:=gJ all x j;have b8:dA g4 (.slice rp x.length rc) x:=m3.mono f;by_cases m4:j<x.length
    ·have c1:((j:Nat):Int)<((x.length:Nat):Int):=oM;by_cases c5:((x.length:Int) - 1)>0
     ·have p7:(x.eraseIdx j).length=x.length - 1:=by rw[List.length_eraseIdx];simp[m4]
      have e0:gh all x j=[⟨lbL all (x.eraseIdx j)+1,dK j⟩]:=by unfold gh;rw[zg2 oM]
      have l1:=B7 all<|x.eraseIdx j;rw[e0] at F;have o1:=(IK b8).2;have h5:=IC b8 (l:=0) (m:=j) oM oM;have h6:=IC b8 (l:=j+1) (m:=x.length) oM oM;have n0:(x.drop 0).take (j - 0)=x.take j:=by simp
      have n1:(x.drop<|j+1).take (x.length - (j+1))=x.drop (j+1):=tL (by rw[zf1];omega);rw[n0] at h5;rw[n1] at h6;have n2:[]++x.take j++x.drop (j+1)=x.eraseIdx j:=by rw[List.eraseIdx_eq_take_drop_succ];simp
      have c6:([]++x.take j).length=j:=by simp;omega
      refine sQ<|sW I<|lM I<|lM I<|lU (iA fe gy I I Q oM sL)<|lK (eB (u:=.slice rp x.length rc) iE I (O.mono<|a.trans f).rd R I)<|lU (eN aA I)<|lU (SU.eq (v':=vb true) (lS I I)<|ze3 vb<|zf9 c1)<|lM I<|lY I I I (bj ap I zT3 I)<|lR (gT I I I dC) (qL (v:=vi<|(x.length:Int) - 1) iT3 I<|cO 1 I I) dC<|lY I I I (SU.eq (v':=vb true) (gR I I)<|ze3 vb<|zf9 c5)<|yP I<|tZ<|za2 I<|kP<|tN<|sQ<|bK<|sQ<|dW [15] [(1,2),(2,2),(3,2),(4,1),(5,2),(6,2),(8,2),(9,2),(10,2),(11,1),(12,2),(13,2),(14,2),(0,0),(7,0),(15,0),(16,2)] ze4 kR<|yM I<|yM I<|pU I (iA fe gy I I Q oM sL)<|gB I (eB (u:=.slice rp x.length rc) iE I (O.mono<|a.trans f).rd R I)<|yM I<|pU I (Il aA zT3 I I oM oM)<|yM I<|yM I<|pU I (iA fe gy I I Q oM sL)<|gB I (eB (u:=.slice rp x.length rc) iE I (O.mono<|a.trans f).rd R I)<|yM I<|pU I (aD I I oM)<|pU I (SU.eq (v':=sliced rp (j+1) x.length rc 1) (Ik aA zT3 I I oM oM)<|by rw[show ((j:Int)+1).toNat=j+1 by omega])<|mf I (bS sty43 I I I (ab trivial) dC) dC (.inr iR) ?_;rintro _ _ _ ⟨h7,rfl,rfl,rfl⟩;refine JJ (fun w hw=>hw.emptyRow 3 1<|some ⟨h7,0,none⟩) ?_;refine mf I (aQ (e:=encInt) (l:=[]) 0 sty43 I I I h5 (by rw[ze5];(first | with_reducible rfl | ((try dsimp only);(try simp only[ze6,ze9,zc5,ze8,ze5,zf1])<;>omega)))<|by rw[ze5];(first | with_reducible rfl | ((try dsimp only);(try simp only[ze6,ze9,zc5,ze8,ze5,zf1])<;>omega))) dC (.inr iR) ?_;rintro v123 _ _ ⟨rfl,rfl⟩;refine mf I (aQ (e:=encInt) 0 sty43 I I I h6 (by rw[zf1,c6];omega)<|by rw[zf1,c6];omega) dC (.inl dC) ?_;rintro v131 _ _ ⟨rfl,rfl⟩;refine pU I (aS I) (du<|tN<|sQ<|fS fun g6 A a3=>?_);have X:dA g6 v131<|x.eraseIdx j:=(by rw[← n2];exact a3);refine Jk (s':=rowA encSide 87 sv (a7 all x j)::pt b7 (bY #[vi<|(n:Int)+1,vi<|(x.length:Int) - 1,sv] 61)::rowA encCell 61 ov U::pt T (bY #[ov] 29)::pt G (bY #[.slice none 0 0] 29)::s) (.cons _<|.refl _)<|rG<|lM I<|lM I<|lW (bt call110 I<|sf E g6 _ _ _ all (x.eraseIdx j) (a9.mono<|a.trans<|f.trans A) X oM (fun y hy=>by have:=a1 y hy;omega) oM P.srt) ?_;rintro _ _ _ ⟨rfl,rfl,rfl⟩;refine lM I<|yX I<|yX I<|lA I<|aT I<|rG<|lU (bj ap I aI I)<|lK (qL (v:=sv) bg I<|cO 1 I I)<|lM I<|yD I<|lM I<|lU (SU.eq (v':=vi<|(j:Int) % 2) (zd9 I I dC)<|ze3 vi<|Ep j)<|lU (Iz I I oM)<|lU (SU.eq (v':=vi<|dK j) (sU I I oM) I)<|lU (za3 I<|buildS87 _ _)<|lW (bS sty45 I I I (ab sB) dC) ?_;rintro _ _ _ ⟨o2,rfl,rfl,rfl⟩;refine lW (aP (e:=encSide) 0 ⟨lbL all (x.eraseIdx j)+1,dK j⟩ sty45 I I I I I oM oM) ?_;rintro v148 _ _ ⟨rfl,rfl⟩;rw[← F];refine zd4 fun ⟨w0,b9⟩=>?_;obtain ⟨p0,d148,rfl⟩:=ag (i:=0) b9 rfl;clear b9 w0;refine lU (bj ap rfl aI rfl)<|oZ (oi 1 aI rfl rfl rfl rfl (bE rfl)<|by rfl) ?_;refine cp<|bN<|tN<|rG<|lM I<|yD I<|lA I<|cp ?_;exact ct (g6,_,j+1) sB I I ⟨f.trans A,lN⟩ lN
     ·have h8:x.length=1:=oM;have n3:j=0:=oM;have c2:a7 all x x.length=a7 all x j:=by
       rw[h8,n3];have h0:=gJ all x 0;have n4:gh all x 0=[]:=by
        unfold gh;rw[zg1];rw[List.length_eraseIdx];simp[h8]
       rw[h0,n4,zc7]
      rw[← c2];exact sQ<|sW I<|lM I<|lM I<|lU (iA fe gy I I Q oM sL)<|lK (eB (u:=.slice rp x.length rc) iE I (O.mono<|a.trans f).rd R I)<|lU (eN aA I)<|lU (SU.eq (v':=vb true) (lS I I)<|ze3 vb<|zf9 c1)<|lM I<|lY I I I (bj ap I zT3 I)<|lR (gT I I I dC) (qL (v:=vi<|(x.length:Int) - 1) iT3 I<|cO 1 I I) dC<|lY I I I (SU.eq (v':=vb false) (gR I I)<|ze3 vb<|zf8 c5)<|yP I<|tZ<|za1 I<|xI<|tX<|tX<|bX<|za9 (g4,sv) sB I I f
    ·have c1:¬ ((j:Nat):Int)<((x.length:Nat):Int):=oM;have n5:j=x.length:=oM;subst n5;exact sQ<|sW I<|lM I<|lM I<|lU (iA fe gy I I Q oM sL)<|lK (eB (u:=.slice rp x.length rc) iE I (O.mono<|a.trans f).rd R I)<|lU (eN aA I)<|lU (SU.eq (v':=vb false) (lS I I)<|ze3 vb<|zf8 c1)<|lM I<|yA I<|yA I<|yA I<|yF I<|tZ<|za1 I<|xI<|tX<|tX<|bX<|za9 (g4,sv) sB I I f
   ·rintro ⟨g4,sv⟩ f;dsimp only at f ⊢;have h4:=fk all x x.length;refine rZ (zd6 fun g5 C d5=>?_);have n6:SlA encSide g5 sv<|a7 all x x.length:=d5;refine lU (bj ap I aI I)<|lK (qL (v:=sv) bg I<|cO 0 I I)<|lW (bt call111 I<|rY E g5 _ _ (a7 all x x.length) n6 oM) ?_;rintro v152 g6 _ ⟨rfl,A,a3⟩;obtain ⟨q6,d6,rfl⟩:=za4 a3;obtain ⟨nc,h9⟩:∃ nc:Rc,nc=⟨(n:Int)+1,(x.length:Int) - 1,⟨q6,(sortBy ak.cell<|a7 all x x.length).length,d6⟩⟩:=⟨_,rfl⟩;refine lU (bj ap rfl aI rfl)<|oZ (oi 0 aI rfl rfl rfl rfl (bE rfl)<|by rfl) ?_;refine tZ<|rG<|lU (bj dw I cg I)<|lK (qL ei I<|cO 2 I I)<|lK (qV 0 dT ar I I I)<|lW (bS sty27 I I I (ab sB) dC) ?_;rintro _ _ _ ⟨p1,rfl,rfl,rfl⟩;refine lW (aP (e:=encCell) 1 nc sty27 I I I I (by rw[h9];rfl) oM oM) ?_;rintro v158 _ _ ⟨rfl,rfl⟩;refine zd4 fun ⟨w0,b9⟩=>?_;obtain ⟨c7,d158,rfl⟩:=ag (i:=1) b9 rfl;clear b9 w0;refine lU (bj dw I cg I)<|oZ (sK 2 cg I I I I I sB) ?_;refine cp<|bN<|tN<|rG<|lM I<|yD I<|lA I<|cp<|dR (s':=rowA encCell 61 (.slice c7 (U++[nc]).length d158) (U++[nc])::pt T (.cells #[.slice c7 (U++[nc]).length d158] 29 (0,0))::pt G (bY #[.slice none 0 0] 29)::s) (.cons _<|.refl _) ?_;refine ct (g6,_,U++[nc],n+1) sB I I ⟨a.trans<|f.trans<|C.trans A,lN,?_⟩ lN;dsimp only;rw[gK h3,zg6];exact (V.mono fun _ _=>an.mono<|f.trans<|C.trans A).append ⟨(by rw[h9];exact⟨I,I,a3⟩),trivial⟩
  ·have p9:n=rs.length:=oM;have n7:(bi all).take n=bi all:=tL (by rw[bT];omega);rw[n7] at V;refine xI (tX<|tX<|bX<|tN<|sQ<|fS fun g4 f c0=>?_);have i0:ai g4 ov<|dJ ls:=(by simp only[dJ,d7,s4];exact⟨U,c0,V.mono fun _ _=>an.mono f⟩);obtain ⟨q9,d9,rfl⟩:=i0.form;exact rG<|lK (qV 0 aj ae I I I)<|oZ (sK 1 ae I I I I I sB)<|tZ<|rE<|kn 1 s (.inl I) results63 I aj ae I I uR ⟨I,a0.trans<|a.trans f,_,I,i0⟩
end Go.Proofs.YtpmoadbbfobbcaaGreatDoor
