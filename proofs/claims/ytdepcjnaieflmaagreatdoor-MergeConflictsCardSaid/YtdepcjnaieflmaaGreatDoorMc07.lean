/- 7 -/
import Derived.Test.YtdepcjnaieflmaaGreatDoorMc06
set_option linter.unusedSimpArgs false
set_option linter.unusedVariables false
namespace Go.Proofs.YtdepcjnaieflmaaGreatDoor
open _root_.Go.Proofs.Tryz _root_.Go.Proofs.YtdepcjnaieflmaaGreatDoor.Tryz
open Go Go.Sy Go.Pl Go.Proofs
set_option maxRecDepth 100000
abbrev wr (x:Int):Int:=IntKind.i64.wrap x
structure En where
 id:Int
 sum:Int
 many:Int
 fst:Nat
def En.fi (e:En):Int:=e.fst
def En.up (e:En)(p:Int):En:=⟨e.id,wr<|e.sum+p,wr<|e.many+1,e.fst⟩
def lq (i:Nat)(c p:Int):List En→List En
 | []=>[En.up ⟨c,0,0,i⟩ p]
 | e::r=>if e.id=c then e.up p::r else e::lq i c p r
def jP (i:Nat)(c:Int):List En→Nat
 | []=>i
 | e::r=>if e.id=c then e.fst else jP i c r
def eK (m:Nat)(old now:Int)(p:List Int):List Int:=p.mapIdx fun q x=>if q<m∧x=now then old else x
def mx (i:Nat)(sx:Int)(st:List En×List Int)(r:aj):List En×List Int :=
 (lq i r.cell (wr<|sx * r.sign) st.1,eK (i+1) (st.2.getD (jP i r.cell st.1) 0) (st.2.getD i 0) st.2)
def od (tl:List Cl)(st:List En×List Int)(p:aj×Nat):List En×List Int:=(ay tl p.1).foldl (mx p.2 p.1.sign) (st.1,st.2.set p.2 p.2)
def ni (tl:List Cl)(l:List aj)(n:Nat):List En×List Int:=l.zipIdx.foldl (od tl) ([],List.replicate n 0)
def i8 (tl:List Cl)(c:Cl):Int :=
 if (ni tl c.sides c.sides.length).1.any (fun e=>decide (e.sum≠0)) then 24
 else if (ni tl c.sides c.sides.length).1.any (fun e=>decide (e.many≠2)) then 25
 else if (ni tl c.sides c.sides.length).2.any (fun x=>decide (x≠(ni tl c.sides c.sides.length).2.getD 0 0)) then 25
 else 0
theorem s8 {i:Nat}{c p:Int}{e:En}{B:List En}(a:e.id=c):∀ {A:List En},(∀ x∈A,x.id≠c)→lq i c p (A++e::B)=A++e.up p::B∧jP i c (A++e::B)=e.fst
 | [],_=>by simp[lq,jP,a]
 | x::A,h=>by
  have b:=h x dO;have:=s8 (i:=i) (p:=p) (B:=B) a (A:=A) (fun y d=>h y<|by simp[d]);simp[lq,jP,b,this.1,this.2]
theorem s7 {i:Nat}{c p:Int}:∀ {A:List En},(∀ x∈A,x.id≠c)→lq i c p A=A++[En.up ⟨c,0,0,i⟩ p]∧jP i c A=i
 | [],_=>by simp[lq,jP]
 | x::A,h=>by
  have a:=h x dO;have:=s7 (i:=i) (p:=p) (A:=A) (fun y b=>h y<|by simp[b]);simp[lq,jP,a,this.1,this.2]
theorem mo (m:Nat)(old now:Int)(p:List Int):(eK m old now p).length=p.length:=by simp[eK]
theorem wL (old now:Int)(p:List Int):eK 0 old now p=p:=by
 unfold eK;apply List.ext_getElem?;intro q;simp
theorem zI {m:Nat}{old now:Int}{p:List Int}(h:m<p.length):(eK m old now p)[m]?=some p[m]:=by
 simp[eK,h]
theorem wM {m:Nat}{old now:Int}{p:List Int}(h:m<p.length):eK (m+1) old now p=if p[m]=now then (eK m old now p).set m old else eK m old now p:=by
 unfold eK;split
 ·rename_i hm;apply List.ext_getElem?;intro q;rw[List.getElem?_set];by_cases hq:m=q
  ·subst hq;simp[h,hm]
  ·rw[zg2 hq];simp only[List.getElem?_mapIdx];cases p[q]? with
   | none=>rfl
   | some x=>simp;congr 1;simp;intro _;omega
 ·rename_i hm;apply List.ext_getElem?;intro q;simp only[List.getElem?_mapIdx];by_cases hq:m=q
  ·subst hq;simp[h,hm]
  ·cases p[q]? with
   | none=>rfl
   | some x=>simp;congr 1;simp;intro _;omega
theorem yK {i n:Nat}{c p:Int}(b:i<n):∀ {es:List En},(∀ e∈es,e.fst<n)→∀ e∈lq i c p es,e.fst<n
 | [],_,e,a=>by simp[lq] at a;subst a;exact b
 | x::r,h,e,a=>by
  unfold lq at a;split at a
  ·rcases zf3.1 a with rfl | a
   ·exact h x dO
   ·exact h e (by simp[a])
  ·rcases zf3.1 a with rfl | a
   ·exact h e dO
   ·exact yK b (fun y d=>h y<|by simp[d]) e a
theorem wJ (E:World)(g:PH)(s:Own)(v:Value)(tl:List Cl)(c:Cl)(r:Rc)(hv:ai g v tl)(i0:tl.length<1099511627776)(hs:(tl.map Cl.id).Pairwise (· ≤ ·))(hc:ak g c r)(hl:c.sides.length≤64)(i1:∀ x∈c.sides,(ag tl x.cell).isSome=true)(i2:∀ x∈c.sides,(ay tl x).length≤64) :
  Ctr Tryz.prog E 162 #[v,rcv r] g s (fun r g' s'=>r=vi (i8 tl c)∧g=g'∧s=s'):=by
 obtain ⟨rs,a3,T⟩:=hv;have hv:ai g v tl:=⟨rs,a3,T⟩;have q3:=T.length;obtain ⟨vp,vc,rfl⟩:=a3.form;obtain ⟨F,d,rfl,b9⟩:=ec hc;refine zb2 (args:=[.slice vp rs.length vc,.agg #[vi c.id,vi c.dim,.slice F c.sides.length d]]) func162 I ntmps162 (bE I)<|rZ (bW (bO I) fun D=>?_);refine aT I<|sQ ?_;refine SC.to (g':=g) (s':=pt D (bY #[vi c.id,vi c.dim,.slice F c.sides.length d] 37)::s) (fun w U=>U) ?_;refine rG<|aT I<|rZ<|aT I<|rZ<|aT I<|rZ<|lU (fA ao I aH I)<|lK (qL (v:=.slice F c.sides.length d) bi I<|cO 0 I I)<|lU (eN a7 I)<|lW (mK encInt 0 sty32 I I I oM oM) ?_;rintro _ _ _ ⟨C,rfl,rfl,rfl⟩;refine aT I<|rZ<|lW (bS sty32 I I I (ab trivial) dC) ?_;rintro _ _ _ ⟨d1,rfl,rfl,rfl⟩;refine SL.drop (.cons _<|.refl _)<|SL.emptyRow 3 1 (some ⟨d1,0,none⟩)<|aT I<|sQ<|rZ<|aT I<|bK<|zb6 3 1<|zb6 3 1<|zb6 3 1<|oP (ι:=(Value×Value×Value×Value)×(List En×List Int)×Nat) (fun i=>[(0,.slice vp rs.length vc),(3,pp D 0),(5,i.1.1),(6,i.1.2.1),(7,i.1.2.2.1),(8,.slice (some ⟨C,0,none⟩) c.sides.length c.sides.length),(9,i.1.2.2.2),(10,vi (i.2.2:Nat))]) (fun _=>g)
  (fun i=>rowA encInt 3 i.1.1 (i.2.1.1.map En.id)::rowA encInt 3 i.1.2.1 (i.2.1.1.map En.sum)::rowA encInt 3 i.1.2.2.1 (i.2.1.1.map En.many)::rowA encInt 3 i.1.2.2.2 (i.2.1.1.map En.fi)::rowA encInt 3 (.slice (some ⟨C,0,none⟩) c.sides.length c.sides.length) (i.2.1.2)::pt D (bY #[vi c.id,vi c.dim,.slice F c.sides.length d] 37)::s)
  (fun i=>i.2.2≤c.sides.length∧i.2.1=(c.sides.take i.2.2).zipIdx.foldl (od tl) ([],List.replicate c.sides.length 0)∧i.2.1.2.length=c.sides.length∧i.2.1.1.length≤64 * i.2.2∧∀ e∈i.2.1.1,e.fst<c.sides.length) (fun i=>c.sides.length - i.2.2)
  ((.slice none 0 0,.slice none 0 0,.slice none 0 0,.slice (some ⟨d1,0,none⟩) 0 0),([],List.replicate c.sides.length 0),0) sB rfl rfl ⟨zf8 _,by simp,by simp,by simp,by simp⟩ ?_
 rintro ⟨⟨v5,v6,v7,v9⟩,⟨es,part⟩,i⟩ ⟨hi,a4,d2,i3,d3⟩;dsimp only at hi a4 d2 i3 d3 ⊢;refine sQ<|sW I<|lU (fA ao I aH I)<|lK (qL (v:=.slice F c.sides.length d) bi I<|cO 5 I I)<|lU (eN a7 I)<|yL I<|tZ<|iP I (fun j0=>?_) (fun j0=>?_)
 ·have V:i<c.sides.length:=oM;have a5:=b9.based oM;have d4:c.sides[((i:Nat):Int).toNat]?=some c.sides[i]:=List.getElem?_eq_getElem V;have j1:(c.sides.take<|i+1).zipIdx.foldl (od tl) ([],List.replicate c.sides.length 0)=od tl ((c.sides.take i).zipIdx.foldl (od tl) ([],List.replicate c.sides.length 0)) (c.sides[i],i):=by
   rw[tS V,List.zipIdx_append,zj2];have:(List.take i c.sides).length=i:=by rw[ze6];omega
   rw[this];simp
  have d5:=gM V;have d8:=i1 _ d5;have j2:=i2 _ d5;generalize c.sides[i]=x at *;obtain ⟨yc,W⟩:=zi1.1 d8;have e0:ay tl x=yc.sides:=by unfold ay;rw[W];rfl
  rw[e0] at j2
  rcases se hs x.cell with ⟨l0,_⟩ | ⟨l1,kk,l2,l3,e1⟩
  ·rw[l0] at W;cases W
  have:yc=l1:=by rw[l2] at W;injection W with h;exact h.symm
  subst this;have e2:kk<tl.length:=(zf7.1 e1).1;have e4:kk<rs.length:=oM;have l4:=a3.based oM;have m1:=T.get e1<|List.getElem?_eq_getElem e4;have e9:rs[((kk:Nat):Int).toNat]?=some rs[kk]:=List.getElem?_eq_getElem e4;obtain ⟨K,f,m2,a9⟩:=ec m1;rw[m2] at e9;have m3:(part.set i (i:Int)).length=c.sides.length:=by rw[zi5];exact d2
  refine kP<|tN<|sQ<|bK<|sW I<|lM I<|lM I<|lU (iA az zT3 I I I oM sL)<|oZ (SO.setA (a:=(i:Int)) 4 zT3 I I I oM I)<|tZ<|sW I<|lM I<|lU (fA ao I aH I)<|lK (qL (v:=.slice F c.sides.length d) bi I<|cO 5 I I)<|lM I<|lU (iA a7 aR I I a5 oM sL)<|lU (fC de I zT3 I a5)<|lK (aZ (e:=encSide) (o:=0) (u:=vi x.cell) iT3 I b9.rd d4 I)<|lW (SO.call call107 I<|ip E g _ _ tl x.cell hv i0 hs) ?_;rintro _ _ _ ⟨rfl,rfl,rfl⟩;rw[l3];refine lU (iA aF ar I I l4 oM sL) (lK (SQ.elemA (e:=encCell) dH ar I a3.rd e9)<|bW (aL zm2) fun t=>?_);refine oZ (sK 0 ar I I I I I sB)<|tZ<|rZ<|aT I<|bK ?_;refine SC.to (g':=g) (s':=pt t (bY #[vi yc.id,vi yc.dim,.slice K yc.sides.length f] 37)::rowA encInt 3 v5 (es.map En.id)::rowA encInt 3 v6 (es.map En.sum)::rowA encInt 3 v7 (es.map En.many)::rowA encInt 3 v9 (es.map En.fi)::rowA encInt 3 (.slice (some ⟨C,0,none⟩) c.sides.length c.sides.length) (part.set i (i:Int))::pt D (bY #[vi c.id,vi c.dim,.slice F c.sides.length d] 37)::s) (fun w U=>U) ?_;refine oP (ι:=(Value×Value×Value×Value)×(List En×List Int)×Nat) (fun q=>[(0,.slice vp rs.length vc),(3,pp D 0),(5,q.1.1),(6,q.1.2.1),(7,q.1.2.2.1),(8,.slice (some ⟨C,0,none⟩) c.sides.length c.sides.length),(9,q.1.2.2.2),(10,vi (i:Nat)),(11,pp t 0),(12,vi (q.2.2:Nat))]) (fun _=>g)
   (fun q=>pt t (bY #[vi yc.id,vi yc.dim,.slice K yc.sides.length f] 37)::rowA encInt 3 q.1.1 (q.2.1.1.map En.id)::rowA encInt 3 q.1.2.1 (q.2.1.1.map En.sum)::rowA encInt 3 q.1.2.2.1 (q.2.1.1.map En.many)::rowA encInt 3 q.1.2.2.2 (q.2.1.1.map En.fi)::rowA encInt 3 (.slice (some ⟨C,0,none⟩) c.sides.length c.sides.length) (q.2.1.2)::pt D (bY #[vi c.id,vi c.dim,.slice F c.sides.length d] 37)::s)
   (fun q=>q.2.2≤yc.sides.length∧q.2.1=(yc.sides.take q.2.2).foldl (mx i x.sign) (es,part.set i (i:Int))∧q.2.1.2.length=c.sides.length∧q.2.1.1.length≤64 * i+q.2.2∧∀ e∈q.2.1.1,e.fst<c.sides.length) (fun q=>yc.sides.length - q.2.2)
   ((v5,v6,v7,v9),(es,part.set i (i:Int)),0) sB rfl rfl ⟨zf8 _,by simp,m3,lN,d3⟩ ?_
  rintro ⟨⟨w5,w6,w7,w9⟩,⟨b,y⟩,j⟩ ⟨hj,L,X,f7,M⟩;dsimp only at hj L X f7 M ⊢;refine SC.facts fun ⟨w0,l⟩=>?_;obtain ⟨p5,c5,rfl⟩:=ah (i:=1) l rfl;obtain ⟨Y,Z,rfl⟩:=ah (i:=2) l rfl;obtain ⟨R,S,rfl⟩:=ah (i:=3) l rfl;obtain ⟨p9,c9,rfl⟩:=ah (i:=4) l rfl;have m4:0<b.length→based (.slice p5 (b.map En.id).length c5)=true:=fun h=>by obtain ⟨b0,c0,P⟩:=bw (i:=1) l rfl (by simpa using h);rw[P];rfl
  clear l w0;refine sQ<|sW I<|lU (fA ao I aH I)<|lK (qL (v:=.slice K yc.sides.length f) bi I<|cO 0 I I)<|lU (eN a7 I)<|yL I<|tZ<|iP I (fun f8=>?_) (fun f8=>?_)
  ·have g1:j<yc.sides.length:=oM;have Q:=a9.based oM;have c1:yc.sides[((j:Nat):Int).toNat]?=some yc.sides[j]:=List.getElem?_eq_getElem g1;have b4:(yc.sides.take<|j+1).foldl (mx i x.sign) (es,part.set i (i:Int))=mx i x.sign ((yc.sides.take j).foldl (mx i x.sign) (es,part.set i (i:Int))) yc.sides[j]:=by
    rw[tS g1,zj2];rfl
   rw[← L] at b4;generalize yc.sides[j]=z at *;have q2:(b.map En.id).length=b.length:=by simp
   refine kP<|tN<|sQ<|bK<|rZ<|aT I<|SC.cut (ι:=Nat) (fun k=>[(0,.slice vp rs.length vc),(3,pp D 0),(5,.slice p5 (b.map En.id).length c5),(6,.slice Y (b.map En.sum).length Z),(7,.slice R (b.map En.many).length S),(8,.slice (some ⟨C,0,none⟩) c.sides.length c.sides.length),(9,.slice p9 (b.map En.fi).length c9),(10,vi (i:Nat)),(11,pp t 0),(12,vi (j:Nat)),(13,vi (k:Nat))]) (fun _=>g)
    (fun _=>pt t (bY #[vi yc.id,vi yc.dim,.slice K yc.sides.length f] 37)::rowA encInt 3 (.slice p5 (b.map En.id).length c5) (b.map En.id)::rowA encInt 3 (.slice Y (b.map En.sum).length Z) (b.map En.sum)::rowA encInt 3 (.slice R (b.map En.many).length S) (b.map En.many)::rowA encInt 3 (.slice p9 (b.map En.fi).length c9) (b.map En.fi)::rowA encInt 3 (.slice (some ⟨C,0,none⟩) c.sides.length c.sides.length) (y)::pt D (bY #[vi c.id,vi c.dim,.slice F c.sides.length d] 37)::s)
    (fun k=>k≤b.length∧(∀ e∈b.take k,e.id≠z.cell)∧∀ h:k<b.length,b[k].id=z.cell) ?_ ?_
   ·refine bK<|oP (ι:=Nat) (fun k=>[(0,.slice vp rs.length vc),(3,pp D 0),(5,.slice p5 (b.map En.id).length c5),(6,.slice Y (b.map En.sum).length Z),(7,.slice R (b.map En.many).length S),(8,.slice (some ⟨C,0,none⟩) c.sides.length c.sides.length),(9,.slice p9 (b.map En.fi).length c9),(10,vi (i:Nat)),(11,pp t 0),(12,vi (j:Nat)),(13,vi (k:Nat))]) (fun _=>g)
     (fun _=>pt t (bY #[vi yc.id,vi yc.dim,.slice K yc.sides.length f] 37)::rowA encInt 3 (.slice p5 (b.map En.id).length c5) (b.map En.id)::rowA encInt 3 (.slice Y (b.map En.sum).length Z) (b.map En.sum)::rowA encInt 3 (.slice R (b.map En.many).length S) (b.map En.many)::rowA encInt 3 (.slice p9 (b.map En.fi).length c9) (b.map En.fi)::rowA encInt 3 (.slice (some ⟨C,0,none⟩) c.sides.length c.sides.length) (y)::pt D (bY #[vi c.id,vi c.dim,.slice F c.sides.length d] 37)::s)
     (fun k=>k≤b.length∧∀ e∈b.take k,e.id≠z.cell) (fun k=>b.length - k) 0 sB rfl rfl ⟨zf8 _,by simp⟩ ?_
    rintro k ⟨hk,G⟩;by_cases n:k<b.length
    ·have a0:((k:Nat):Int)<(((b.map En.id).length:Nat):Int):=oM;have n0:(b.map En.id)[((k:Nat):Int).toNat]?=some b[k].id:=by simp[n]
     have g2:=m4 oM;refine sQ<|sQ<|dW [] [(0,2),(1,2),(2,2),(3,2),(4,2),(5,2),(6,2),(7,2),(8,1),(9,2),(10,1),(11,2),(12,2),(13,2),(14,1),(15,2),(16,2)] ze5 kR<|yM I<|yM I<|pU I (eN az I)<|pU I (SU.eq (v':=vb true) (lS I I)<|ze4 vb<|zg1 a0)<|yM I<|yJ I<|yJ I<|zb3 I (gT I I I dC) (iA az zT3 I I g2 oM sL) dC<|SP.gq I (gT I I I dC) (eB iT3 I (zb7 1 I) n0 I) dC<|zb3 I (gT I I I dC) (fA ao I aH I) dC<|SP.gq I (gT I I I dC) (qL (v:=.slice K yc.sides.length f) bi I<|cO 0 I I) dC<|yJ I<|zb3 I (gT I I I dC) (iA a7 aR I I Q oM sL) dC<|zb3 I (gT I I I dC) (fC de I zT3 I Q) dC<|SP.gq I (gT I I I dC) (aZ (e:=encSide) (o:=0) (u:=vi z.cell) iT3 I a9.rd c1 I) dC<|zb3 I (gT I I I dC) (nQ I I) dC<|pU I (wT I I)<|pN<|tN<|iP I (fun c2=>?_) (fun c2=>?_)
     ·refine kP (tN (bK (rG (lM I (yD I (lA I (SL.nil (bN ?_))))))));exact ST.again (k+1) sB I I ⟨oM,by
       rw[tS n];intro e P
       rcases zf5.1 P with h | h
       ·exact G e h
       ·simp at h;subst h;exact c2⟩ oM
     ·exact xI<|tX<|tX<|bX<|za9 k sB I I ⟨hk,G,fun _=>zh2 c2⟩
    ·have a0:¬ ((k:Nat):Int)<(((b.map En.id).length:Nat):Int):=oM;exact sQ<|sQ<|dW [] [(0,2),(1,2),(2,2),(3,2),(4,2),(5,2),(6,2),(7,2),(8,1),(9,2),(10,1),(11,2),(12,2),(13,2),(14,1),(15,2),(16,2)] ze5 kR<|yM I<|yM I<|pU I (eN az I)<|pU I (SU.eq (v':=vb false) (lS I I)<|ze4 vb<|zf9 a0)<|yM I<|yG I<|yG I<|yG I<|yI I<|yG I<|yI I<|yG I<|yG I<|yG I<|yI I<|yG I<|pU I (wF I I)<|pN<|tN<|za1 I<|xI<|tX<|tX<|bX<|za9 k sB I I ⟨hk,G,fun h=>absurd h n⟩
   ·rintro k ⟨hk,G,g3⟩;refine SC.cut (ι:=(Value×Value×Value×Value)×List En×En×List En) (fun q=>[(0,.slice vp rs.length vc),(3,pp D 0),(5,q.1.1),(6,q.1.2.1),(7,q.1.2.2.1),(8,.slice (some ⟨C,0,none⟩) c.sides.length c.sides.length),(9,q.1.2.2.2),(10,vi (i:Nat)),(11,pp t 0),(12,vi (j:Nat)),(13,vi (q.2.1.length:Nat))]) (fun _=>g)
     (fun q=>pt t (bY #[vi yc.id,vi yc.dim,.slice K yc.sides.length f] 37)::rowA encInt 3 q.1.1 ((q.2.1++q.2.2.1::q.2.2.2).map En.id)::rowA encInt 3 q.1.2.1 ((q.2.1++q.2.2.1::q.2.2.2).map En.sum)::rowA encInt 3 q.1.2.2.1 ((q.2.1++q.2.2.1::q.2.2.2).map En.many)::rowA encInt 3 q.1.2.2.2 ((q.2.1++q.2.2.1::q.2.2.2).map En.fi)::rowA encInt 3 (.slice (some ⟨C,0,none⟩) c.sides.length c.sides.length) (y)::pt D (bY #[vi c.id,vi c.dim,.slice F c.sides.length d] 37)::s)
     (fun q=>(∀ p,lq i z.cell p b=q.2.1++q.2.2.1.up p::q.2.2.2)∧jP i z.cell b=q.2.2.1.fst∧q.2.2.1.fst<c.sides.length∧q.2.1.length+1+q.2.2.2.length≤b.length+1) ?_ ?_
    ·refine sW I<|lM I<|lU (eN az I)<|yE I<|tZ<|iP I (fun g4=>?_) (fun g4=>?_)
     ·have n1:k=b.length:=oM;subst n1;rw[List.take_length] at G;refine sW I<|lU (fA ao I aH I)<|lK (qL (v:=.slice K yc.sides.length f) bi I<|cO 0 I I)<|lM I<|lU (iA a7 aR I I Q oM sL)<|lU (fC de I zT3 I Q)<|lK (aZ (e:=encSide) (o:=0) (u:=vi z.cell) iT3 I a9.rd c1 I)<|lW (bS sty32 I I I (ab sB) dC) ?_;rintro _ _ _ ⟨q4,rfl,rfl,rfl⟩;refine lW (aP (e:=encInt) 1 z.cell sty32 I I I I I oM oM) ?_;rintro u5 _ _ ⟨rfl,rfl⟩;refine aT I<|sW I<|lW (bS sty32 I I I (ab sB) dC) ?_;rintro _ _ _ ⟨q5,rfl,rfl,rfl⟩;refine lW (aP (e:=encInt) 2 0 sty32 I I I I I (by simp;omega) (by simp;omega)) ?_;rintro u6 _ _ ⟨rfl,rfl⟩;refine aT I<|sW I<|lW (bS sty32 I I I (ab sB) dC) ?_;rintro _ _ _ ⟨q8,rfl,rfl,rfl⟩;refine lW (aP (e:=encInt) 3 0 sty32 I I I I I (by simp;omega) (by simp;omega)) ?_;rintro u7 _ _ ⟨rfl,rfl⟩;refine aT I<|rG<|lM I<|lM I<|lW (bS sty32 I I I (ab sB) dC) ?_;rintro _ _ _ ⟨r0,rfl,rfl,rfl⟩;refine lW (aP (e:=encInt) 4 ((i:Nat):Int) sty32 I I I I I (by simp;omega) (by simp;omega)) ?_;rintro u9 _ _ ⟨rfl,rfl⟩;refine lA I<|SL.nil ?_;refine ST.to (fun w U=>?_) (g':=g) (s':=pt t (bY #[vi yc.id,vi yc.dim,.slice K yc.sides.length f] 37)::rowA encInt 3 u5 ((b++(⟨z.cell,0,0,i⟩:En)::[]).map En.id)::rowA encInt 3 u6 ((b++(⟨z.cell,0,0,i⟩:En)::[]).map En.sum)::rowA encInt 3 u7 ((b++(⟨z.cell,0,0,i⟩:En)::[]).map En.many)::rowA encInt 3 u9 ((b++(⟨z.cell,0,0,i⟩:En)::[]).map En.fi)::rowA encInt 3 (.slice (some ⟨C,0,none⟩) c.sides.length c.sides.length) (y)::pt D (bY #[vi c.id,vi c.dim,.slice F c.sides.length d] 37)::s) ?_
      ·simp only[zg7,zg6,List.map_nil];exact U
      exact za9 ((u5,u6,u7,u9),b,⟨z.cell,0,0,i⟩,[]) sB I I ⟨fun p=>(s7 G).1,(s7 (p:=0) G).2,V,by simp⟩
     ·have n:k<b.length:=oM;have c3:b=b.take k++b[k]::b.drop (k+1):=by rw[← zg8 n,zj4]
      have n2:(b.take k).length=k:=by rw[ze6];omega
      refine kP<|za9 ((_,_,_,_),b.take k,b[k],b.drop<|k+1) ⟨I,I,I,I,I,I,I,I,I,I,bG (by dsimp only;omega),trivial⟩ I (by dsimp only;rw[← c3]) ⟨fun p=>?_,?_,M _<|gM n,by rw[n2,zf2];omega⟩
      ·conv=>lhs;rw[c3]
       exact (s8 (g3 n) G).1
      ·conv=>lhs;rw[c3]
       exact (s8 (p:=0) (g3 n) G).2
    ·rintro ⟨⟨u5,u6,u7,u9⟩,A,e,B⟩ ⟨H,b5,n3,g5⟩;dsimp only at H b5 n3 g5 ⊢;refine SC.facts fun ⟨w0,l⟩=>?_;obtain ⟨q6,d6,rfl⟩:=ah (i:=2) l rfl;obtain ⟨q7,d7,rfl⟩:=ah (i:=3) l rfl;obtain ⟨q9,d9,rfl⟩:=ah (i:=4) l rfl;have b1:based (.slice q6 ((A++e::B).map En.sum).length d6)=true:=by obtain ⟨b0,c0,P⟩:=bw (i:=2) l rfl (by simp;omega);rw[P];rfl
     have b2:based (.slice q7 ((A++e::B).map En.many).length d7)=true:=by obtain ⟨b0,c0,P⟩:=bw (i:=3) l rfl (by simp;omega);rw[P];rfl
     have n5:based (.slice q9 ((A++e::B).map En.fi).length d9)=true:=by obtain ⟨b0,c0,P⟩:=bw (i:=4) l rfl (by simp;omega);rw[P];rfl
     clear l w0;have n6:((A++e::B).map En.sum).length=A.length+1+B.length:=by simp;omega
     have n7:((A++e::B).map En.many).length=A.length+1+B.length:=by simp;omega
     have r1:((A++e::B).map En.fi).length=A.length+1+B.length:=by simp;omega
     have g6:((A++e::B).map En.sum)[((A.length:Nat):Int).toNat]?=some e.sum:=by rw[zg7,zg6];exact bP dO
     have g7:((A++e::B).map En.many)[((A.length:Nat):Int).toNat]?=some e.many:=by rw[zg7,zg6];exact bP dO
     have g9:((A++e::B).map En.fi)[((A.length:Nat):Int).toNat]?=some ((e.fst:Nat):Int):=by rw[zg7,zg6];exact bP dO
     have gp1:y[((e.fst:Nat):Int).toNat]?=some (y.getD e.fst 0):=by
      have h:e.fst<y.length:=oM;rw[show ((e.fst:Nat):Int).toNat=e.fst by omega,List.getElem?_eq_getElem h,zh3,List.getElem?_eq_getElem h];rfl
     have gp2:y[((i:Nat):Int).toNat]?=some (y.getD i 0):=by
      have h:i<y.length:=oM;rw[show ((i:Nat):Int).toNat=i by omega,List.getElem?_eq_getElem h,zh3,List.getElem?_eq_getElem h];rfl
     obtain ⟨wp,g8⟩:∃ wp,wp=wr (x.sign * z.sign):=⟨_,rfl⟩;refine sQ<|dW [20,21] [(0,2),(1,2),(2,2),(3,2),(4,2),(5,1),(6,2),(7,1),(8,2),(9,2),(10,2),(11,1),(12,2),(13,1),(14,2),(15,2),(16,2),(17,1),(18,2),(19,2),(20,0),(21,0)] ze5 kR<|yM I<|yM I<|yM I<|yM I<|pU I (iA az zT3 I I b1 oM sL)<|pK I (eB iT3 I (zb7 2 I) g6 I)<|pU I (fA ao I aH I)<|pK I (qL (v:=.slice F c.sides.length d) bi I<|cO 6 I I)<|yM I<|pU I (iA a7 aR I I a5 oM sL)<|pU I (fC de I zT3 I a5)<|pK I (aZ (e:=encSide) (o:=1) (u:=vi x.sign) iT3 I b9.rd d4 I)<|pU I (fA ao I aH I)<|pK I (qL (v:=.slice K yc.sides.length f) bi I<|cO 0 I I)<|yM I<|pU I (iA a7 aR I I Q oM sL)<|pU I (fC de I zT3 I Q)<|pK I (aZ (e:=encSide) (o:=1) (u:=vi z.sign) iT3 I a9.rd c1 I)<|pU I (SU.eq (v':=vi wp) (SU.mulW I I)<|by rw[g8]) ?_;refine pU I (ze2 I I)<|oU I (iA az zT3 I I b1 oM sL) dC (.inl dC)<|SP.on I (SO.setA (a:=wr<|e.sum+wp) 2 zT3 I I I oM I) (.inl dC) ?_;rintro _ _ _ ⟨rfl,rfl⟩;refine pN<|tN<|sW I<|lM I<|lU (iA az zT3 I I b2 oM sL)<|lK (eB iT3 I (zb7 3 I) g7 I)<|lU (ze2 I I)<|lU (iA az zT3 I I b2 oM sL)<|oZ (SO.setA (a:=wr<|e.many+1) 3 zT3 I I I oM I)<|tZ<|sW I<|lM I<|lM I<|lU (iA az zT3 I I n5 oM sL)<|lK (eB iT3 I (zb7 4 I) g9 I)<|lU (iA az zT3 I I I oM sL)<|lK (eB iT3 I (zb7 5 I) gp1 I)<|aT I<|sW I<|lM I<|lU (iA az zT3 I I I oM sL) ?_;refine lK (eB iT3 I (zb7 5 I) gp2 I)<|aT I<|rZ<|aT I<|bK ?_;have n8:((A++e::B).map En.sum).set ((A.length:Nat):Int).toNat (wr<|e.sum+wp)=(A++e.up wp::B).map En.sum:=by rw[zg7,zg6,dT dO];simp[En.up]
     have o1:((A++e::B).map En.many).set ((A.length:Nat):Int).toNat (wr<|e.many+1)=(A++e.up wp::B).map En.many:=by rw[zg7,zg6,dT dO];simp[En.up]
     have o2:(A++e::B).map En.id=(A++e.up wp::B).map En.id:=by simp[En.up]
     have p1:((A++e::B).map En.fi)=(A++e.up wp::B).map En.fi:=by simp[En.up,En.fi]
     generalize h0:y.getD e.fst 0=old at *;generalize h1:y.getD i 0=now at *;refine SC.to (fun w U=>?_) (g':=g) (s':=pt t (bY #[vi yc.id,vi yc.dim,.slice K yc.sides.length f] 37)::rowA encInt 3 u5 ((A++e.up wp::B).map En.id)::rowA encInt 3 (.slice q6 ((A++e::B).map En.sum).length d6) ((A++e.up wp::B).map En.sum)::rowA encInt 3 (.slice q7 ((A++e::B).map En.many).length d7) ((A++e.up wp::B).map En.many)::rowA encInt 3 (.slice q9 ((A++e::B).map En.fi).length d9) ((A++e.up wp::B).map En.fi)::rowA encInt 3 (.slice (some ⟨C,0,none⟩) c.sides.length c.sides.length) (eK 0 old now y)::pt D (bY #[vi c.id,vi c.dim,.slice F c.sides.length d] 37)::s) ?_
     ·rw[← n8,← o1,← o2,← p1,wL];exact U
     refine oP (ι:=Nat) (fun m=>[(0,.slice vp rs.length vc),(3,pp D 0),(5,u5),(6,.slice q6 ((A++e::B).map En.sum).length d6),(7,.slice q7 ((A++e::B).map En.many).length d7),(8,.slice (some ⟨C,0,none⟩) c.sides.length c.sides.length),(9,.slice q9 ((A++e::B).map En.fi).length d9),(10,vi (i:Nat)),(11,pp t 0),(12,vi (j:Nat)),(14,vi old),(15,vi now),(16,vi (m:Nat))]) (fun _=>g)
      (fun m=>pt t (bY #[vi yc.id,vi yc.dim,.slice K yc.sides.length f] 37)::rowA encInt 3 u5 ((A++e.up wp::B).map En.id)::rowA encInt 3 (.slice q6 ((A++e::B).map En.sum).length d6) ((A++e.up wp::B).map En.sum)::rowA encInt 3 (.slice q7 ((A++e::B).map En.many).length d7) ((A++e.up wp::B).map En.many)::rowA encInt 3 (.slice q9 ((A++e::B).map En.fi).length d9) ((A++e.up wp::B).map En.fi)::rowA encInt 3 (.slice (some ⟨C,0,none⟩) c.sides.length c.sides.length) (eK m old now y)::pt D (bY #[vi c.id,vi c.dim,.slice F c.sides.length d] 37)::s)
      (fun m=>m≤i+1) (fun m=>i+1 - m) 0 sB rfl rfl (zf8 _) ?_
     rintro m hm;have b6:=mo m old now y;refine sQ<|sW I<|lM I<|lU (SU.leq I I)<|tZ<|iP I (fun h2=>?_) (fun h2=>?_)
     ·have h3:m<y.length:=oM;have gm:(eK m old now y)[((m:Nat):Int).toNat]?=some y[m]:=zI h3;have b7:=wM (old:=old) (now:=now) h3;refine kP<|tN<|sQ<|bK<|sW I<|lM I<|lU (iA az zT3 I I I oM sL)<|lK (eB iT3 I (zb7 5 I) gm I)<|lM I<|yE I<|tZ<|iP I (fun d0=>?_) (fun d0=>?_)
      ·refine rG<|lM I<|lM I<|lM I<|lU (iA az zT3 I I I oM sL)<|oZ (SO.setA (a:=old) 5 zT3 I I I (by rw[b6];omega) I) ?_;refine SL.nil<|bN<|tN<|rG<|lM I<|yD I<|lA I<|SL.nil ?_;refine ST.to (fun w U=>?_) (g':=g) (s':=pt t (bY #[vi yc.id,vi yc.dim,.slice K yc.sides.length f] 37)::rowA encInt 3 u5 ((A++e.up wp::B).map En.id)::rowA encInt 3 (.slice q6 ((A++e::B).map En.sum).length d6) ((A++e.up wp::B).map En.sum)::rowA encInt 3 (.slice q7 ((A++e::B).map En.many).length d7) ((A++e.up wp::B).map En.many)::rowA encInt 3 (.slice q9 ((A++e::B).map En.fi).length d9) ((A++e.up wp::B).map En.fi)::rowA encInt 3 (.slice (some ⟨C,0,none⟩) c.sides.length c.sides.length) (eK (m+1) old now y)::pt D (bY #[vi c.id,vi c.dim,.slice F c.sides.length d] 37)::s) ?_
       ·rw[b7,zg3 d0];exact U
       exact ST.again (m+1) sB I I oM oM
      ·refine kP<|bN<|tN<|rG<|lM I<|yD I<|lA I<|SL.nil ?_;refine ST.to (fun w U=>?_) (g':=g) (s':=pt t (bY #[vi yc.id,vi yc.dim,.slice K yc.sides.length f] 37)::rowA encInt 3 u5 ((A++e.up wp::B).map En.id)::rowA encInt 3 (.slice q6 ((A++e::B).map En.sum).length d6) ((A++e.up wp::B).map En.sum)::rowA encInt 3 (.slice q7 ((A++e::B).map En.many).length d7) ((A++e.up wp::B).map En.many)::rowA encInt 3 (.slice q9 ((A++e::B).map En.fi).length d9) ((A++e.up wp::B).map En.fi)::rowA encInt 3 (.slice (some ⟨C,0,none⟩) c.sides.length c.sides.length) (eK (m+1) old now y)::pt D (bY #[vi c.id,vi c.dim,.slice F c.sides.length d] 37)::s) ?_
       ·rw[b7,zg2 d0];exact U
       exact ST.again (m+1) sB I I oM oM
     ·have p2:m=i+1:=oM;subst p2;refine xI<|tX<|tX<|bX<|bN<|tN<|rG<|lM I<|yD I<|lA I<|SL.nil ?_;have J:mx i x.sign (b,y) z=(A++e.up wp::B,eK (i+1) old now y):=by
       unfold mx;dsimp only;rw[b5,h0,h1,g8,H]
      refine ST.again ((u5,_,_,_),(A++e.up wp::B,eK (i+1) old now y),j+1) sB I I ⟨lN,by dsimp only;rw[b4,J],by dsimp only;rw[b6];exact X,lN,fun q hq=>?_⟩ lN;have h9:=yK (c:=z.cell) (p:=wp) V M q (by rw[H];exact hq);exact h9
  ·have p3:yc.sides.take j=yc.sides:=tL oM;rw[p3] at L;have J:od tl (es,part) (x,i)=(b,y):=by unfold od;rw[e0];exact L.symm
   exact xI<|tX<|tX<|bX<|bN<|tN<|rG<|lM I<|yD I<|lA I<|SL.nil<|dR (s':=rowA encInt 3 (.slice p5 (b.map En.id).length c5) (b.map En.id)::rowA encInt 3 (.slice Y (b.map En.sum).length Z) (b.map En.sum)::rowA encInt 3 (.slice R (b.map En.many).length S) (b.map En.many)::rowA encInt 3 (.slice p9 (b.map En.fi).length c9) (b.map En.fi)::rowA encInt 3 (.slice (some ⟨C,0,none⟩) c.sides.length c.sides.length) (y)::pt D (bY #[vi c.id,vi c.dim,.slice F c.sides.length d] 37)::s) (.cons _<|.refl _)<|ST.again ((_,_,_,_),(b,y),i+1) sB I I ⟨lN,by dsimp only;rw[j1,← a4,J],X,lN,M⟩ lN
 ·have q0:c.sides.take i=c.sides:=tL oM;rw[q0] at a4;have N:ni tl c.sides c.sides.length=(es,part):=a4.symm;refine SC.facts fun ⟨w0,l⟩=>?_;obtain ⟨Y,Z,rfl⟩:=ah (i:=1) l rfl;obtain ⟨R,S,rfl⟩:=ah (i:=2) l rfl;have b1:0<es.length→based (.slice Y (es.map En.sum).length Z)=true:=fun h=>by obtain ⟨b0,c0,P⟩:=bw (i:=1) l rfl (by simpa using h);rw[P];rfl
  have b2:0<es.length→based (.slice R (es.map En.many).length S)=true:=fun h=>by obtain ⟨b0,c0,P⟩:=bw (i:=2) l rfl (by simpa using h);rw[P];rfl
  clear l w0;have n6:(es.map En.sum).length=es.length:=by simp
  have n7:(es.map En.many).length=es.length:=by simp
  refine xI<|tX<|tX<|bX<|tN<|sQ<|rZ<|aT I<|bK<|oP (ι:=Nat) (fun k=>[(6,.slice Y (es.map En.sum).length Z),(7,.slice R (es.map En.many).length S),(8,.slice (some ⟨C,0,none⟩) c.sides.length c.sides.length),(17,vi (k:Nat))]) (fun _=>g)
   (fun _=>rowA encInt 3 v5 (es.map En.id)::rowA encInt 3 (.slice Y (es.map En.sum).length Z) (es.map En.sum)::rowA encInt 3 (.slice R (es.map En.many).length S) (es.map En.many)::rowA encInt 3 v9 (es.map En.fi)::rowA encInt 3 (.slice (some ⟨C,0,none⟩) c.sides.length c.sides.length) (part)::pt D (bY #[vi c.id,vi c.dim,.slice F c.sides.length d] 37)::s)
   (fun k=>k≤es.length∧(es.take k).any (fun e=>decide (e.sum≠0))=false) (fun k=>es.length - k) 0 sB rfl rfl ⟨zf8 _,by simp⟩ ?_
  rintro k ⟨hk,a1⟩;refine sQ<|sW I<|lM I<|lU (eN az I)<|yL I<|tZ<|iP I (fun h4=>?_) (fun h4=>?_)
  ·have n:k<es.length:=oM;have gk:(es.map En.sum)[((k:Nat):Int).toNat]?=some es[k].sum:=by simp[n]
   refine kP<|tN<|sQ<|bK<|sW I<|lM I<|lU (iA az zT3 I I (b1 oM) oM sL)<|lK (eB iT3 I (zb7 1 I) gk I)<|lU (nQ I I)<|tZ<|iP I (fun hz=>?_) (fun hz=>?_)
   ·refine rZ<|aT I<|rE<|bR<|tR<|tR<|bR<|tR<|dR (s':=s) (by repeat (first | exact zc4 _ | refine List.Sublist.cons _ ?_)) ?_;exact za8 (.inl I) results162 I ⟨by unfold i8;rw[N,zg3<|zk1.2 ⟨es[k],gM n,by simpa using hz⟩],I,I⟩
   ·exact kP<|bN<|tN<|rG<|lM I<|yD I<|lA I<|SL.nil<|ST.again (k+1) sB I I ⟨oM,by rw[tS n,List.any_append,a1];simpa using hz⟩ oM
  ·have e2:es.take k=es:=tL oM;rw[e2] at a1;refine xI<|tX<|tX<|bX<|tN<|sQ<|rZ<|aT I<|bK<|oP (ι:=Nat) (fun k=>[(7,.slice R (es.map En.many).length S),(8,.slice (some ⟨C,0,none⟩) c.sides.length c.sides.length),(18,vi (k:Nat))]) (fun _=>g)
    (fun _=>rowA encInt 3 v5 (es.map En.id)::rowA encInt 3 (.slice Y (es.map En.sum).length Z) (es.map En.sum)::rowA encInt 3 (.slice R (es.map En.many).length S) (es.map En.many)::rowA encInt 3 v9 (es.map En.fi)::rowA encInt 3 (.slice (some ⟨C,0,none⟩) c.sides.length c.sides.length) (part)::pt D (bY #[vi c.id,vi c.dim,.slice F c.sides.length d] 37)::s)
    (fun k=>k≤es.length∧(es.take k).any (fun e=>decide (e.many≠2))=false) (fun k=>es.length - k) 0 sB rfl rfl ⟨zf8 _,by simp⟩ ?_
   rintro k2 ⟨r2,O⟩;refine sQ<|sW I<|lM I<|lU (eN az I)<|yL I<|tZ<|iP I (fun h5=>?_) (fun h5=>?_)
   ·have n:k2<es.length:=oM;have gk:(es.map En.many)[((k2:Nat):Int).toNat]?=some es[k2].many:=by simp[n]
    refine kP<|tN<|sQ<|bK<|sW I<|lM I<|lU (iA az zT3 I I (b2 oM) oM sL)<|lK (eB iT3 I (zb7 2 I) gk I)<|lU (nQ I I)<|tZ<|iP I (fun hz=>?_) (fun hz=>?_)
    ·refine rZ<|aT I<|rE<|bR<|tR<|tR<|bR<|tR<|dR (s':=s) (by repeat (first | exact zc4 _ | refine List.Sublist.cons _ ?_)) ?_;exact za8 (.inl I) results162 I ⟨by unfold i8;rw[N,zg2 (by rw[a1];simp),zg3<|zk1.2 ⟨es[k2],gM n,by simpa using hz⟩],I,I⟩
    ·exact kP<|bN<|tN<|rG<|lM I<|yD I<|lA I<|SL.nil<|ST.again (k2+1) sB I I ⟨oM,by rw[tS n,List.any_append,O];simpa using hz⟩ oM
   ·have h6:es.take k2=es:=tL oM;rw[h6] at O;refine xI<|tX<|tX<|bX<|tN<|sQ<|rZ<|aT I<|bK<|oP (ι:=Nat) (fun k=>[(8,.slice (some ⟨C,0,none⟩) c.sides.length c.sides.length),(19,vi (k:Nat))]) (fun _=>g)
     (fun _=>rowA encInt 3 v5 (es.map En.id)::rowA encInt 3 (.slice Y (es.map En.sum).length Z) (es.map En.sum)::rowA encInt 3 (.slice R (es.map En.many).length S) (es.map En.many)::rowA encInt 3 v9 (es.map En.fi)::rowA encInt 3 (.slice (some ⟨C,0,none⟩) c.sides.length c.sides.length) (part)::pt D (bY #[vi c.id,vi c.dim,.slice F c.sides.length d] 37)::s)
     (fun k=>k≤c.sides.length∧(part.take k).any (fun q=>decide (q≠part.getD 0 0))=false) (fun k=>c.sides.length - k) 0 sB rfl rfl ⟨zf8 _,by simp⟩ ?_
    rintro k3 ⟨r3,a2⟩;refine sQ<|sW I<|lM I<|lU (eN az I)<|yL I<|tZ<|iP I (fun h7=>?_) (fun h7=>?_)
    ·have n:k3<part.length:=oM;have gk:part[((k3:Nat):Int).toNat]?=some part[k3]:=List.getElem?_eq_getElem n;have g0:part[((0:Nat):Int).toNat]?=some (part.getD 0 0):=by
      have h:0<part.length:=oM;rw[show ((0:Nat):Int).toNat=0 from rfl,List.getElem?_eq_getElem h,zh3,List.getElem?_eq_getElem h];rfl
     generalize q1:part.getD 0 0=p0 at *;refine kP<|tN<|sQ<|bK<|sQ<|dW [] [(0,2),(1,2),(2,2),(3,1),(4,2),(5,2),(6,1),(7,2)] ze5 kR<|yM I<|yM I<|pU I (iA az zT3 I I I oM sL)<|pK I (eB iT3 I (zb7 4 I) gk I)<|yM I<|pU I (iA az zT3 I I I dC sL)<|pK I (eB iT3 I (zb7 4 I) g0 I)<|pU I (nQ I I)<|pN<|tN<|iP I (fun hz=>?_) (fun hz=>?_)
     ·refine rZ<|aT I<|rE<|bR<|tR<|tR<|bR<|tR<|dR (s':=s) (by repeat (first | exact zc4 _ | refine List.Sublist.cons _ ?_)) ?_;exact za8 (.inl I) results162 I ⟨by unfold i8;rw[N,zg2 (by rw[a1];simp),zg2 (by rw[O];simp),zg3<|zk1.2 ⟨part[k3],gM n,by rw[q1];simpa using hz⟩],I,I⟩
     ·exact kP<|bN<|tN<|rG<|lM I<|yD I<|lA I<|SL.nil<|ST.again (k3+1) sB I I ⟨oM,by rw[tS n,List.any_append,a2];simpa using hz⟩ oM
    ·have h8:part.take k3=part:=tL oM;rw[h8] at a2;refine xI<|tX<|tX<|bX<|tN<|rZ<|aT I<|rE<|dR (s':=s) (by repeat (first | exact zc4 _ | refine List.Sublist.cons _ ?_)) ?_;exact za8 (.inl I) results162 I ⟨by unfold i8;rw[N,zg2 (by rw[a1];simp),zg2 (by rw[O];simp),zg2 (by rw[a2];simp)],I,I⟩
theorem mZ {tl:List Cl}{c:Cl}(h:cN tl c=0):∀ x∈c.sides,(ag tl x.cell).isSome=true:=by
 intro x e;unfold cN at h;split at h
 ·cases h
 split at h
 ·cases h
 split at h
 ·cases h
 rename_i b;have a:(List.range c.sides.length).any (jh tl c)=false:=by simpa using b
 obtain ⟨k,d,rfl⟩:=zc8 e;have f:=zk7.1 a k<|List.mem_range.2 d;cases g:(ag tl c.sides[k].cell).isSome with
 | true=>rfl
 | false =>
  exfalso;apply f;unfold jh;rw[List.getElem?_eq_getElem d];exact oT (by rw[g];simp)
theorem lm {tl:List Cl}:∀ {L:List Cl} {last:Int},iC tl L last=none→(∀ x∈L,last<x.id)∧L.Pairwise fun a b=>a.id<b.id
 | [],_,_=>⟨by simp,List.Pairwise.nil⟩
 | x::r,last,h=>by
  unfold iC at h;split at h
  ·cases h
  ·rename_i f;split at h
   ·cases h
   ·obtain ⟨d,e⟩:=lm h;refine⟨fun y c=>?_,zk5.2 ⟨d,e⟩⟩
    rcases zf3.1 c with rfl | c
    ·omega
    ·have:=d y c;omega
theorem nt:∀ {L acc:List Cl},(acc++L).Pairwise (fun a b=>a.id<b.id)→L.foldl gn acc=acc++L
 | [],acc,_=>by simp
 | x::r,acc,h=>by
  have c:acc.any (fun y=>y.id == x.id)=false:=by
   rw[zk7];intro y d;have:=(List.pairwise_append.1 h).2.2 y d x dO;simp;omega
  rw[zj1,lG c,nt (by simpa using h)];simp
theorem bQ {l:List Cl}(h:(aa l).Pairwise fun a b=>a.id<b.id):am l=aa l:=by
 unfold am;rw[nt (by simpa using h)];rfl
def nk (tl:List Cl):List Cl→Option (Int×Int)
 | []=>none
 | x::r=>if x.dim>1∧i8 tl x≠0 then some (x.id,i8 tl x) else nk tl r
def aG (l:List Cl):Int×Int:=if (l.length:Int)>4000 then (0,2) else (iC (am l) (aa l) 0).getD ((nk (aa l)<|aa l).getD (0,0))
def iq (L:List Cl)(i:Nat):Int:=if i=0 then 0 else (L.getD (i - 1) aA).id
theorem xe {L:List Cl}{i:Nat}(h:i<L.length):iq L (i+1)=L[i].id:=by
 unfold iq;rw[zg2 oM];simp[h]
theorem mq (E:World)(g:PH)(s:Own)(v:Value)(l:List Cl)(hv:ai g v l)(hf:aM l) :
  Ctr Tryz.prog E 106 #[.agg #[v]] g s (fun r g' s'=>r = .tuple #[vi (aG l).1,vi (aG l).2]∧s=s'∧Le g g'):=by
 obtain ⟨p,c,rfl⟩:=hv.form;have V:=i4 l;have c7:=aw l;have W:=aB hf;have X:=bU hf;have Y:=fD l;have b5:=jw l;refine zb2 (args:=[.agg #[.slice p l.length c]]) func106 I ntmps106 (bE I)<|rZ (bW (bO I) fun b1=>?_);refine lA I<|aT I<|sQ<|rZ<|lU (fA dA I cq I)<|lK (qL eG I<|cO 0 I I)<|lU (eN aF I)<|lU (gR I I)<|tZ<|iP I (fun P=>?_) (fun P=>?_)
 ·exact rZ<|lA I<|aT I<|rE<|tR<|dR (s':=s) uR<|ST.ret2 (.inl I) results106 I I ⟨by unfold aG;rw[zg3 oM],I,zb9 g⟩
 ·refine kP<|tN<|rZ<|lU (fA dA I cq I)<|lK (qL eG I<|cO 0 I I)<|lW (SO.call call109 I<|j8 E l.length g _ _ l (Nat.le_refl _) hv hf) ?_;rintro v16 g1 _ ⟨rfl,n,hL⟩;obtain ⟨rs,Z,N⟩:=hL;have c9:=N.length;obtain ⟨q,d,rfl⟩:=Z.form;refine aT I<|rZ<|lK (qV 0 an ae I I I)<|lW (SO.call call54 I<|dw E g1 _ _ l (hv.mono n) hf) ?_;rintro v18 g2 _ ⟨rfl,k,hO⟩;have a:=Z.mono k;have t:=N.mono fun _ _=>ak.mono k;obtain ⟨q2,d2,rfl⟩:=hO.form;refine aT I<|sQ<|rZ<|aT I<|bK ?_;have b6:ai g2 (.slice q rs.length d) (aa l):=⟨rs,a,t⟩;have w:aG l=(iC (am l) (aa l) 0).getD ((nk (aa l)<|aa l).getD (0,0)):=by unfold aG;rw[zg2 oM]
  refine oP (ι:=Nat) (fun i=>[(1,pp b1 0),(4,.slice q rs.length d),(5,.slice q2 (am l).length d2),(6,vi i)]) (fun _=>g2) (fun _=>pt b1 (bY #[.slice p l.length c] 29)::s)
   (fun i=>i≤rs.length∧iC (am l) (aa l) 0=iC (am l) ((aa l).drop i) (iq (aa l) i)∧(0<i→1≤iq (aa l) i)) (fun i=>rs.length - i) 0
   sB rfl rfl ⟨zf8 _,rfl,fun h=>absurd h oM⟩ ?_
  rintro i ⟨hi,F,b7⟩;refine sQ<|sW I<|lM I<|lU (eN aF I)<|yL I<|tZ<|iP I (fun b8=>?_) (fun b8=>?_)
  ·have G:i<(aa l).length:=oM;have a0:i<rs.length:=oM;have b:=a.based oM;have z:=t.get (List.getElem?_eq_getElem G)<|List.getElem?_eq_getElem a0;have f:rs[((i:Nat):Int).toNat]?=some rs[i]:=List.getElem?_eq_getElem a0;have A:(aa l).drop i=(aa l)[i]::(aa l).drop (i+1):=zg8 G;have a1:=W.2 _<|gM G;have Q:=xe G;rw[A] at F;have R:0<i→∃ (r:Rc),rs[((i:Int) - 1).toNat]?=some r∧r.id=iq (aa l) i∧iq (aa l) i≤(aa l)[i].id:=fun h=>by
    have h2:i - 1<rs.length:=oM;have h3:i - 1<(aa l).length:=oM;refine⟨rs[i - 1],by rw[show ((i:Int) - 1).toNat=i - 1 by omega];exact List.getElem?_eq_getElem h2,?_,?_⟩
    ·have:=(t.get (List.getElem?_eq_getElem h3)<|List.getElem?_eq_getElem h2).1;rw[this];unfold iq;rw[zg2 oM];simp[h3]
    ·have:=zd1.1 V (i - 1) i h3 G oM;unfold iq;rw[zg2 oM];simpa [h3] using this
   generalize (aa l)[i]=x at *;generalize rs[i]=rx at *;obtain ⟨m,M,S⟩:=z;have z:ak g2 x rx:=⟨m,M,S⟩;have O:x.id≤iq (aa l) i→aG l=(x.id,20):=fun h=>by rw[w,F,iC,zg3 h];rfl
   by_cases T:x.id<1
   ·have a2:x.id≤iq (aa l) i:=by
     by_cases h0:0<i
     ·have:=b7 h0;omega
     ·have:i=0:=oM;subst this;show x.id≤0;omega
    refine kP<|tN<|sQ<|bK<|sQ<|sQ<|dW [] [(0,2),(1,2),(2,2),(3,2),(4,1),(5,2),(6,2),(7,2),(8,2),(9,2),(10,2),(11,2),(12,2),(13,2),(14,1),(15,2),(16,2),(17,2),(18,2),(19,2),(20,1),(21,2),(22,2),(23,2)] ze5 kR<|yM I<|yM I<|pU I (iA aF ar I I b oM sL)<|pU I (fC ao I zT3 I b)<|pK I (aZ (e:=encCell) (o:=0) (u:=vi x.id) iT3 I a.rd f (by rw[← m];rfl)) ?_;refine pU I (SU.eq (v':=vb true) (lS I I)<|ze4 vb<|zg1 T)<|yM I<|yG I<|yG I<|yG I<|yH I<|yH I<|yH I<|yH I<|SP.off1 I (zb4 I I I dC) dC<|yH I<|yH I<|yH I<|yH I<|yH I<|SP.off1 I (zb4 I I I dC) dC<|yH I<|yG I<|pU I (wT I I)<|pN<|tN<|za2 I<|sW I<|lM I<|lU (iA aF ar I I b oM sL)<|lU (fC ao I zT3 I b)<|lK (aZ (e:=encCell) (o:=0) (u:=vi x.id) iT3 I a.rd f (by rw[← m];rfl)) ?_;exact lA I<|aT I<|rE<|tR<|bR<|tR<|tR<|bR<|tR<|dR (s':=s) uR<|ST.ret2 (.inl I) results106 I I ⟨by rw[O a2],I,n.trans k⟩
   ·have a3:iq (aa l) i<x.id→iC (am l) (aa l) 0=if cN (am l) x≠0 then some (x.id,cN (am l) x) else iC (am l) ((aa l).drop<|i+1) (iq (aa l)<|i+1):=fun h=>by
     rw[F,iC,zg2 oM,Q]
    by_cases a4:(i:Int)>0
    ·obtain ⟨rp,b9,a5,c0⟩:=R oM;refine kP<|tN<|sQ<|bK<|sQ<|sQ<|dW [] [(0,2),(1,2),(2,2),(3,2),(4,1),(5,2),(6,2),(7,2),(8,2),(9,2),(10,2),(11,2),(12,2),(13,2),(14,1),(15,2),(16,2),(17,2),(18,2),(19,2),(20,1),(21,2),(22,2),(23,2)] ze5 kR<|yM I<|yM I<|pU I (iA aF ar I I b oM sL)<|pU I (fC ao I zT3 I b)<|pK I (aZ (e:=encCell) (o:=0) (u:=vi x.id) iT3 I a.rd f (by rw[← m];rfl)) ?_;refine pU I (SU.eq (v':=vb false) (lS I I)<|ze4 vb<|zf9 T)<|yM I<|yJ I<|zb3 I (gT I I I dC) (SU.eq (v':=vb true) (gR I I)<|ze4 vb<|zg1 a4) dC<|yJ I<|yJ I<|yJ I<|zb3 I (gT I I I dC) (iA aF ar I I b oM sL) dC<|zb3 I (gT I I I dC) (fC ao I zT3 I b) dC<|SP.gq I (gT I I I dC) (aZ (e:=encCell) (o:=0) (u:=vi x.id) iT3 I a.rd f (by rw[← m];rfl)) dC ?_;refine yJ I<|yJ I<|zb3 I (gT I I I dC) (sU I I oM) dC<|zb3 I (gT I I I dC) (iA aF ar I I b oM sL) dC<|zb3 I (gT I I I dC) (fC ao I zT3 I b) dC<|SP.gq I (gT I I I dC) (aZ (e:=encCell) (o:=0) (u:=vi<|iq (aa l) i) iT3 I a.rd b9 (by rw[← a5];rfl)) dC ?_;refine zb3 I (gT I I I dC) (eQ I I) dC<|zb3 I (gT I I I dC) (wT I I) dC<|pU I (wF I I)<|pN<|tN<|iP I (fun c1=>?_) (fun c1=>?_)
     ·refine sW I<|lM I<|lU (iA aF ar I I b oM sL)<|lU (fC ao I zT3 I b)<|lK (aZ (e:=encCell) (o:=0) (u:=vi x.id) iT3 I a.rd f (by rw[← m];rfl)) ?_;exact lA I<|aT I<|rE<|tR<|bR<|tR<|tR<|bR<|tR<|dR (s':=s) uR<|ST.ret2 (.inl I) results106 I I ⟨by rw[O oM],I,n.trans k⟩
     ·refine kP<|tN<|sW I<|lM I<|lM I<|lU (iA aF ar I I b oM sL)<|lK (SQ.elemA (e:=encCell) dH ar I a.rd f)<|lW (SO.call call161 I<|rz E g2 _ _ (am l) x rx hO X.1 Y z a1) ?_;rintro _ _ _ ⟨rfl,rfl,rfl⟩;refine aT I<|sW I<|lU (nQ I I)<|tZ ?_;have hg:=a3 oM;refine iP I (fun H=>?_) (fun H=>?_)
      ·rw[zg3 H] at hg;refine sW I<|lM I<|lU (iA aF ar I I b oM sL)<|lU (fC ao I zT3 I b)<|lK (aZ (e:=encCell) (o:=0) (u:=vi x.id) iT3 I a.rd f (by rw[← m];rfl)) ?_;exact lM I<|lA I<|aT I<|rE<|bR<|tR<|tR<|bR<|tR<|dR (s':=s) uR<|ST.ret2 (.inl I) results106 I I ⟨by rw[w,hg];rfl,rfl,n.trans k⟩
      ·rw[zg2 H] at hg;exact kP<|bN<|tN<|rG<|lM I<|yD I<|lA I<|SL.nil<|ST.again (i+1) sB I I ⟨oM,hg,fun _=>by rw[Q];omega⟩ oM
    ·have a9:i=0:=oM;have hg:=a3 (by rw[a9];show (0:Int)<x.id;omega);refine kP<|tN<|sQ<|bK<|sQ<|sQ ?_;refine dW [] [(0,2),(1,2),(2,2),(3,2),(4,1),(5,2),(6,2),(7,2),(8,2),(9,2),(10,2),(11,2),(12,2),(13,2),(14,1),(15,2),(16,2),(17,2),(18,2),(19,2),(20,1),(21,2),(22,2),(23,2)] ze5 kR ?_;refine yM I<|yM I<|pU I (iA aF ar I I b oM sL)<|pU I (fC ao I zT3 I b)<|pK I (aZ (e:=encCell) (o:=0) (u:=vi x.id) iT3 I a.rd f (by rw[← m];rfl)) ?_;refine pU I (SU.eq (v':=vb false) (lS I I)<|ze4 vb<|zf9 T)<|yM I<|yJ I<|zb3 I (gT I I I dC) (SU.eq (v':=vb false) (gR I I)<|ze4 vb<|zf9 a4) dC<|yJ I<|yG I<|yG I<|yG I<|yG I<|yI I<|yG I<|yG I<|yG I<|yG I<|yG I<|yI I<|yG I<|zb3 I (gT I I I dC) (wF I I) dC<|pU I (wF I I)<|pN<|tN<|za1 I<|kP<|tN<|sW I<|lM I<|lM I<|lU (iA aF ar I I b oM sL) ?_;refine lK (SQ.elemA (e:=encCell) dH ar I a.rd f)<|lW (SO.call call161 I<|rz E g2 _ _ (am l) x rx hO X.1 Y z a1) ?_;rintro _ _ _ ⟨rfl,rfl,rfl⟩;refine aT I<|sW I<|lU (nQ I I)<|tZ ?_;refine iP I (fun H=>?_) (fun H=>?_)
     ·rw[zg3 H] at hg;refine sW I<|lM I<|lU (iA aF ar I I b oM sL)<|lU (fC ao I zT3 I b)<|lK (aZ (e:=encCell) (o:=0) (u:=vi x.id) iT3 I a.rd f (by rw[← m];rfl)) ?_;exact lM I<|lA I<|aT I<|rE<|bR<|tR<|tR<|bR<|tR<|dR (s':=s) uR<|ST.ret2 (.inl I) results106 I I ⟨by rw[w,hg];rfl,rfl,n.trans k⟩
     ·rw[zg2 H] at hg;exact kP<|bN<|tN<|rG<|lM I<|yD I<|lA I<|SL.nil<|ST.again (i+1) sB I I ⟨oM,hg,fun _=>by rw[Q];omega⟩ oM
  ·have c2:(aa l).drop i=[]:=List.drop_eq_nil_of_le oM;rw[c2] at F;have B:iC (am l) (aa l) 0=none:=F;have c3:=(lm B).2;have b0:=bQ c3;have J:=mh B;rw[B] at w;have K:aG l=(nk (aa l)<|aa l).getD (0,0):=w;refine xI<|tX<|tX<|bX<|tN<|sQ<|rZ<|aT I<|bK<|oP (ι:=Nat) (fun i=>[(1,pp b1 0),(4,.slice q rs.length d),(8,vi i)]) (fun _=>g2) (fun _=>pt b1 (bY #[.slice p l.length c] 29)::s)
    (fun i=>i≤rs.length∧nk (aa l) (aa l)=nk (aa l) ((aa l).drop i)) (fun i=>rs.length - i) 0
    sB rfl rfl ⟨zf8 _,rfl⟩ ?_
   rintro j ⟨hj,D⟩;refine sQ<|sW I<|lM I<|lU (eN aF I)<|yL I<|tZ<|iP I (fun b2=>?_) (fun b2=>?_)
   ·have U:j<(aa l).length:=oM;have b3:j<rs.length:=oM;have b:=a.based oM;have z:=t.get (List.getElem?_eq_getElem U)<|List.getElem?_eq_getElem b3;have f:rs[((j:Nat):Int).toNat]?=some rs[j]:=List.getElem?_eq_getElem b3;have A:(aa l).drop j=(aa l)[j]::(aa l).drop (j+1):=zg8 U;have b4:(aa l)[j]∈aa l:=gM U;rw[A] at D;generalize (aa l)[j]=x at *;generalize rs[j]=rx at *;obtain ⟨m,M,S⟩:=z;have z:ak g2 x rx:=⟨m,M,S⟩;have L:=AO J b4;have C:=mZ<|J x b4;rw[b0] at L C;refine kP<|tN<|sQ<|bK<|sQ<|sW I<|lM I<|lU (iA aF ar I I b oM sL)<|lU (fC ao I zT3 I b)<|lK (aZ (e:=encCell) (o:=1) (u:=vi x.dim) iT3 I a.rd f (by rw[← M];rfl)) ?_;refine yL I<|tZ<|iP I (fun c5=>?_) (fun c5=>?_)
    ·exact xI<|tX<|bX<|tN<|rG<|lM I<|yD I<|lA I<|SL.nil<|ST.again (j+1) sB I I ⟨oM,by rw[D,nk,zg2 (fun h=>by omega)]⟩ oM
    ·refine kP<|tN<|sW I<|lM I<|lM I<|lU (iA aF ar I I b oM sL)<|lK (SQ.elemA (e:=encCell) dH ar I a.rd f)<|lW (SO.call call162 I<|wJ E g2 _ _ (aa l) x rx b6 W.1 b5 z L.1 C<|fun y hy=>(L.2.2 y hy).1) ?_;rintro _ _ _ ⟨rfl,rfl,rfl⟩;refine aT I<|sW I<|lU (nQ I I)<|tZ<|iP I (fun H=>?_) (fun H=>?_)
     ·refine sW I<|lM I<|lU (iA aF ar I I b oM sL)<|lU (fC ao I zT3 I b)<|lK (aZ (e:=encCell) (o:=0) (u:=vi x.id) iT3 I a.rd f (by rw[← m];rfl)) ?_;exact lM I<|lA I<|aT I<|rE<|bR<|tR<|tR<|bR<|tR<|dR (s':=s) uR<|ST.ret2 (.inl I) results106 I I ⟨by rw[K,D,nk,zg3 ⟨oM,H⟩];rfl,rfl,n.trans k⟩
     ·exact kP<|bN<|tN<|rG<|lM I<|yD I<|lA I<|SL.nil<|ST.again (j+1) sB I I ⟨oM,by rw[D,nk,zg2 (fun h=>H h.2)]⟩ oM
   ·have c6:(aa l).drop j=[]:=List.drop_eq_nil_of_le oM;rw[c6] at D;exact xI<|tX<|tX<|bX<|tN<|rZ<|lA I<|aT I<|rE<|dR (s':=s) uR<|ST.ret2 (.inl I) results106 I I ⟨by rw[K,D];rfl,rfl,n.trans k⟩
theorem dV (E:World)(g:PH)(s:Own)(v:Value)(l:List Cl)(b:ai g v l)(c:aM l) :
  Ctr Tryz.prog E 52 #[.agg #[v]] g s (fun r g' s'=>r=vb (decide ((aG l).2=0))∧s=s'∧Le g g'):=by
 refine zb2 (args:=[.agg #[v]]) func52 I ntmps52 (bE I)<|rZ (bW (bO I) fun d=>?_);refine aT I<|rZ<|lK (qV 0 an ae I I I)<|lW (SO.call call106 I<|mq E g _ _ l b c) ?_;rintro _ g1 _ ⟨rfl,rfl,a⟩;exact lM I<|yX I<|yX I<|lA I<|aT I<|sW I<|yE I<|aT I<|rE<|dR (s':=s) uR<|za8 (.inl I) results52 I ⟨I,I,a⟩
theorem vI {a b:List Int}(h:a.length≠b.length):decide (au a b<0)=decide ((a.length:Int)<b.length):=by
 unfold au
 rcases bA a.length b.length with ⟨c,e⟩ | ⟨c,e⟩ | ⟨c,e⟩
 ·rw[e];simp;omega
 ·omega
 ·rw[e];simp;omega
theorem gO {a b:List Int}(h:a.length=b.length):au a b=ii a b:=by
 unfold au
 rcases bA a.length b.length with ⟨c,e⟩ | ⟨c,e⟩ | ⟨c,e⟩
 ·omega
 ·rw[e];simp
 ·omega
theorem vK {x y:Int}{a b:List Int}(h:x≠y):decide (ii (x::a) (y::b)<0)=decide (x<y):=by
 rw[decide_eq_decide];simp only[ii]
 rcases bA x y with ⟨c,e⟩ | ⟨c,e⟩ | ⟨c,e⟩
 ·rw[e];simp;omega
 ·omega
 ·rw[e];simp;omega
theorem vL {x y:Int}{a b:List Int}(h:x=y):ii (x::a) (y::b)=ii a b:=by
 simp only[ii]
 rcases bA x y with ⟨c,e⟩ | ⟨c,e⟩ | ⟨c,e⟩
 ·omega
 ·rw[e];simp
 ·omega
theorem pX (E:World)(g:PH)(s:Own)(v u:Value)(a b:List Int)(m:dp g v a)(n:dp g u b)(hl:a.length<1099511627776) :
  Ctr Tryz.prog E 180 #[v,u] g s (fun r g' s'=>r=vb (decide (au a b<0))∧g=g'∧s=s'):=by
 obtain ⟨p,c,rfl⟩:=za4 m;obtain ⟨q,d,rfl⟩:=za4 n;refine zb2 (args:=[.slice p a.length c,.slice q b.length d]) func180 I ntmps180 (bE I)<|rZ<|aT I<|sQ<|sW I<|lU (eN az I)<|lM I<|lU (eN az I)<|lU (nQ I I)<|tZ<|iP I (fun o=>?_) (fun o=>?_)
 ·exact sW I<|lU (eN az I)<|lM I<|lU (eN az I)<|yL I<|aT I<|rE<|tR<|za8 (.inl I) results180 I ⟨by rw[vI oM],I,I⟩
 ·have j:a.length=b.length:=oM;have l:=gO j;refine kP<|tN<|sQ<|rZ<|aT I<|bK<|oP (ι:=Nat) (fun k=>[(0,.slice p a.length c),(1,.slice q b.length d),(5,vi k)]) (fun _=>g) (fun _=>s) (fun k=>k≤a.length∧ii a b=ii (a.drop k) (b.drop k)) (fun k=>a.length - k) 0
   sB rfl rfl ⟨zf8 _,by simp⟩ ?_
  rintro k ⟨y,e⟩;refine sQ<|sW I<|lM I<|lU (eN az I)<|yL I<|tZ<|iP I (fun t=>?_) (fun t=>?_)
  ·have f:k<a.length:=oM;have i:k<b.length:=oM;have w:=za6 m oM;have x:=za6 n oM;rw[zg8 f,zg8 i] at e;refine kP<|tN<|sQ<|bK<|sQ<|dW [] [(0,2),(1,2),(2,2),(3,1),(4,2),(5,2),(6,2),(7,1),(8,2)] ze5 kR<|yM I<|yM I<|pU I (iA az zT3 I I io oM<|by (simp[slen];omega)) ?_;refine pQ I (eB iT3 I (za7 m) (List.getElem?_eq_getElem f) I) dC ?_;refine yM I<|yM I<|pU I (iA az zT3 I I io oM<|by (simp[slen];omega)) ?_;refine pQ I (eB iT3 I (za7 n) (List.getElem?_eq_getElem i) I) dC ?_;refine pU I (nQ I I)<|pN<|tN ?_;refine iP I (fun hd=>?_) (fun hd=>?_)
   ·refine sQ<|dW [] [(0,2),(1,2),(2,2),(3,1),(4,2),(5,2),(6,2),(7,1),(8,2),(9,2)] ze5 kR<|yM I<|yM I<|pU I (iA az zT3 I I io oM<|by (simp[slen];omega)) ?_;refine pQ I (eB iT3 I (za7 m) (List.getElem?_eq_getElem f) I) dC ?_;refine yM I<|yM I<|pU I (iA az zT3 I I io oM<|by (simp[slen];omega)) ?_;refine pQ I (eB iT3 I (za7 n) (List.getElem?_eq_getElem i) I) dC ?_;refine pU I (lS I I)<|pU I (aS I)<|pN<|tN<|rE<|bR<|tR<|tR<|bR<|tR ?_;exact za8 (.inl I) results180 I ⟨by rw[l,e,vK hd],I,I⟩
   ·exact kP<|bN<|tN<|rG<|lM I<|yD I<|lA I<|SL.nil<|ST.again (k+1) sB I I ⟨oM,by rw[e,vL<|zh2 hd]⟩ oM
  ·rw[List.drop_eq_nil_of_le oM,List.drop_eq_nil_of_le oM] at e;exact xI<|tX<|tX<|bX<|tN<|rZ<|aT I<|rE<|za8 (.inl I) results180 I ⟨by rw[l,e];rfl,rfl,rfl⟩
theorem qW (E:World)(g:PH)(s:Own)(v u:Value)(ls:List (List Int))(t:List Int)(W:cQ g v ls)(T:dp g u t)(hl:ls.length<1099511627776)(J:∀ x∈ls,x.length<1099511627776)(K:t.length<1099511627776)(U:tr ls) :
  Ctr Tryz.prog E 116 #[v,u] g s (fun r g' s'=>r = .tuple #[vi<|lbL ls t,vb<|ls.contains t]∧g=g'∧s=s'):=by
 obtain ⟨rs,a,b⟩:=W;have V:=b.length;have d:=xN U t;obtain ⟨p,c,rfl⟩:=za4 a;refine zb2 (args:=[.slice p rs.length c,u]) func116 I ntmps116 (bE I)<|rZ<|lA I<|aT I<|rZ<|aT I<|sW I<|lU (eN eS I)<|aT I<|sQ<|bK<|oP (ι:=Nat×Nat) (fun q=>[(0,.slice p rs.length c),(1,u),(6,vi q.1),(7,vi q.2)]) (fun _=>g) (fun _=>s)
  (fun q=>q.1≤q.2∧q.2≤ls.length∧(∀ k (h:k<ls.length),k<q.1→au ls[k] t<0)∧∀ k (h:k<ls.length),q.2≤k→¬ au ls[k] t<0) (fun q=>q.2 - q.1) (0,ls.length)
  ⟨rfl,rfl,rfl,bG oM,trivial⟩ rfl rfl ⟨zf8 _,Nat.le_refl _,fun k _ h=>absurd h oM,fun k L y=>absurd L (by dsimp only at y;omega)⟩ ?_
 rintro ⟨i,j⟩ ⟨M,N,e,f⟩;dsimp only at M N e f ⊢;refine sQ<|sW I<|lM I<|yL I<|tZ<|iP I (fun O=>?_) (fun O=>?_)
 ·have z:=a.based oM;have l:(i+j) / 2<ls.length:=oM;have D:(i+j) / 2<rs.length:=oM;have A:rs[((((i+j) / 2:Nat):Int)).toNat]?=some rs[(i+j) / 2]:=List.getElem?_eq_getElem D;have P:=b.get (List.getElem?_eq_getElem l)<|List.getElem?_eq_getElem D;have Q:=J _<|gM l;refine kP<|tN<|bK<|sW I<|lM I<|yD I<|lU (SU.eq (v':=vi (((i+j) / 2:Nat):Int)) (SU.quo I I dC)<|ze4 vi (by rw[← Int.natCast_add];exact mc _ oM)) ?_;refine aT I<|sW I<|lM I<|lU (iA eS fW I I z oM sL)<|lK (eB ic I a.rd A I)<|lM I<|lW (SO.call call180 I<|pX E g _ _ _ ls[(i+j) / 2] t P T Q) ?_;rintro _ _ _ ⟨rfl,rfl,rfl⟩;refine tZ<|iP I (fun hc=>?_) (fun hc=>?_)
  ·refine rG<|lM I<|yD I<|lA I<|SL.nil<|bN<|ST.again ((i+j) / 2+1,j) sB I I ⟨lN,N,fun k w h=>?_,f⟩ lN;dsimp only at h
   rcases Nat.eq_or_lt_of_le (show k≤(i+j) / 2 by omega) with rfl | m
   ·exact hc
   ·exact d k ((i+j) / 2) w l m hc
  ·refine rG<|lM I<|lA I<|SL.nil<|bN<|ST.again (i,(i+j) / 2) sB I I ⟨lN,lN,e,fun k w h=>?_⟩ lN;dsimp only at h
   rcases Nat.eq_or_lt_of_le (show (i+j) / 2≤k by omega) with m | m
   ·subst m;exact hc
   ·exact fun X=>hc<|d ((i+j) / 2) k l w m X
 ·have R:i=j:=oM;subst R;have F:lbL ls t=i:=Ep N (fun k h m=>by simpa using e k h m) (fun k h m=>by simpa using f k h m);by_cases G:(i:Int)<(rs.length:Int)
  ·have n:i<ls.length:=oM;have H:i<rs.length:=oM;have z:=a.based oM;have A:rs[((i:Nat):Int).toNat]?=some rs[i]:=List.getElem?_eq_getElem H;have P:=b.get (List.getElem?_eq_getElem n)<|List.getElem?_eq_getElem H;have o:(!decide (au t ls[i]<0))=ls.contains t:=by
    have L:=f i n<|Nat.le_refl _;by_cases y:au t ls[i]<0
    ·rw[zg1 y];symm;rw[Bool.not_true,← zj9];intro hm;have B:t∈ls:=by simpa using hm
     obtain ⟨k,w,rfl⟩:=zc8 B
     rcases Nat.lt_trichotomy k i with C | C | C
     ·have:=e k w C;rw[cG] at this;omega
     ·subst C;rw[cG] at y;omega
     ·exact zd1.1 U i k n w C y
    ·rw[zf9 y];have C:t=ls[i]:=by
      rcases eh t ls[i] with h | h | h
      ·exact absurd h y
      ·exact h
      ·exact absurd h L
     symm;rw[Bool.not_false];have:t∈ls:=by rw[C];exact gM n
     simpa using this
   refine xI<|tX<|tX<|bX<|tN<|sW I<|lM I<|lM I<|lU (eN eS I)<|lU (SU.eq (v':=vb true) (lS I I)<|ze4 vb<|zg1 G)<|lM I<|yC I<|yC I<|yC I<|lY I I I (iA eS fW I I z oM sL)<|SL.gq (gT I I I dC) (eB ic I a.rd A I) dC<|ze3 (gT I I I dC) (SO.call call180 I<|pX E g _ _ _ t ls[i] T P K) dC ?_;rintro _ _ _ ⟨rfl,rfl,rfl⟩;exact lY I I I (SU.not I)<|yP I<|lA I<|aT I<|rE<|ST.ret2 (.inl I) results116 I I ⟨by rw[F,← o],I,I⟩
  ·have S:ls.contains t=false:=by
    rw[← zj9];intro hm;have B:t∈ls:=by simpa using hm
    obtain ⟨k,w,rfl⟩:=zc8 B;have:=e k w oM;rw[cG] at this;omega
   exact xI<|tX<|tX<|bX<|tN<|sW I<|lM I<|lM I<|lU (eN eS I)<|lU (SU.eq (v':=vb false) (lS I I)<|ze4 vb<|zf9 G)<|lM I<|yA I<|yA I<|yA I<|yA I<|yA I<|yA I<|yA I<|yF I<|lA I<|aT I<|rE<|ST.ret2 (.inl I) results116 I I ⟨by rw[F,S],I,I⟩
abbrev ek (l:List Int):Prop:=l.Pairwise (· < ·)
theorem mn:∀ {l m:List Int},ek l→ek m→(∀ x,x∈l↔x∈m)→l=m
 | [],[],_,_,_=>rfl
 | [],y::m,_,_,h=>by have:=(h y).2 dO;simp at this
 | x::l,[],_,_,h=>by have:=(h x).1 dO;simp at this
 | x::l,y::m,hl,hm,h=>by
  obtain ⟨c,f⟩:=zk5.1 hl;obtain ⟨d,g⟩:=zk5.1 hm;have b:x=y:=by
   rcases zf3.1 ((h x).1<|by simp) with e | i
   ·exact e
   ·rcases zf3.1 ((h y).2<|by simp) with e | j
    ·exact e.symm
    ·have:=d x i;have:=c y j;omega
  subst b;rw[mn f g fun z=>?_];constructor
  ·intro hz
   rcases zf3.1 ((h z).1<|by simp[hz]) with e | a
   ·have:=c z hz;omega
   ·exact a
  ·intro hz
   rcases zf3.1 ((h z).2<|by simp[hz]) with e | a
   ·have:=d z hz;omega
   ·exact a
theorem jq:∀ {x:Int} {l:List Int},(x::l).Pairwise (· ≤ ·)→ek (bg (fun a b:Int=>decide (a=b)) x l)∧(∀ y∈bg (fun a b:Int=>decide (a=b)) x l,x<y)∧∀ y,y∈l→y=x∨y∈bg (fun a b:Int=>decide (a=b)) x l
 | x,[],_=>⟨List.Pairwise.nil,by simp[bg],by simp⟩
 | x,y::r,h=>by
  obtain ⟨c,d⟩:=zk5.1 h;obtain ⟨i1,i2,i3⟩:=jq d;have f:=c y dO;unfold bg;by_cases e:y=x
  ·subst e;simp only[decide_true,if_true];refine⟨i1,i2,fun z hz=>?_⟩
   rcases zf3.1 hz with rfl | hz
   ·exact .inl I
   ·exact i3 z hz
  ·simp only[e,decide_false];refine⟨zk5.2 ⟨i2,i1⟩,fun z hz=>?_,fun z hz=>?_⟩
   ·rcases zf3.1 hz with rfl | hz
    ·omega
    ·have:=i2 z hz;omega
   ·rcases zf3.1 hz with rfl | hz
    ·exact .inr dO
    ·rcases i3 z hz with rfl | h
     ·exact .inr dO
     ·exact .inr (by simp[h])
theorem j6 (l:List Int):(eW l).Pairwise (· ≤ ·):=by
 have:=List.pairwise_mergeSort (le:=fun x y:Int=>decide (x≤y)) (fun a b c d e=>by simp at *;omega) (fun a b=>by simp;omega) l;exact this.imp fun h=>by simpa using h
theorem la (l:List Int):ek (dB l):=by
 have a:=j6 l;unfold dB;cases h:eW l with
 | nil=>exact List.Pairwise.nil
 | cons x r =>
  rw[h] at a;obtain ⟨b,c,_⟩:=jq a;exact zk5.2 ⟨c,b⟩
theorem nH (l:List Int)(y:Int):y∈dB l↔y∈l:=by
 have a:=j6 l;have hp:=qQ l;rw[← hp.mem_iff];unfold dB;refine⟨fun h=>(sj _ _).subset h,fun h=>?_⟩;cases hc:eW l with
 | nil=>rw[hc] at h;simp at h
 | cons x r =>
  rw[hc] at a h
  rcases zf3.1 h with rfl | h
  ·simp[iT]
  ·rcases (jq a).2.2 y h with rfl | h
   ·simp[iT]
   ·simp[iT,h]
theorem E2 {l out:List Int}(a:ek out)(hm:∀ x,x∈out↔x∈l):out=dB l:=mn a (la l) fun x=>by rw[hm,nH]
theorem BG {a b:List Int}(c:ek a)(h:∀ x∈a,x∈b):a.length≤b.length:=sN (c.imp fun h=>by omega) h
def okS (l:List Int):Bool:=!(l.any fun x=>decide (x<0))&&decide ((dB l).length≤9)
theorem Fg {l:List Int}(h:okS l=false):jz (dB l)=true:=by
 unfold okS at h;rw[Bool.and_eq_false_iff] at h;cases hc:dB l with
 | nil=>rfl
 | cons a r =>
  unfold jz
  rcases h with h | h
  ·simp only[Bool.not_eq_false',zk1,zj7] at h;obtain ⟨x,d,e⟩:=h;have b:=(nH l x).2 d;rw[hc] at b;have c:=la l;rw[hc] at c;have:a≤x:=by
    rcases zf3.1 b with rfl | f
    ·omega
    ·have:=(zk5.1 c).1 x f;omega
   simp;omega
  ·rw[hc] at h;simp at h ⊢;omega
theorem Dw {l:List Int}(h:okS l=true):(dB l).length≤9∧(jz (dB l)=true→dB l=[]):=by
 unfold okS at h;simp only[zj5,Bool.not_eq_true',zj7] at h;refine⟨h.2,fun hb=>?_⟩;cases hc:dB l with
 | nil=>rfl
 | cons a r =>
  rw[hc] at hb;unfold jz at hb;rw[hc] at h;simp at hb;have b:a∈l:=(nH l a).1 (by rw[hc];simp);have c:=zk7.1 h.1 a b;simp at c;have d:=h.2;simp at d;omega
theorem zW {out:List Int}{x:Int}{k:Nat}(d:ek out)(e:∀ y∈out.take k,y<x)(f:∀ y∈out.drop k,x<y):ek (out.take k++x::out.drop k):=by
 have a:ek (out.take k++out.drop k):=by rw[zj4];exact d
 have b:=List.pairwise_append.1 a;refine List.pairwise_append.2 ⟨b.1,zk5.2 ⟨f,b.2.1⟩,fun y c z hz=>?_⟩
 rcases zf3.1 hz with rfl | hz
 ·exact e y c
 ·exact b.2.2 y c z hz
theorem Bb {α:Type}{out:List α}{x y:α}{k:Nat}:y∈out.take k++x::out.drop k↔y=x∨y∈out:=by
 rw[zf5,zf3];constructor
 ·rintro (h | h | h)
  ·exact .inr<|List.mem_of_mem_take h
  ·exact .inl h
  ·exact .inr<|List.mem_of_mem_drop h
 ·rintro (h | h)
  ·exact .inr<|.inl h
  ·rw[← zj4 k out] at h
   rcases zf5.1 h with h | h
   ·exact .inl h
   ·exact .inr<|.inr h
theorem o7 {out:List Int}{c:Int}{k:Nat}(e:ek out)(b:k<out.length)(h:c≤out[k]):∀ y∈out.drop k,c≤y:=by
 rw[zg8 b];intro y a;have d:ek (out.drop k):=List.Pairwise.sublist (List.drop_sublist k out) e;rw[zg8 b] at d
 rcases zf3.1 a with rfl | a
 ·exact h
 ·have:=(zk5.1 d).1 y a;omega
theorem Dj (E:World)(g:PH)(s:Own)(v:Value)(l:List Int)(hv:dp g v l)(hl:l.length<17592186044416) :
  Ctr Tryz.prog E 115 #[v] g s (fun r g' s'=>s=s'∧Le g g'∧((okS l=true∧∃ u,r = .tuple #[u,vb true]∧dp g' u (dB l))∨(okS l=false∧r = .tuple #[.slice none 0 0,vb false]))):=by
 obtain ⟨p,c,rfl⟩:=za4 hv;refine zb2 (args:=[.slice p l.length c]) func115 I ntmps115 (bE I)<|rZ<|lA I<|aT I<|rZ<|aT I<|sQ<|rZ<|aT I<|bK<|oP (ι:=PH×Value×List Int×Nat) (fun i=>[(0,.slice p l.length c),(4,i.2.1),(5,vi i.2.2.2)]) (fun i=>i.1) (fun _=>s)
  (fun i=>Le g i.1∧dp i.1 i.2.1 i.2.2.1∧i.2.2.2≤l.length∧ek i.2.2.1∧(∀ x,x∈i.2.2.1↔x∈l.take i.2.2.2)∧((l.take i.2.2.2).any (fun x=>decide (x<0))=false∧i.2.2.1.length≤9)) (fun i=>l.length - i.2.2.2)
  (g,.slice none 0 0,[],0) sB rfl rfl ⟨zb9 g,zc1 g _,zf8 _,List.Pairwise.nil,by simp,by simp,by simp⟩ ?_
 rintro ⟨g1,ov,out,i⟩ ⟨f,a,hi,j,t,z,h9⟩;dsimp only at f a hi j t z h9 ⊢;obtain ⟨q,d,rfl⟩:=za4 a;have c1:=(SlA.cap a).2;refine sQ<|sW I<|lM I<|lU (eN az I)<|yL I<|tZ<|iP I (fun b0=>?_) (fun b0=>?_)
 ·have R:i<l.length:=oM;have L:=za6 (hv.mono f) oM;have M:l[((i:Nat):Int).toNat]?=some l[i]:=List.getElem?_eq_getElem R;have N:l.take (i+1)=l.take i++[l[i]]:=tS R;have b1:l[i]∈l:=gM R;generalize l[i]=x at *;refine kP<|tN<|sQ<|bK<|rZ<|aT I<|SC.cut (ι:=Nat) (fun k=>[(0,.slice p l.length c),(4,.slice q out.length d),(5,vi i),(6,vi k)]) (fun _=>g1) (fun _=>s) (fun k=>k≤out.length∧(∀ y∈out.take k,y<x)∧∀ y∈out.drop k,x≤y) ?_ ?_
  ·refine bK<|oP (ι:=Nat) (fun k=>[(0,.slice p l.length c),(4,.slice q out.length d),(5,vi i),(6,vi k)]) (fun _=>g1) (fun _=>s) (fun k=>k≤out.length∧∀ y∈out.take k,y<x) (fun k=>out.length - k) 0
    sB rfl rfl ⟨zf8 _,by simp⟩ ?_
   rintro k ⟨hk,C⟩;by_cases a2:(k:Int)<(out.length:Int)
   ·have S:k<out.length:=oM;have T:=za6 a oM;refine sQ<|sQ<|dW [] [(0,2),(1,2),(2,2),(3,2),(4,2),(5,2),(6,2),(7,2),(8,1),(9,2),(10,2),(11,2),(12,1),(13,2),(14,2)] ze5 kR<|yM I<|yM I<|pU I (eN az I)<|pU I (SU.eq (v':=vb true) (lS I I)<|ze4 vb<|zg1 a2)<|yM I<|yJ I<|yJ I<|zb3 I (gT I I I dC) (iA az zT3 I I T oM sL) dC<|SP.gq I (gT I I I dC) (eB iT3 I (za7 a) (List.getElem?_eq_getElem S) I) dC ?_;refine yJ I<|yJ I<|zb3 I (gT I I I dC) (iA az zT3 I I L oM sL) dC<|SP.gq I (gT I I I dC) (eB iT3 I (za7<|hv.mono f) M I) dC<|zb3 I (gT I I I dC) (lS I I) dC<|pU I (wT I I)<|pN<|tN<|iP I (fun hc=>?_) (fun hc=>?_)
    ·refine kP (tN (bK (rG (lM I (yD I (lA I (SL.nil (bN ?_))))))));exact ST.again (k+1) sB I I ⟨oM,by
      rw[tS S];intro y hy
      rcases zf5.1 hy with h | h
      ·exact C y h
      ·simp at h;subst h;exact hc⟩ oM
    ·exact xI<|tX<|tX<|bX<|za9 k sB I I ⟨hk,C,o7 j S oM⟩
   ·exact sQ<|sQ<|dW [] [(0,2),(1,2),(2,2),(3,2),(4,2),(5,2),(6,2),(7,2),(8,1),(9,2),(10,2),(11,2),(12,1),(13,2),(14,2)] ze5 kR<|yM I<|yM I<|pU I (eN az I)<|pU I (SU.eq (v':=vb false) (lS I I)<|ze4 vb<|zf9 a2)<|yM I<|yG I<|yG I<|yG I<|yI I<|yG I<|yG I<|yG I<|yI I<|yG I<|pU I (wF I I)<|pN<|tN<|za1 I<|xI<|tX<|tX<|bX<|za9 k sB I I ⟨hk,C,by rw[List.drop_eq_nil_of_le oM];simp⟩
  ·rintro k ⟨hk,U,a3⟩;have V:x∈out→∀ y,y∈out↔y∈l.take (i+1):=fun h y=>by
    rw[N,zf5,← t];constructor
    ·exact .inl
    ·rintro (h' | h')
     ·exact h'
     ·simp at h';rw[h'];exact h
   have W:x∈out→(l.take<|i+1).any (fun x=>decide (x<0))=false:=fun h=>by
    have X:=zk7.1 z x<|(t x).1 h;rw[N,List.any_append,z];simpa using X
   have F:(∀ y∈out.drop k,x<y)→ek (out.take k++x::out.drop k)∧∀ y,y∈out.take k++x::out.drop k↔y∈l.take (i+1):=fun h=>⟨zW j U h,fun y=>by
    rw[Bb,N,zf5,← t];simp;exact or_comm⟩
   have a4:=SlA.cut a (l:=k) (m:=out.length) hk<|Nat.le_refl _;have a5:=SlA.cut a (l:=0) (m:=k) (zf8 _) hk;rw[tL (by rw[zf2];exact Nat.le_refl _)] at a4;rw[List.drop_zero,Nat.sub_zero] at a5;have c2:(out.take k++x::out.drop k).length=out.length+1:=lN;obtain ⟨nw,c3⟩:∃ nw,nw=out.take k++x::out.drop k:=⟨_,rfl⟩;have Y:x<0→okS l=false:=fun h=>by
    unfold okS;have:l.any (fun x=>decide (x<0))=true:=zk1.2 ⟨x,b1,by simpa using h⟩;rw[this];rfl
   have Z:(∀ y∈out.drop k,x<y)→9<(out.take k++x::out.drop k).length→okS l=false:=fun h h'=>by
    obtain ⟨X,G⟩:=F h;have h3:=BG X (b:=dB l) (fun y hy=>by rw[nH];exact List.mem_of_mem_take<|(G y).1 hy);unfold okS;have:decide ((dB l).length≤9)=false:=zf9 oM;rw[this];simp
   have b2:∀ g3 q3 d3,(∀ y∈out.drop k,x<y)→Le g g3→dp g3 (.slice q3 (out.take k++x::out.drop k).length d3) (out.take k++x::out.drop k)→¬ x<0→(out.take k++x::out.drop k).length≤9 →
     Le g g3∧dp g3 (.slice q3 (out.take k++x::out.drop k).length d3) (out.take k++x::out.drop k)∧i+1≤l.length∧ek (out.take k++x::out.drop k)∧(∀ y,y∈out.take k++x::out.drop k↔y∈l.take (i+1))∧((l.take<|i+1).any (fun x=>decide (x<0))=false∧(out.take k++x::out.drop k).length≤9):=fun g3 q3 d3 X G h3 h4 h5 =>
    ⟨G,h3,oM,(F X).1,(F X).2,by rw[N,List.any_append,z];simpa using h4,h5⟩
   have b3:out.contains x=false→∀ y∈out.drop k,x<y:=fun h y hy=>by
    have X:=a3 y hy;have G:y≠x:=fun e=>by
     have:out.contains x=true:=by rw[← e];simpa using List.mem_of_mem_drop hy
     rw[h] at this;cases this
    omega
   have H:(k:Int)<(out.length:Int)→out[((k:Nat):Int).toNat]?=some (out.getD k 0):=fun h=>by
    have G:k<out.length:=oM;rw[show ((k:Nat):Int).toNat=k by omega,List.getElem?_eq_getElem G,zh3,List.getElem?_eq_getElem G];rfl
   have hA:(k:Int)<(out.length:Int)→out.contains x=decide (out.getD k 0=x):=fun h=>by
    have G:k<out.length:=oM;rw[zh3,List.getElem?_eq_getElem G,Option.getD_some,Bool.eq_iff_iff,zj8];constructor
    ·intro hm;have J:x∈out:=by simpa using hm
     rw[← zj4 k out] at J
     rcases zf5.1 J with h3 | h3
     ·have:=U x h3;omega
     ·have h4:=a3 _ (by rw[zg8 G];exact List.mem_cons_self:out[k]∈out.drop k);have h5:=o7 j G (Int.le_refl out[k]) x h3;omega
    ·intro e;rw[← e];simp
   have hB:¬ (k:Int)<(out.length:Int)→out.contains x=false:=fun h=>by
    rw[← zj9];intro hm;have J:x∈out:=by simpa using hm
    rw[← zj4 k out,List.drop_eq_nil_of_le oM,zc7] at J;have:=U x J;omega
   have T:=fun h=>za6 a h;generalize out.getD k 0=yk at H hA;obtain ⟨nl,c0⟩:∃ nl,nl=(out.take k++x::out.drop k).length:=⟨_,rfl⟩;have f1:x<0→(decide (x<0)||decide ((((out.take k++x::out.drop k).length:Nat):Int)>9))=true:=fun h=>by simp[h]
   have f2:¬ x<0→(decide (x<0)||decide ((((out.take k++x::out.drop k).length:Nat):Int)>9))=decide ((((out.take k++x::out.drop k).length:Nat):Int)>9):=fun h=>by simp only[h,decide_false,Bool.false_or]
   refine sQ<|SC.cutB 45 ((out.contains x)) ?_ ?_
   ·refine dW [] [(0,2),(1,2),(2,2),(3,2),(4,2),(5,2),(6,2),(7,2),(8,1),(9,2),(10,2),(11,2),(12,1),(13,2),(14,2)] ze5 kR<|yM I<|yM I<|pU I (eN az I)<|pU I (lS I I)<|yM I<|SP.split ?_ ?_
    ·intro O;exact yJ I<|yJ I<|zb3 I (gT I I I dC) (iA az zT3 I I (T oM) oM sL) dC<|SP.gq I (gT I I I dC) (eB iT3 I (za7 a) (H O) I) dC<|yJ I<|yJ I<|zb3 I (gT I I I dC) (iA az zT3 I I L oM sL) dC<|SP.gq I (gT I I I dC) (eB iT3 I (za7<|hv.mono f) M I) dC<|zb3 I (gT I I I dC) (eQ I I) dC<|pU I (wT I I)<|pN<|zb1 (by (rw[hA O];rfl)) mI
    ·intro O;exact yG I<|yG I<|yG I<|yI I<|yG I<|yG I<|yG I<|yI I<|yG I<|pU I (wF I I)<|pN<|zb1 (by (rw[hB O];rfl)) mI
   refine iQ I (fun A=>?_) (fun A=>?_)
   ·have a9:x∈out:=by simpa using A
    exact xI<|tX<|bX<|tN<|rG<|lM I<|yD I<|lA I<|SL.nil<|ST.again (g1,_,out,i+1) sB I I ⟨f,a,lN,j,V a9,W a9,h9⟩ lN
   ·have hg:=b3 A;refine kP<|tN<|sQ<|dW [8] [(0,2),(1,2),(2,2),(3,1),(5,2),(6,2),(7,2),(4,0),(8,0),(9,2)] ze5 kR<|yM I<|yM I<|pU I (iA az zT3 I I L oM sL)<|pK I (eB iT3 I (za7<|hv.mono f) M I)<|yM I<|yM I<|pU I (SU.sliceL az zT3 I I oM oM)<|SP.o I (bS sty32 I I I (ab ⟨I,trivial⟩) dC) dC (.inr iR) ?_;rintro _ _ _ ⟨c5,rfl,rfl,rfl⟩;refine SP.to (fun w hw=>At.litRow (e:=encInt) (l:=[x]) (n:=0) hw I I dC) ?_;refine SP.o I (aQ (e:=encInt) 0 sty32 I I I a4 (by rw[zf2];(first | with_reducible rfl | ((try dsimp only);(try simp only[ze7,zf1,zc5,ze9,ze6,zf2])<;>omega))) (by rw[zf2];(first | with_reducible rfl | ((try dsimp only);(try simp only[ze7,zf1,zc5,ze9,ze6,zf2])<;>omega)))) dC (.inl dC) ?_;rintro v54 _ _ ⟨rfl,rfl⟩;refine pU I (aS I) (pN<|tN<|sQ<|fS fun g2 D b4=>?_);have a0:dp g2 v54 ([x]++out.drop k):=b4;refine rG<|lW (bS sty32 I I I (ab trivial) dC) ?_;rintro _ _ _ ⟨b5,rfl,rfl,rfl⟩;refine SL.emptyRow 3 1 (some ⟨b5,0,none⟩)<|lM I<|lM I<|lU (SU.sliceH az zT3 I I oM oM)<|lW (aQ (e:=encInt) (l:=[]) 0 sty32 I I I (a5.mono D) (by rw[ze6];(first | with_reducible rfl | ((try dsimp only);(try simp only[ze7,zf1,zc5,ze9,ze6,zf2])<;>omega))) (by rw[ze6];(first | with_reducible rfl | ((try dsimp only);(try simp only[ze7,zf1,zc5,ze9,ze6,zf2])<;>omega)))) ?_;rintro v59 _ _ ⟨rfl,rfl⟩;refine lM I<|lW (aQ (e:=encInt) 0 sty32 I I I a0 lN lN) ?_;rintro v61 _ _ ⟨rfl,rfl⟩;refine aT I (fS fun g3 K b6=>?_);have P:dp g3 v61 (out.take k++x::out.drop k):=(by have h:dp g3 v61 ([]++out.take k++([x]++out.drop k)):=b6;simpa using h);refine SC.drop (s':=s) (.cons _<|.refl _) ?_;obtain ⟨q3,d3,rfl⟩:=za4 P;refine SC.sub (f':=[(0,.slice p l.length c),(4,.slice q3 (out.take k++x::out.drop k).length d3),(5,vi i)]) sB ?_;refine SC.cutB 71 ((decide (x<0)||decide ((((out.take k++x::out.drop k).length:Nat):Int)>9))) ?_ ?_
    ·refine rG<|lM I<|lM I<|lU (iA az zT3 I I L oM sL)<|lK (eB iT3 I (za7<|hv.mono<|f.trans<|D.trans K) M I)<|yL I<|lM I<|sP ?_ ?_
     ·intro a1;exact yA I<|yA I<|yA I<|yP I<|SL.nil<|zb1 (by (rw[f1 a1];rfl)) mI
     ·intro a1;exact yC I<|lY I I I (eN az I)<|lY I I I (gR I I)<|yF I<|SL.nil<|zb1 (by (rw[f2 a1];rfl)) mI
    refine iQ I (fun B=>?_) (fun B=>?_)
    ·have b7:okS l=false:=by
      rw[zj6,zj8,zj8] at B
      rcases B with h | h
      ·exact Y h
      ·exact Z hg oM
     exact rZ<|lA I<|aT I<|rE<|bR<|tR<|tR<|bR<|tR<|ST.ret2 (.inl I) results115 I I ⟨I,f.trans<|D.trans K,.inr ⟨b7,I⟩⟩
    ·rw[Bool.or_eq_false_iff,decide_eq_false_iff_not,decide_eq_false_iff_not] at B;exact kP<|bN<|tN<|rG<|lM I<|yD I<|lA I<|SL.nil<|ST.again (g3,_,out.take k++x::out.drop k,i+1) sB I I (b2 g3 q3 d3 hg (f.trans<|D.trans K) P B.1 oM) lN
 ·have b8:l.take i=l:=tL oM;rw[b8] at t z;have Q:=E2 j t;have b9:okS l=true:=by unfold okS;rw[z,← Q];simpa using h9
  exact xI<|tX<|tX<|bX<|tN<|sW I<|lA I<|aT I<|rE<|ST.ret2 (.inl I) results115 I I ⟨I,f,.inl ⟨b9,_,I,by rw[← Q];exact a⟩⟩
abbrev e6 (l:List (List Int)):Prop:=l.Pairwise fun a b=>au a b<0
theorem iK {a b:List Int}(h:au a b<0):¬ au b a<0:=by have:=jf a b;omega
theorem e6.srt {l:List (List Int)}(h:e6 l):tr l:=h.imp fun h=>iK h
theorem iI:∀ {l m:List (List Int)},e6 l→e6 m→(∀ x,x∈l↔x∈m)→l=m
 | [],[],_,_,_=>rfl
 | [],y::m,_,_,h=>by have:=(h y).2 dO;simp at this
 | x::l,[],_,_,h=>by have:=(h x).1 dO;simp at this
 | x::l,y::m,hl,hm,h=>by
  obtain ⟨d,g⟩:=zk5.1 hl;obtain ⟨f,i⟩:=zk5.1 hm;have c:x=y:=by
   rcases zf3.1 ((h x).1<|by simp) with e | j
   ·exact e
   ·rcases zf3.1 ((h y).2<|by simp) with e | k
    ·exact e.symm
    ·exact absurd (d y k)<|iK<|f x j
  subst c;have a:¬ au x x<0:=by rw[cG];decide
  rw[iI g i fun z=>?_];constructor
  ·intro hz
   rcases zf3.1 ((h z).1<|by simp[hz]) with e | b
   ·subst e;exact absurd (d z hz) a
   ·exact b
  ·intro hz
   rcases zf3.1 ((h z).2<|by simp[hz]) with e | b
   ·subst e;exact absurd (f z hz) a
   ·exact b
theorem iE:∀ {x:List Int} {l:List (List Int)},tr (x::l)→e6 (bg eqL x l)∧(∀ y∈bg eqL x l,au x y<0)∧∀ y,y∈l→y=x∨y∈bg eqL x l
 | x,[],_=>⟨List.Pairwise.nil,by simp[bg],by simp⟩
 | x,y::r,h=>by
  obtain ⟨c,d⟩:=zk5.1 h;obtain ⟨i1,i2,i3⟩:=iE d;have b:=c y dO;unfold bg;by_cases e:y=x
  ·subst e;simp only[eqL,decide_true,if_true];refine⟨i1,i2,fun z hz=>?_⟩
   rcases zf3.1 hz with rfl | hz
   ·exact .inl I
   ·exact i3 z hz
  ·have a:au x y<0:=by
    rcases eh x y with h | h | h
    ·exact h
    ·exact absurd h.symm e
    ·exact absurd h b
   simp only[eqL,e,decide_false];refine⟨zk5.2 ⟨i2,i1⟩,fun z hz=>?_,fun z hz=>?_⟩
   ·rcases zf3.1 hz with rfl | hz
    ·exact a
    ·exact eV _ _ _ a<|i2 z hz
   ·rcases zf3.1 hz with rfl | hz
    ·exact .inr dO
    ·rcases i3 z hz with rfl | h
     ·exact .inr dO
     ·refine .inr ?_;simp;exact .inr h
theorem kO (all:List (List Int))(t:List Int):e6 (eP all t):=by
 have a:=jF<|all++bM t;unfold eP;cases h:og (all++bM t) with
 | nil=>exact List.Pairwise.nil
 | cons x r =>
  rw[h] at a;obtain ⟨b,c,_⟩:=iE a;exact zk5.2 ⟨c,b⟩
theorem jp (all:List (List Int))(t x:List Int):x∈eP all t↔x∈all∨x∈bM t:=by
 refine⟨lp,fun h=>?_⟩;have a:=jF<|all++bM t;have hm:x∈og (all++bM t):=(iY _).symm.subset<|zf5.2 h;unfold eP;cases hc:og (all++bM t) with
 | nil=>rw[hc] at hm;simp at hm
 | cons y r =>
  rw[hc] at a hm
  rcases zf3.1 hm with rfl | hm
  ·simp[iT]
  ·rcases (iE a).2.2 x hm with rfl | h
   ·simp[iT]
   ·simp[iT,h]
theorem oD:∀ {l:List (List Int)} (t:List Int),tr l→(∀ y∈l.take (lbL l t),au y t<0)∧∀ y∈l.drop (lbL l t),¬ au y t<0
 | [],t,_=>⟨by simp,by simp⟩
 | a::r,t,e=>by
  obtain ⟨f,g⟩:=zk5.1 e;obtain ⟨i1,i2⟩:=oD t g;by_cases d:au a t<0
  ·have hl:lbL (a::r) t=lbL r t+1:=by simp[lbL,d]
   rw[hl,List.take_succ_cons,List.drop_succ_cons];refine⟨fun y b=>?_,i2⟩
   rcases zf3.1 b with rfl | b
   ·exact d
   ·exact i1 y b
  ·have c:∀ y∈a::r,¬ au y t<0:=fun y b=>by
    rcases zf3.1 b with rfl | b
    ·exact d
    ·exact il y a t (f y b) d
   have hz:lbL (a::r) t=0:=by
    unfold lbL;rw[List.length_eq_zero_iff,List.filter_eq_nil_iff];intro y b;simpa using c y b
   rw[hz];exact⟨by simp,by simpa using c⟩
theorem xf {l:List (List Int)}{t:List Int}(d:e6 l)(hn:l.contains t=false):e6 (l.take (lbL l t)++t::l.drop (lbL l t)):=by
 obtain ⟨e,f⟩:=oD t d.srt;have b:e6 (l.take (lbL l t)++l.drop (lbL l t)):=by rw[zj4];exact d
 have c:=List.pairwise_append.1 b;refine List.pairwise_append.2 ⟨c.1,zk5.2 ⟨fun y a=>?_,c.2.1⟩,fun y a z hz=>?_⟩
 ·rcases eh t y with h | h | h
  ·exact h
  ·have:l.contains t=true:=by rw[h];simpa using List.mem_of_mem_drop a
   rw[hn] at this;cases this
  ·exact absurd h<|f y a
 ·rcases zf3.1 hz with rfl | hz
  ·exact e y a
  ·exact c.2.2 y a z hz
theorem Dg (all:List (List Int)):Srt Cl.id (be all):=by
 unfold Srt;rw[zd1];intro i j b c a;simp[be,nF];omega
theorem rP (all:List (List Int)):aa (be all)=(be all).map cj:=by
 unfold aa;rw[← bJ (Dg all) (aI.refl _)]
theorem C8 (k:Nat):((k:Nat):Int).tmod 2=((k:Nat):Int) % 2:=Int.tmod_eq_emod_of_nonneg oM
theorem aU (E:World)(g:PH)(s:Own)(v:Value)(ls:List (List Int))(hv:cQ g v ls)(hn:ls.length<1099511627776)(hl:∀ x∈ls,x.length<17592186044416) :
  Ctr Tryz.prog E 70 #[v] g s (fun r g' s'=>s=s'∧Le g g'∧∃ u,r = .agg #[u]∧ai g' u (dy ls)):=by
 obtain ⟨D,a3,a4⟩:=hv;have c9:=a4.length;obtain ⟨p,c,rfl⟩:=za4 a3;refine zb2 (args:=[.slice p D.length c]) func70 I ntmps70 (bE I)<|rZ (bW (aL zl3) fun G=>?_);refine tZ<|rZ<|aT I<|sQ<|rZ<|aT I<|bK<|oP (ι:=PH×Value×List (List Int)×Nat) (fun i=>[(0,.slice p D.length c),(2,pp G 0),(3,i.2.1),(4,vi i.2.2.2)]) (fun i=>i.1)
  (fun _=>pt G (bY #[.slice none 0 0] 29)::s)
  (fun i=>Le g i.1∧i.2.2.2≤D.length∧cQ i.1 i.2.1 i.2.2.1∧(i.2.2.1.length≤4000∧∀ x∈i.2.2.1,x.length≤9)∧e6 i.2.2.1∧aX [] ls=aX i.2.2.1 (ls.drop i.2.2.2)) (fun i=>D.length - i.2.2.2)
  (g,.slice none 0 0,[],0) sB rfl rfl ⟨zb9 g,zf8 _,⟨[],zc1 g _,trivial⟩,⟨zf8 _,by simp⟩,List.Pairwise.nil,rfl⟩ ?_
 rintro ⟨g1,av,all,i⟩ ⟨Z,hi,a5,⟨e1,a0⟩,O,V⟩;dsimp only at Z hi a5 e1 a0 O V ⊢;refine sQ<|sW I<|lM I<|lU (eN eS I)<|yL I<|tZ<|iP I (fun i1=>?_) (fun i1=>?_)
 ·have a1:i<ls.length:=oM;have e2:i<D.length:=oM;have hR:=(a4.get (List.getElem?_eq_getElem a1)<|List.getElem?_eq_getElem e2).mono Z;have i2:=hl _<|gM a1;have P:=a3.based oM;have d0:ls.drop i=ls[i]::ls.drop (i+1):=zg8 a1;rw[d0] at V;generalize hx:ls[i]=x at *;generalize hr:D[i]=r at *;have Q:D[((i:Nat):Int).toNat]?=some r:=by rw[← hr];exact List.getElem?_eq_getElem e2
  refine kP<|tN<|sQ<|bK<|sW I<|lM I<|lU (iA eS fW I I P oM sL)<|lK (eB ic I (a3.mono Z).rd Q I)<|lW (SO.call call115 I<|Dj E g1 _ _ x hR i2) ?_;rintro v31 g2 _ ⟨rfl,a9,e4⟩;have Y:=a5.mono a9
  rcases e4 with ⟨d1,u,rfl,hu⟩ | ⟨d1,rfl⟩
  ·obtain ⟨d2,i3⟩:=Dw d1;obtain ⟨q,d,rfl⟩:=za4 hu;have o1:=AI (dB x).length d2;refine lM I<|yX I<|yX I<|lA I<|aT I<|SC.cut (ι:=PH×Value×List (List Int)) (fun j=>[(0,.slice p D.length c),(2,pp G 0),(3,j.2.1),(4,vi i)]) (fun j=>j.1) (fun _=>pt G (bY #[.slice none 0 0] 29)::s)
    (fun j=>Le g j.1∧cQ j.1 j.2.1 j.2.2∧e6 j.2.2∧(∀ y,y∈j.2.2↔y∈all∨y∈bM (dB x))∧j.2.2.length≤4600) ?_ ?_
   ·refine rZ<|aT I<|bK<|oP (ι:=PH×Value×List (List Int)×Nat) (fun j=>[(0,.slice p D.length c),(2,pp G 0),(3,j.2.1),(4,vi i),(5,.slice q (dB x).length d),(6,vb true),(7,vi (j.2.2.2+1:Nat))]) (fun j=>j.1) (fun _=>pt G (bY #[.slice none 0 0] 29)::s)
     (fun j=>Le g2 j.1∧j.2.2.2+1≤2 ^ (dB x).length∧cQ j.1 j.2.1 j.2.2.1∧e6 j.2.2.1∧(∀ y,y∈j.2.2.1↔y∈all∨y∈(List.range j.2.2.2).map fun m=>eX (m+1)<|dB x)∧j.2.2.1.length≤4000+j.2.2.2) (fun j=>2 ^ (dB x).length - j.2.2.2)
     (g2,av,all,0) sB rfl rfl ⟨zb9 g2,Nat.one_le_two_pow,Y,O,by simp,lN⟩ ?_
    rintro ⟨g3,bv,z,b⟩ ⟨a,hb,R,H,L,d3⟩;dsimp only at a hb R H L d3 ⊢;have b0:∀ y∈z,y.length≤9:=fun y hy=>by
     rcases (L y).1 hy with h | h
     ·exact a0 y h
     ·obtain ⟨m,_,rfl⟩:=zf4.1 h;exact zk9 (gi _ _) d2
    refine sQ<|sW I<|lM I<|yC I<|yC I<|lY I I I (eN az I)<|lY I I I (SU.eq (v':=vi ((2 ^ (dB x).length:Nat):Int)) (SU.shl I I oM)<|ze4 vi<|A5 (dB x).length oM)<|lY I I I (lS I I)<|yP I<|tZ<|iP I (fun b1=>?_) (fun b1=>?_)
    ·have c2:b+1<2 ^ (dB x).length:=oM;refine kP<|tN<|sQ<|bK<|rZ<|aT I<|sQ<|sQ<|zb6 3 1<|rG<|aT I<|bK<|oP (ι:=Value×Nat) (fun k=>[(0,.slice p D.length c),(2,pp G 0),(3,bv),(4,vi i),(5,.slice q (dB x).length d),(6,vb true),(7,vi (b+1:Nat)),(8,k.1),(9,vi k.2)]) (fun _=>g3)
      (fun k=>rowA encInt 3 k.1 (eX (b+1)<|(dB x).take k.2)::pt G (bY #[.slice none 0 0] 29)::s) (fun k=>k.2≤(dB x).length) (fun k=>(dB x).length - k.2) (.slice none 0 0,0)
      sB rfl rfl (zf8 _) ?_
     rintro ⟨cv,k⟩ hk;dsimp only at hk ⊢;have j0:=gi (b+1)<|(dB x).take k;rw[ze6] at j0;refine sQ<|sW I<|lM I<|lU (eN az I)<|yL I<|tZ<|iP I (fun e9=>?_) (fun e9=>?_)
     ·have a1:k<(dB x).length:=oM;have j1:=za6 (hu.mono a) oM;have F:=qX (bits:=b+1) a1;refine kP<|tN<|sQ<|bK<|sW I<|lM I<|lU (SU.shr I I oM)<|lU (SU.eq (v':=vi (((b+1) / 2 ^ k % 2:Nat):Int)) (SU.and I I)<|ze4 vi<|(wi _).trans<|A4 (b+1) k oM)<|yE I<|tZ<|iP I (fun f7=>?_) (fun f7=>?_)
      ·refine rG<|lM I<|lM I<|lM I<|lU (iA az zT3 I I j1 oM sL)<|SL.q (eB iT3 I (za7<|hu.mono a) (List.getElem?_eq_getElem a1) I) dC ?_;refine lW (bS sty32 I I I (ab sB) dC) ?_;rintro _ _ _ ⟨p3,rfl,rfl,rfl⟩;refine lW (aP (e:=encInt) 0 (dB x)[k] sty32 I I I I I oM oM) ?_;rintro cv' _ _ ⟨rfl,rfl⟩;refine lA I<|SL.nil<|bN<|tN<|rG<|lM I<|yD I<|lA I<|SL.nil ?_;refine ST.to (fun w hw=>?_) (g':=g3) (s':=rowA encInt 3 cv' (eX (b+1)<|(dB x).take<|k+1)::pt G (bY #[.slice none 0 0] 29)::s) ?_
       ·rw[F,zg3 oM];exact hw
       exact ST.again (cv',k+1) sB I I lN lN
      ·refine kP<|bN<|tN<|rG<|lM I<|yD I<|lA I<|SL.nil ?_;refine ST.to (fun w hw=>?_) (g':=g3) (s':=rowA encInt 3 cv (eX (b+1)<|(dB x).take<|k+1)::pt G (bY #[.slice none 0 0] 29)::s) ?_
       ·rw[F,zg2 oM];exact hw
       exact ST.again (cv,k+1) sB I I lN lN
     ·have j2:(dB x).take k=dB x:=tL oM;have p5:=gi (b+1)<|dB x;have b3:∀ nw:List (List Int),(∀ y,y∈nw↔y=eX (b+1) (dB x)∨y∈z)→∀ y,y∈nw↔y∈all∨y∈(List.range<|b+1).map fun m=>eX (m+1) (dB x):=fun nw h y=>by
       rw[h,L,List.range_succ,zg7,zf5];simp;constructor
       ·rintro (h | h | h)
        ·exact .inr<|.inr h
        ·exact .inl h
        ·exact .inr<|.inl h
       ·rintro (h | h | h)
        ·exact .inr<|.inl h
        ·exact .inr<|.inr h
        ·exact .inl h
      generalize l0:eX (b+1) (dB x)=t at *;refine xI (tX<|tX<|bX<|tN<|sQ<|fS fun g4 f b9=>?_);rw[j2,l0] at b9;have ht:dp g4 cv t:=b9;have b4:=R.mono f;refine rG<|lM I<|lM I<|lW (SO.call call116 I<|qW E g4 _ _ _ z t b4 ht oM (fun y hy=>by have:=b0 y hy;omega) oM H.srt) ?_;rintro _ _ _ ⟨rfl,rfl,rfl⟩;refine lM I<|yX I<|yX I<|lA I<|aT I<|sW I<|lU (SU.not I)<|tZ<|iQ I (fun M=>?_) (fun M=>?_)
      ·have d4:z.contains t=false:=by simpa using M
       have l1:=AJ z t;obtain ⟨ra,J,B⟩:=b4;have c3:=B.length;obtain ⟨qa,da,rfl⟩:=za4 J;have l2:=(SlA.cap J).2;obtain ⟨qt,dt,rfl⟩:=za4 ht;have f8:=SlA.cut J (l:=lbL z t) (m:=ra.length) oM<|Nat.le_refl _;have g7:=SlA.cut J (l:=0) (m:=lbL z t) (zf8 _) oM;rw[tL (by rw[zf2];exact Nat.le_refl _)] at f8;rw[List.drop_zero,Nat.sub_zero] at g7;refine sW I<|lW (bS sty22 I I I (ab ⟨I,trivial⟩) dC) ?_;rintro _ _ _ ⟨p6,rfl,rfl,rfl⟩;refine SL.to (fun w hw=>At.litRow (e:=dQ) (l:=[⟨qt,t.length,dt⟩]) (n:=0) hw I I dC) ?_;refine lM I<|lM I<|lU (SU.sliceL eS fW I I oM oM)<|lW (aQ (e:=dQ) 0 sty22 I I I f8 (by rw[zf2];(first | with_reducible rfl | ((try dsimp only);(try simp only[ze7,zf1,zc5,ze9,ze6,zf2])<;>omega))) (by rw[zf2];(first | with_reducible rfl | ((try dsimp only);(try simp only[ze7,zf1,zc5,ze9,ze6,zf2])<;>omega)))) ?_;rintro v75 _ _ ⟨rfl,rfl⟩;refine aT I (fS fun g5 C d5=>?_);have W:SlA dQ g5 v75 ([⟨qt,t.length,dt⟩]++ra.drop (lbL z t)):=d5;refine rG<|lW (bS sty22 I I I (ab trivial) dC) ?_;rintro _ _ _ ⟨l3,rfl,rfl,rfl⟩;refine SL.emptyRow 32 1 (some ⟨l3,0,none⟩)<|lM I<|lM I<|lU (SU.sliceH eS fW I I oM oM)<|lW (aQ (e:=dQ) (l:=[]) 0 sty22 I I I (g7.mono C) (by rw[ze6];(first | with_reducible rfl | ((try dsimp only);(try simp only[ze7,zf1,zc5,ze9,ze6,zf2])<;>omega))) (by rw[ze6];(first | with_reducible rfl | ((try dsimp only);(try simp only[ze7,zf1,zc5,ze9,ze6,zf2])<;>omega)))) ?_;rintro v80 _ _ ⟨rfl,rfl⟩;refine lM I<|lW (aQ (e:=dQ) 0 sty22 I I I W lN lN) ?_;rintro v82 _ _ ⟨rfl,rfl⟩;refine lA I (SL.nil<|bN<|tN<|rG<|lM I<|yD I<|lA I<|SL.nil<|fT fun g6 A a2=>?_);refine dR (s':=pt G (bY #[.slice none 0 0] 29)::s) (.cons _<|.refl _) ?_;have g8:cQ g6 v82 (z.take (lbL z t)++t::z.drop (lbL z t)):=by
        refine⟨ra.take (lbL z t)++⟨qt,t.length,dt⟩::ra.drop (lbL z t),?_,?_⟩
        ·have h:SlA dQ g6 v82 ([]++ra.take (lbL z t)++([⟨qt,t.length,dt⟩]++ra.drop (lbL z t))):=a2;simpa using h
        ·exact ((ax.take _ B).mono fun _ _=>dZ.mono<|C.trans A).append ⟨ht.mono<|C.trans A,(ax.drop _ B).mono fun _ _=>dZ.mono<|C.trans A⟩
       exact ST.again (g6,v82,z.take (lbL z t)++t::z.drop (lbL z t),b+1) ⟨I,I,I,I,I,I,bG dO,trivial⟩ I I ⟨a.trans<|f.trans<|C.trans A,c2,g8,xf H d4,b3 _ (fun y=>Bb),lN⟩ lN
      ·have d4:t∈z:=by simpa using M
       exact kP<|bN<|tN<|rG<|lM I<|yD I<|lA I<|SL.nil<|ST.again (g4,bv,z,b+1) ⟨I,I,I,I,I,I,bG dO,trivial⟩ I I ⟨a.trans f,c2,b4,H,b3 _ (fun y=>⟨.inr,fun h=>h.elim (fun e=>by rw[e];exact d4) id⟩),lN⟩ lN
    ·have l4:b=2 ^ (dB x).length - 1:=oM;exact xI<|tX<|tX<|bX<|za9 (g3,bv,z) sB I I ⟨Z.trans<|a9.trans a,R,H,fun y=>by dsimp only;rw[L];unfold bM;rw[l4],lN⟩
   ·rintro ⟨g3,bv,z⟩ ⟨a,R,H,L,d3⟩;dsimp only at a R H L d3 ⊢;have b0:∀ y∈z,y.length≤9:=fun y hy=>by
     rcases (L y).1 hy with h | h
     ·exact a0 y h
     ·exact iH d2 y h
    have key:((z.length:Int)>4000→aX [] ls=none)∧(¬ (z.length:Int)>4000→aX [] ls=aX z (ls.drop<|i+1)):=by
     by_cases hb:jz (dB x)=true
     ·have he:=i3 hb;have K:z=all:=iI H O fun y=>by rw[L,he];simp[bM]
      refine⟨fun h=>by rw[K] at h;omega,fun _=>by rw[V,aX,zg3 hb,K]⟩
     ·have K:z=eP all (dB x):=iI H (kO _ _) fun y=>by rw[L,jp]
      refine⟨fun h=>by rw[V,aX,zg2 hb,zg3 (by rw[← K];exact h)],fun h=>by rw[V,aX,zg2 hb,zg2 (by rw[← K];exact h),← K]⟩
    obtain ⟨ra,J,B⟩:=R;have R:cQ g3 bv z:=⟨ra,J,B⟩;have c3:=B.length;obtain ⟨qa,da,rfl⟩:=za4 J;refine sW I<|lU (eN eS I)<|lU (gR I I)<|tZ<|iP I (fun X=>?_) (fun X=>?_)
    ·exact rZ<|lU (za3 I<|buildE29)<|oZ (sK 0 ae I I I I I sB)<|tZ<|rE<|bR<|tR<|tR<|bR<|tR<|ST.retCD 0 s (.inl I) results70 I an ae I I uR ⟨I,a,_,I,by simp only[dy,key.1 oM];exact⟨[],zc1 _ _,trivial⟩⟩
    ·exact kP<|bN<|tN<|rG<|lM I<|yD I<|lA I<|SL.nil<|ST.again (g3,_,z,i+1) sB I I ⟨a,lN,R,⟨lN,b0⟩,H,key.2 oM⟩ lN
  ·have hb:=Fg d1;obtain ⟨ra,J,B⟩:=Y;have Y:cQ g2 av all:=⟨ra,J,B⟩;have c3:=B.length;obtain ⟨qa,da,rfl⟩:=za4 J;refine lM I<|yX I<|yX I<|lA I<|aT I<|sQ<|rZ<|aT I<|bK<|oP (ι:=Unit) (fun _=>[(0,.slice p D.length c),(2,pp G 0),(3,.slice qa ra.length da),(4,vi i),(5,.slice none 0 0),(6,vb false),(7,vi 1)]) (fun _=>g2) (fun _=>pt G (bY #[.slice none 0 0] 29)::s) (fun _=>True) (fun _=>0) () sB I I trivial ?_;rintro ⟨⟩ -;refine sQ<|sW I<|lM I<|yA I<|yA I<|yA I<|yA I<|yA I<|yF I<|tZ<|za1 I<|xI<|tX<|tX<|bX<|tN<|sW I<|lU (eN eS I)<|lU (gR I I)<|tZ<|iP I (fun X=>?_) (fun X=>?_)
   ·exfalso;omega
   ·exact kP<|bN<|tN<|rG<|lM I<|yD I<|lA I<|SL.nil<|ST.again (g2,_,all,i+1) sB I I ⟨Z.trans a9,lN,Y,⟨e1,a0⟩,O,by dsimp only;rw[V,aX,zg3 hb]⟩ lN
 ·have m1:i=D.length:=oM;have d7:aX [] ls=some all:=by rw[V,m1,← c9,List.drop_length];rfl
  obtain ⟨rs,N,b5⟩:=a5;have a5:cQ g1 av all:=⟨rs,N,b5⟩;have p7:=b5.length;obtain ⟨q,d,rfl⟩:=za4 N;refine xI (tX<|tX<|bX<|tN<|rZ<|bW (aL zl3) fun S=>?_);refine tZ<|sQ<|rZ<|aT I<|bK<|zb6 37 3<|oP (ι:=PH×Value×List Rc×Nat) (fun i=>[(2,pp G 0),(3,.slice q rs.length d),(13,pp S 0),(14,vi i.2.2.2)]) (fun i=>i.1)
   (fun i=>rowA encCell 37 i.2.1 i.2.2.1::pt S (bY #[i.2.1] 29)::pt G (bY #[.slice none 0 0] 29)::s)
   (fun i=>Le g1 i.1∧i.2.2.2≤rs.length∧ax (ak i.1) (((be all).take i.2.2.2).map cj) i.2.2.1) (fun i=>rs.length - i.2.2.2)
   (g1,.slice none 0 0,[],0) sB rfl rfl ⟨zb9 g1,zf8 _,trivial⟩ ?_
  rintro ⟨g3,ov,T,n⟩ ⟨a,m2,U⟩;dsimp only at a m2 U ⊢;have g9:=U.length;rw[ze8,ze6,bL] at g9;refine sQ<|sW I<|lM I<|lU (eN eS I)<|yL I<|tZ<|iP I (fun b1=>?_) (fun b1=>?_)
  ·have d8:n<all.length:=oM;have h1:n<rs.length:=oM;have P:=N.based oM;have hR:=(b5.get (List.getElem?_eq_getElem d8)<|List.getElem?_eq_getElem h1).mono a;have h2:=hR.len;have p9:=a0 _<|gM d8;have h3:=jt d8;generalize hx:all[n]=x at *;generalize hr:rs[n]=r at *;obtain ⟨rp,rn,rc⟩:=r;dsimp only at h2;subst h2;have m3:dp g3 (.slice rp x.length rc) x:=hR;have Q:rs[((n:Nat):Int).toNat]?=some ⟨rp,x.length,rc⟩:=by rw[← hr];exact List.getElem?_eq_getElem h1
   refine kP (tN<|sQ<|bK<|sW I<|yD I<|lM I<|lM I<|lU (iA eS fW I I P oM sL)<|lK (eB (u:=.slice rp x.length rc) ic I (N.mono a).rd Q I)<|lU (eN az I)<|lU (sU I I oM)<|lU (za3 I<|buildC37 _ _)<|bW (aL zm2) fun b6=>?_);refine oZ (sK 0 ar I I I I I sB)<|tZ<|SC.cut (ι:=PH×Value) (fun i=>[(2,pp G 0),(3,.slice q rs.length d),(13,pp S 0),(14,vi n),(15,pp b6 0)]) (fun i=>i.1)
    (fun i=>rowA encSide 80 i.2 (aV all x x.length)::pt b6 (bY #[vi<|(n:Int)+1,vi<|(x.length:Int) - 1,i.2] 37)::rowA encCell 37 ov T::pt S (bY #[ov] 29)::pt G (bY #[.slice none 0 0] 29)::s)
    (fun i=>Le g3 i.1) ?_ ?_
   ·refine sQ<|zb6 80 2<|rG<|aT I<|bK<|oP (ι:=PH×Value×Nat) (fun i=>[(2,pp G 0),(3,.slice q rs.length d),(13,pp S 0),(14,vi n),(15,pp b6 0),(16,vi i.2.2)]) (fun i=>i.1)
     (fun i=>rowA encSide 80 i.2.1 (aV all x i.2.2)::pt b6 (bY #[vi<|(n:Int)+1,vi<|(x.length:Int) - 1,i.2.1] 37)::rowA encCell 37 ov T::pt S (bY #[ov] 29)::pt G (bY #[.slice none 0 0] 29)::s)
     (fun i=>Le g3 i.1∧i.2.2≤x.length) (fun i=>x.length - i.2.2)
     (g3,.slice none 0 0,0) sB rfl rfl ⟨zb9 g3,zf8 _⟩ ?_
    rintro ⟨g4,sv,j⟩ ⟨f,hj⟩;dsimp only at f hj ⊢;have h4:=eY all x j;have F:=fZ all x j;have b7:dp g4 (.slice rp x.length rc) x:=m3.mono f;by_cases m4:j<x.length
    ·have c0:((j:Nat):Int)<((x.length:Nat):Int):=oM;by_cases c5:((x.length:Int) - 1)>0
     ·have q0:(x.eraseIdx j).length=x.length - 1:=by rw[List.length_eraseIdx];simp[m4]
      have e0:fJ all x j=[⟨lbL all (x.eraseIdx j)+1,dz j⟩]:=by unfold fJ;rw[zg3 oM]
      have l1:=AJ all<|x.eraseIdx j;rw[e0] at F;have o2:=(SlA.cap b7).2;have h5:=SlA.cut b7 (l:=0) (m:=j) oM oM;have h6:=SlA.cut b7 (l:=j+1) (m:=x.length) oM oM;have n0:(x.drop 0).take (j - 0)=x.take j:=by simp
      have n1:(x.drop<|j+1).take (x.length - (j+1))=x.drop (j+1):=tL (by rw[zf2];omega);rw[n0] at h5;rw[n1] at h6;have n2:[]++x.take j++x.drop (j+1)=x.eraseIdx j:=by rw[List.eraseIdx_eq_take_drop_succ];simp
      have c6:([]++x.take j).length=j:=by simp;omega
      refine sQ<|sW I<|lM I<|lM I<|lU (iA eS fW I I P oM sL)<|lK (eB (u:=.slice rp x.length rc) ic I (N.mono<|a.trans f).rd Q I)<|lU (eN az I)<|lU (SU.eq (v':=vb true) (lS I I)<|ze4 vb<|zg1 c0)<|lM I<|lY I I I (fA ao I zT3 I)<|SL.gq (gT I I I dC) (qL (v:=vi<|(x.length:Int) - 1) iT3 I<|cO 1 I I) dC<|lY I I I (SU.eq (v':=vb true) (gR I I)<|ze4 vb<|zg1 c5)<|yP I<|tZ<|za2 I<|kP<|tN<|sQ<|bK<|sQ<|dW [15] [(1,2),(2,2),(3,2),(4,1),(5,2),(6,2),(8,2),(9,2),(10,2),(11,1),(12,2),(13,2),(14,2),(0,0),(7,0),(15,0),(16,2)] ze5 kR<|yM I<|yM I<|pU I (iA eS fW I I P oM sL)<|pK I (eB (u:=.slice rp x.length rc) ic I (N.mono<|a.trans f).rd Q I)<|yM I<|pU I (SU.sliceH az zT3 I I oM oM)<|yM I<|yM I<|pU I (iA eS fW I I P oM sL)<|pK I (eB (u:=.slice rp x.length rc) ic I (N.mono<|a.trans f).rd Q I)<|yM I<|pU I (aD I I oM)<|pU I (SU.eq (v':=sliced rp (j+1) x.length rc 1) (SU.sliceL az zT3 I I oM oM)<|by rw[show ((j:Int)+1).toNat=j+1 by omega]) ?_;refine SP.o I (bS sty32 I I I (ab trivial) dC) dC (.inr iR) ?_;rintro _ _ _ ⟨h7,rfl,rfl,rfl⟩;refine SP.to (fun w hw=>hw.emptyRow 3 1<|some ⟨h7,0,none⟩) ?_;refine SP.o I (aQ (e:=encInt) (l:=[]) 0 sty32 I I I h5 (by rw[ze6];(first | with_reducible rfl | ((try dsimp only);(try simp only[ze7,zf1,zc5,ze9,ze6,zf2])<;>omega))) (by rw[ze6];(first | with_reducible rfl | ((try dsimp only);(try simp only[ze7,zf1,zc5,ze9,ze6,zf2])<;>omega)))) dC (.inr iR) ?_;rintro v123 _ _ ⟨rfl,rfl⟩;refine SP.o I (aQ (e:=encInt) 0 sty32 I I I h6 (by rw[zf2,c6];omega) (by rw[zf2,c6];omega)) dC (.inl dC) ?_;rintro v131 _ _ ⟨rfl,rfl⟩;refine pU I (aS I) (pN<|tN<|sQ<|fS fun g6 A a2=>?_);have W:dp g6 v131 (x.eraseIdx j):=(by rw[← n2];exact a2);refine SC.drop (s':=rowA encSide 80 sv (aV all x j)::pt b6 (bY #[vi<|(n:Int)+1,vi<|(x.length:Int) - 1,sv] 37)::rowA encCell 37 ov T::pt S (bY #[ov] 29)::pt G (bY #[.slice none 0 0] 29)::s) (.cons _<|.refl _)<|rG<|lM I<|lM I<|lW (SO.call call116 I<|qW E g6 _ _ _ all (x.eraseIdx j) (a5.mono<|a.trans<|f.trans A) W oM (fun y hy=>by have:=a0 y hy;omega) oM O.srt) ?_;rintro _ _ _ ⟨rfl,rfl,rfl⟩;refine lM I<|yX I<|yX I<|lA I<|aT I<|rG<|lU (fA ao I aH I)<|lK (qL (v:=sv) bi I<|cO 1 I I)<|lM I<|yD I<|lM I<|lU (SU.eq (v':=vi<|(j:Int) % 2) (zd9 I I dC)<|ze4 vi<|C8 j)<|lU (SU.mul I I oM)<|lU (SU.eq (v':=vi<|dz j) (sU I I oM) I)<|lU (za3 I<|buildS80 _ _)<|lW (bS sty35 I I I (ab sB) dC) ?_;rintro _ _ _ ⟨p0,rfl,rfl,rfl⟩;refine lW (aP (e:=encSide) 0 ⟨lbL all (x.eraseIdx j)+1,dz j⟩ sty35 I I I I I oM oM) ?_;rintro v148 _ _ ⟨rfl,rfl⟩;rw[← F];refine zd4 fun ⟨w0,b8⟩=>?_;obtain ⟨p1,d148,rfl⟩:=ah (i:=0) b8 rfl;clear b8 w0;refine lU (fA ao rfl aH rfl)<|oZ (SO.store1 1 aH rfl rfl rfl rfl (bE rfl)<|by rfl) ?_;refine SL.nil<|bN<|tN<|rG<|lM I<|yD I<|lA I<|SL.nil ?_;exact ST.again (g6,_,j+1) sB I I ⟨f.trans A,lN⟩ lN
     ·have h8:x.length=1:=oM;have n3:j=0:=oM;have c1:aV all x x.length=aV all x j:=by
       rw[h8,n3];have h0:=fZ all x 0;have n5:fJ all x 0=[]:=by
        unfold fJ;rw[zg2];rw[List.length_eraseIdx];simp[h8]
       rw[h0,n5,zc7]
      rw[← c1];exact sQ<|sW I<|lM I<|lM I<|lU (iA eS fW I I P oM sL)<|lK (eB (u:=.slice rp x.length rc) ic I (N.mono<|a.trans f).rd Q I)<|lU (eN az I)<|lU (SU.eq (v':=vb true) (lS I I)<|ze4 vb<|zg1 c0)<|lM I<|lY I I I (fA ao I zT3 I)<|SL.gq (gT I I I dC) (qL (v:=vi<|(x.length:Int) - 1) iT3 I<|cO 1 I I) dC<|lY I I I (SU.eq (v':=vb false) (gR I I)<|ze4 vb<|zf9 c5)<|yP I<|tZ<|za1 I<|xI<|tX<|tX<|bX<|za9 (g4,sv) sB I I f
    ·have c0:¬ ((j:Nat):Int)<((x.length:Nat):Int):=oM;have n6:j=x.length:=oM;subst n6;exact sQ<|sW I<|lM I<|lM I<|lU (iA eS fW I I P oM sL)<|lK (eB (u:=.slice rp x.length rc) ic I (N.mono<|a.trans f).rd Q I)<|lU (eN az I)<|lU (SU.eq (v':=vb false) (lS I I)<|ze4 vb<|zf9 c0)<|lM I<|yA I<|yA I<|yA I<|yF I<|tZ<|za1 I<|xI<|tX<|tX<|bX<|za9 (g4,sv) sB I I f
   ·rintro ⟨g4,sv⟩ f;dsimp only at f ⊢;have h4:=eY all x x.length;refine rZ (zd6 fun g5 C d5=>?_);have n7:SlA encSide g5 sv (aV all x x.length):=d5;refine lU (fA ao I aH I)<|lK (qL (v:=sv) bi I<|cO 0 I I)<|lW (SO.call call117 I<|qR E g5 _ _ (aV all x x.length) n7 oM) ?_;rintro v152 g6 _ ⟨rfl,A,a2⟩;obtain ⟨q6,d6,rfl⟩:=za4 a2;obtain ⟨nc,h9⟩:∃ nc:Rc,nc=⟨(n:Int)+1,(x.length:Int) - 1,⟨q6,(sortBy aj.cell<|aV all x x.length).length,d6⟩⟩:=⟨_,rfl⟩;refine lU (fA ao rfl aH rfl)<|oZ (SO.store1 0 aH rfl rfl rfl rfl (bE rfl)<|by rfl) ?_;refine tZ<|rG<|lU (fA dA I cq I)<|lK (qL eG I<|cO 2 I I)<|lK (qV 0 dH ar I I I)<|lW (bS sty27 I I I (ab sB) dC) ?_;rintro _ _ _ ⟨p2,rfl,rfl,rfl⟩;refine lW (aP (e:=encCell) 1 nc sty27 I I I I (by rw[h9];rfl) oM oM) ?_;rintro v158 _ _ ⟨rfl,rfl⟩;refine zd4 fun ⟨w0,b8⟩=>?_;obtain ⟨c7,d158,rfl⟩:=ah (i:=1) b8 rfl;clear b8 w0;refine lU (fA dA I cq I)<|oZ (sK 2 cq I I I I I sB) ?_;refine SL.nil<|bN<|tN<|rG<|lM I<|yD I<|lA I<|SL.nil<|dR (s':=rowA encCell 37 (.slice c7 (T++[nc]).length d158) (T++[nc])::pt S (.cells #[.slice c7 (T++[nc]).length d158] 29 (0,0))::pt G (bY #[.slice none 0 0] 29)::s) (.cons _<|.refl _) ?_;refine ST.again (g6,_,T++[nc],n+1) sB I I ⟨a.trans<|f.trans<|C.trans A,lN,?_⟩ lN;dsimp only;rw[f9 h3,zg7];exact (U.mono fun _ _=>ak.mono<|f.trans<|C.trans A).append ⟨(by rw[h9];exact⟨I,I,a2⟩),trivial⟩
  ·have q1:n=rs.length:=oM;have n8:(be all).take n=be all:=tL (by rw[bL];omega);rw[n8] at U;refine xI (tX<|tX<|bX<|tN<|sQ<|fS fun g4 f b9=>?_);have i0:ai g4 ov (dy ls):=(by simp only[dy,d7,rP];exact⟨T,b9,U.mono fun _ _=>ak.mono f⟩);obtain ⟨q9,d9,rfl⟩:=i0.form;exact rG<|lK (qV 0 an ae I I I)<|oZ (sK 1 ae I I I I I sB)<|tZ<|rE<|ST.retCD 1 s (.inl I) results70 I an ae I I uR ⟨I,Z.trans<|a.trans f,_,I,i0⟩
end Go.Proofs.YtdepcjnaieflmaaGreatDoor
