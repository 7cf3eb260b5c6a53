/- 7 -/
import Derived.Test.YtbbppeihhkhkcaaGreatDoorAn06
set_option linter.unusedSimpArgs false
set_option linter.unusedVariables false
namespace Go.Proofs.YtbbppeihhkhkcaaGreatDoor
open _root_.Go.Proofs.Tryz _root_.Go.Proofs.YtbbppeihhkhkcaaGreatDoor.Tryz
open Go Go.Sy Go.Pl Go.Proofs
set_option maxRecDepth 100000
abbrev wr (x:Int):Int:=IntKind.i64.wrap x
structure En where
 id:Int
 sum:Int
 many:Int
 fst:Nat
def En.fi (e:En):Int:=e.fst
def En.up (e:En)(p:Int):En:=⟨e.id,wr<|e.sum+p,wr<|e.many+1,e.fst⟩
def lv (i:Nat)(c p:Int):List En→List En
 | []=>[En.up ⟨c,0,0,i⟩ p]
 | e::r=>if e.id=c then e.up p::r else e::lv i c p r
def jS (i:Nat)(c:Int):List En→Nat
 | []=>i
 | e::r=>if e.id=c then e.fst else jS i c r
def eF (m:Nat)(old now:Int)(p:List Int):List Int:=p.mapIdx fun q x=>if q<m∧x=now then old else x
def my (i:Nat)(sx:Int)(st:List En×List Int)(r:ak):List En×List Int :=
 (lv i r.cell (wr<|sx * r.sign) st.1,eF (i+1) (st.2.getD (jS i r.cell st.1) 0) (st.2.getD i 0) st.2)
def oh (tl:List Cl)(st:List En×List Int)(p:ak×Nat):List En×List Int:=(ay tl p.1).foldl (my p.2 p.1.sign) (st.1,st.2.set p.2 p.2)
def nm (tl:List Cl)(l:List ak)(n:Nat):List En×List Int:=l.zipIdx.foldl (oh tl) ([],List.replicate n 0)
def i7 (tl:List Cl)(c:Cl):Int :=
 if (nm tl c.sides c.sides.length).1.any (fun e=>decide (e.sum≠0)) then 24
 else if (nm tl c.sides c.sides.length).1.any (fun e=>decide (e.many≠2)) then 25
 else if (nm tl c.sides c.sides.length).2.any (fun x=>decide (x≠(nm tl c.sides c.sides.length).2.getD 0 0)) then 25
 else 0
theorem s5 {i:Nat}{c p:Int}{e:En}{B:List En}(a:e.id=c):∀ {A:List En},(∀ x∈A,x.id≠c)→lv i c p (A++e::B)=A++e.up p::B∧jS i c (A++e::B)=e.fst
 | [],_=>by simp[lv,jS,a]
 | x::A,h=>by
  have b:=h x (by simp);have:=s5 (i:=i) (p:=p) (B:=B) a (A:=A) (fun y d=>h y<|by simp[d]);simp[lv,jS,b,this.1,this.2]
theorem s4 {i:Nat}{c p:Int}:∀ {A:List En},(∀ x∈A,x.id≠c)→lv i c p A=A++[En.up ⟨c,0,0,i⟩ p]∧jS i c A=i
 | [],_=>by simp[lv,jS]
 | x::A,h=>by
  have a:=h x (by simp);have:=s4 (i:=i) (p:=p) (A:=A) (fun y b=>h y<|by simp[b]);simp[lv,jS,a,this.1,this.2]
theorem mq (m:Nat)(old now:Int)(p:List Int):(eF m old now p).length=p.length:=by simp[eF]
theorem wJ (old now:Int)(p:List Int):eF 0 old now p=p:=by
 unfold eF;apply List.ext_getElem?;intro q;simp
theorem zH {m:Nat}{old now:Int}{p:List Int}(h:m<p.length):(eF m old now p)[m]?=some p[m]:=by
 simp[eF,h]
theorem wK {m:Nat}{old now:Int}{p:List Int}(h:m<p.length):eF (m+1) old now p=if p[m]=now then (eF m old now p).set m old else eF m old now p:=by
 unfold eF;split
 ·rename_i hm;apply List.ext_getElem?;intro q;rw[List.getElem?_set];by_cases a:m=q
  ·subst a;simp[h,hm]
  ·rw[zg2 a];simp only[List.getElem?_mapIdx];cases p[q]? with
   | none=>rfl
   | some x=>simp; congr 1; simp; intro _; omega
 ·rename_i hm;apply List.ext_getElem?;intro q;simp only[List.getElem?_mapIdx];by_cases a:m=q
  ·subst a;simp[h,hm]
  ·cases p[q]? with
   | none=>rfl
   | some x=>simp; congr 1; simp; intro _; omega
theorem yz {i n:Nat}{c p:Int}(b:i<n):∀ {es:List En},(∀ e∈es,e.fst<n)→∀ e∈lv i c p es,e.fst<n
 | [],_,e,a=>by simp[lv] at a; subst a; exact b
 | x::r,h,e,a=>by
  unfold lv at a;split at a
  ·rcases zf3.1 a with rfl | a
   ·exact h x (by simp)
   ·exact h e (by simp[a])
  ·rcases zf3.1 a with rfl | a
   ·exact h e (by simp)
   ·exact yz b (fun y d=>h y<|by simp[d]) e a
theorem wH (E:World)(g:PH)(s:Own)(v:Value)(tl:List Cl)(c:Cl)(r:Rc)(hv:ai g v tl)(f9:tl.length<1099511627776)(hs:(tl.map Cl.id).Pairwise (· ≤ ·))(hc:an g c r)(hl:c.sides.length≤64)(g1:∀ x∈c.sides,(ah tl x.cell).isSome=true)(g2:∀ x∈c.sides,(ay tl x).length≤64) :
  Ctr Tryz.prog E 213 #[v,rcv r] g s (fun r g' s'=>r=vi (i7 tl c)∧g=g'∧s=s'):=by
 obtain ⟨rs,U,M⟩:=hv;have hv:ai g v tl:=⟨rs,U,M⟩;have n0:=M.length;obtain ⟨vp,vc,rfl⟩:=U.form;obtain ⟨rp,b,rfl,a4⟩:=eX hc;refine zb2 (args:=[.slice vp rs.length vc,.agg #[vi c.id,vi c.dim,.slice rp c.sides.length b]]) func213 I ntmps213 (bE I)<|rZ (bW (bO I) fun b3=>?_);refine aT I<|sQ ?_;refine SC.to (g':=g) (s':=pt b3 (.cells #[vi c.id,vi c.dim,.slice rp c.sides.length b] 56 (0,0))::s) (fun w N=>N) ?_;refine rG<|aT I<|rZ<|aT I<|rZ<|aT I<|rZ<|lU (fA ao I aM I)<|SL.K (qL (v:=.slice rp c.sides.length b) br I<|cO 0 I I)<|lU (eN be I)<|lW (mK encInt 0 sty52 I I I oM oM) ?_;rintro _ _ _ ⟨b8,rfl,rfl,rfl⟩;refine aT I<|rZ<|lW (bS sty52 I I I (ab trivial) dC) ?_;rintro _ _ _ ⟨b4,rfl,rfl,rfl⟩;refine SL.drop (.cons _<|.refl _)<|SL.emptyRow 3 1 (some ⟨b4,0,none⟩)<|aT I<|sQ<|rZ<|aT I<|bK<|zb6 3 1<|zb6 3 1<|zb6 3 1<|oP (ι:=(Value×Value×Value×Value)×(List En×List Int)×Nat) (fun i=>[(0,.slice vp rs.length vc),(3,pp b3 0),(5,i.1.1),(6,i.1.2.1),(7,i.1.2.2.1),(8,.slice (some ⟨b8,0,none⟩) c.sides.length c.sides.length),(9,i.1.2.2.2),(10,vi (i.2.2:Nat))]) (fun _=>g)
  (fun i=>rowA encInt 3 i.1.1 (i.2.1.1.map En.id)::rowA encInt 3 i.1.2.1 (i.2.1.1.map En.sum)::rowA encInt 3 i.1.2.2.1 (i.2.1.1.map En.many)::rowA encInt 3 i.1.2.2.2 (i.2.1.1.map En.fi)::rowA encInt 3 (.slice (some ⟨b8,0,none⟩) c.sides.length c.sides.length) (i.2.1.2)::pt b3 (.cells #[vi c.id,vi c.dim,.slice rp c.sides.length b] 56 (0,0))::s)
  (fun i=>i.2.2≤c.sides.length∧i.2.1=(c.sides.take i.2.2).zipIdx.foldl (oh tl) ([],List.replicate c.sides.length 0)∧i.2.1.2.length=c.sides.length∧i.2.1.1.length≤64 * i.2.2∧∀ e∈i.2.1.1,e.fst<c.sides.length) (fun i=>c.sides.length - i.2.2)
  ((.slice none 0 0,.slice none 0 0,.slice none 0 0,.slice (some ⟨b4,0,none⟩) 0 0),([],List.replicate c.sides.length 0),0) sB rfl rfl ⟨zf8 _,by simp,by simp,by simp,by simp⟩ ?_
 rintro ⟨⟨v5,v6,v7,v9⟩,⟨es,part⟩,i⟩ ⟨hi,V,b5,g3,b6⟩;dsimp only at hi V b5 g3 b6 ⊢;refine sQ<|sW I<|lU (fA ao I aM I)<|SL.K (qL (v:=.slice rp c.sides.length b) br I<|cO 5 I I)<|lU (eN be I)<|yL I<|tZ<|iP I (fun g4=>?_) (fun g4=>?_)
 ·have O:i<c.sides.length:=oM;have W:=a4.based oM;have b7:c.sides[((i:Nat):Int).toNat]?=some c.sides[i]:=List.getElem?_eq_getElem O;have g5:(c.sides.take<|i+1).zipIdx.foldl (oh tl) ([],List.replicate c.sides.length 0)=oh tl ((c.sides.take i).zipIdx.foldl (oh tl) ([],List.replicate c.sides.length 0)) (c.sides[i],i):=by
   rw[tS O,List.zipIdx_append,zj2];have:(List.take i c.sides).length=i:=by rw[ze6]; omega
   rw[this];simp
  have b9:=gM O;have c1:=g1 _ b9;have g8:=g2 _ b9;generalize c.sides[i]=x at *;obtain ⟨yc,P⟩:=zi1.1 c1;have c2:ay tl x=yc.sides:=by unfold ay; rw[P]; rfl
  rw[c2] at g8
  rcases sb hs x.cell with ⟨h0,_⟩ | ⟨h1,kk,h2,h3,c3⟩
  ·rw[h0] at P; cases P
  have:yc=h1:=by rw[h2] at P; injection P with h; exact h.symm
  subst this;have d0:kk<tl.length:=(zf7.1 c3).1;have d1:kk<rs.length:=oM;have h4:=U.based oM;have h5:=M.get c3<|List.getElem?_eq_getElem d1;have d2:rs[((kk:Nat):Int).toNat]?=some rs[kk]:=List.getElem?_eq_getElem d1;obtain ⟨yp,d,h6,X⟩:=eX h5;rw[h6] at d2;have h7:(part.set i (i:Int)).length=c.sides.length:=by rw[zi5]; exact b5
  refine kP<|tN<|sQ<|bK<|sW I<|lM I<|lM I<|lU (iA az zT3 I I I oM sL)<|oZ (SO.setA (a:=(i:Int)) 4 zT3 I I I oM I)<|tZ<|sW I<|lM I<|lU (fA ao I aM I)<|SL.K (qL (v:=.slice rp c.sides.length b) br I<|cO 5 I I)<|lM I<|lU (iA be aY I I W oM sL)<|lU (fC c4 I zT3 I W)<|SL.K (aZ (e:=encSide) (o:=0) (u:=vi x.cell) iT3 I a4.rd b7 I)<|lW (SO.call call101 I<|il E g _ _ tl x.cell hv f9 hs) ?_;rintro _ _ _ ⟨rfl,rfl,rfl⟩;rw[h3];refine lU (iA aB aw I I h4 oM sL) (SL.K (SQ.elemA (e:=encCell) dT aw I U.rd d2)<|bW (aL zl7) fun n=>?_);refine oZ (sK 0 aw I I I I I sB)<|tZ<|rZ<|aT I<|bK ?_;refine SC.to (g':=g) (s':=pt n (.cells #[vi yc.id,vi yc.dim,.slice yp yc.sides.length d] 56 (0,0))::rowA encInt 3 v5 (es.map En.id)::rowA encInt 3 v6 (es.map En.sum)::rowA encInt 3 v7 (es.map En.many)::rowA encInt 3 v9 (es.map En.fi)::rowA encInt 3 (.slice (some ⟨b8,0,none⟩) c.sides.length c.sides.length) (part.set i (i:Int))::pt b3 (.cells #[vi c.id,vi c.dim,.slice rp c.sides.length b] 56 (0,0))::s) (fun w N=>N) ?_;refine oP (ι:=(Value×Value×Value×Value)×(List En×List Int)×Nat) (fun q=>[(0,.slice vp rs.length vc),(3,pp b3 0),(5,q.1.1),(6,q.1.2.1),(7,q.1.2.2.1),(8,.slice (some ⟨b8,0,none⟩) c.sides.length c.sides.length),(9,q.1.2.2.2),(10,vi (i:Nat)),(11,pp n 0),(12,vi (q.2.2:Nat))]) (fun _=>g)
   (fun q=>pt n (.cells #[vi yc.id,vi yc.dim,.slice yp yc.sides.length d] 56 (0,0))::rowA encInt 3 q.1.1 (q.2.1.1.map En.id)::rowA encInt 3 q.1.2.1 (q.2.1.1.map En.sum)::rowA encInt 3 q.1.2.2.1 (q.2.1.1.map En.many)::rowA encInt 3 q.1.2.2.2 (q.2.1.1.map En.fi)::rowA encInt 3 (.slice (some ⟨b8,0,none⟩) c.sides.length c.sides.length) (q.2.1.2)::pt b3 (.cells #[vi c.id,vi c.dim,.slice rp c.sides.length b] 56 (0,0))::s)
   (fun q=>q.2.2≤yc.sides.length∧q.2.1=(yc.sides.take q.2.2).foldl (my i x.sign) (es,part.set i (i:Int))∧q.2.1.2.length=c.sides.length∧q.2.1.1.length≤64 * i+q.2.2∧∀ e∈q.2.1.1,e.fst<c.sides.length) (fun q=>yc.sides.length - q.2.2)
   ((v5,v6,v7,v9),(es,part.set i (i:Int)),0) sB rfl rfl ⟨zf8 _,by simp,h7,lN,b6⟩ ?_
  rintro ⟨⟨w5,w6,w7,w9⟩,⟨fs,pa⟩,j⟩ ⟨hj,D,Q,d3,F⟩;dsimp only at hj D Q d3 F ⊢;refine SC.facts fun ⟨w0,f⟩=>?_;obtain ⟨p5,c5,rfl⟩:=ag (i:=1) f rfl;obtain ⟨p6,c6,rfl⟩:=ag (i:=2) f rfl;obtain ⟨p7,c7,rfl⟩:=ag (i:=3) f rfl;obtain ⟨p9,c9,rfl⟩:=ag (i:=4) f rfl;have h8:0<fs.length→based (.slice p5 (fs.map En.id).length c5)=true:=fun h=>by obtain ⟨b0,c0,J⟩:=bw (i:=1) f rfl (by simpa using h); rw[J]; rfl
  clear f w0;refine sQ<|sW I<|lU (fA ao I aM I)<|SL.K (qL (v:=.slice yp yc.sides.length d) br I<|cO 0 I I)<|lU (eN be I)<|yL I<|tZ<|iP I (fun d4=>?_) (fun d4=>?_)
  ·have d5:j<yc.sides.length:=oM;have L:=X.based oM;have a5:yc.sides[((j:Nat):Int).toNat]?=some yc.sides[j]:=List.getElem?_eq_getElem d5;have a0:(yc.sides.take<|j+1).foldl (my i x.sign) (es,part.set i (i:Int))=my i x.sign ((yc.sides.take j).foldl (my i x.sign) (es,part.set i (i:Int))) yc.sides[j]:=by
    rw[tS d5,zj2]; rfl
   rw[← D] at a0;generalize yc.sides[j]=z at *;have m4:(fs.map En.id).length=fs.length:=by simp
   refine kP<|tN<|sQ<|bK<|rZ<|aT I<|SC.cut (ι:=Nat) (fun k=>[(0,.slice vp rs.length vc),(3,pp b3 0),(5,.slice p5 (fs.map En.id).length c5),(6,.slice p6 (fs.map En.sum).length c6),(7,.slice p7 (fs.map En.many).length c7),(8,.slice (some ⟨b8,0,none⟩) c.sides.length c.sides.length),(9,.slice p9 (fs.map En.fi).length c9),(10,vi (i:Nat)),(11,pp n 0),(12,vi (j:Nat)),(13,vi (k:Nat))]) (fun _=>g)
    (fun _=>pt n (.cells #[vi yc.id,vi yc.dim,.slice yp yc.sides.length d] 56 (0,0))::rowA encInt 3 (.slice p5 (fs.map En.id).length c5) (fs.map En.id)::rowA encInt 3 (.slice p6 (fs.map En.sum).length c6) (fs.map En.sum)::rowA encInt 3 (.slice p7 (fs.map En.many).length c7) (fs.map En.many)::rowA encInt 3 (.slice p9 (fs.map En.fi).length c9) (fs.map En.fi)::rowA encInt 3 (.slice (some ⟨b8,0,none⟩) c.sides.length c.sides.length) (pa)::pt b3 (.cells #[vi c.id,vi c.dim,.slice rp c.sides.length b] 56 (0,0))::s)
    (fun k=>k≤fs.length∧(∀ e∈fs.take k,e.id≠z.cell)∧∀ h:k<fs.length,fs[k].id=z.cell) ?_ ?_
   ·refine bK<|oP (ι:=Nat) (fun k=>[(0,.slice vp rs.length vc),(3,pp b3 0),(5,.slice p5 (fs.map En.id).length c5),(6,.slice p6 (fs.map En.sum).length c6),(7,.slice p7 (fs.map En.many).length c7),(8,.slice (some ⟨b8,0,none⟩) c.sides.length c.sides.length),(9,.slice p9 (fs.map En.fi).length c9),(10,vi (i:Nat)),(11,pp n 0),(12,vi (j:Nat)),(13,vi (k:Nat))]) (fun _=>g)
     (fun _=>pt n (.cells #[vi yc.id,vi yc.dim,.slice yp yc.sides.length d] 56 (0,0))::rowA encInt 3 (.slice p5 (fs.map En.id).length c5) (fs.map En.id)::rowA encInt 3 (.slice p6 (fs.map En.sum).length c6) (fs.map En.sum)::rowA encInt 3 (.slice p7 (fs.map En.many).length c7) (fs.map En.many)::rowA encInt 3 (.slice p9 (fs.map En.fi).length c9) (fs.map En.fi)::rowA encInt 3 (.slice (some ⟨b8,0,none⟩) c.sides.length c.sides.length) (pa)::pt b3 (.cells #[vi c.id,vi c.dim,.slice rp c.sides.length b] 56 (0,0))::s)
     (fun k=>k≤fs.length∧∀ e∈fs.take k,e.id≠z.cell) (fun k=>fs.length - k) 0 sB rfl rfl ⟨zf8 _,by simp⟩ ?_
    rintro k ⟨hk,t⟩;by_cases l:k<fs.length
    ·have R:((k:Nat):Int)<(((fs.map En.id).length:Nat):Int):=oM;have i0:(fs.map En.id)[((k:Nat):Int).toNat]?=some fs[k].id:=by simp[l]
     have d8:=h8 oM;refine sQ<|sQ<|dW [] [(0,2),(1,2),(2,2),(3,2),(4,2),(5,2),(6,2),(7,2),(8,1),(9,2),(10,1),(11,2),(12,2),(13,2),(14,1),(15,2),(16,2)] ze5 kR<|yM I<|yM I<|pU I (eN az I)<|pU I (SU.eq (v':=vb true) (lS I I)<|ze4 vb<|zg1 R)<|yM I<|yJ I<|yJ I<|zb3 I (gT I I I dC) (iA az zT3 I I d8 oM sL) dC<|SP.gq I (gT I I I dC) (eB iT3 I (zb7 1 I) i0 I) dC<|zb3 I (gT I I I dC) (fA ao I aM I) dC<|SP.gq I (gT I I I dC) (qL (v:=.slice yp yc.sides.length d) br I<|cO 0 I I) dC<|yJ I<|zb3 I (gT I I I dC) (iA be aY I I L oM sL) dC<|zb3 I (gT I I I dC) (fC c4 I zT3 I L) dC<|SP.gq I (gT I I I dC) (aZ (e:=encSide) (o:=0) (u:=vi z.cell) iT3 I X.rd a5 I) dC<|zb3 I (gT I I I dC) (nQ I I) dC<|pU I (wT I I)<|pN<|tN<|iP I (fun a9=>?_) (fun a9=>?_)
     ·refine kP (tN (bK (rG (lM I (yD I (lA I (SL.nil (bN ?_))))))));exact ST.again (k+1) sB I I ⟨oM,by
       rw[tS l];intro e J
       rcases zf5.1 J with h | h
       ·exact t e h
       ·simp at h; subst h; exact a9⟩ oM
     ·exact xI<|tX<|tX<|bX<|za9 k sB I I ⟨hk,t,fun _=>zh2 a9⟩
    ·have R:¬ ((k:Nat):Int)<(((fs.map En.id).length:Nat):Int):=oM;exact sQ<|sQ<|dW [] [(0,2),(1,2),(2,2),(3,2),(4,2),(5,2),(6,2),(7,2),(8,1),(9,2),(10,1),(11,2),(12,2),(13,2),(14,1),(15,2),(16,2)] ze5 kR<|yM I<|yM I<|pU I (eN az I)<|pU I (SU.eq (v':=vb false) (lS I I)<|ze4 vb<|zf9 R)<|yM I<|yG I<|yG I<|yG I<|yI I<|yG I<|yI I<|yG I<|yG I<|yG I<|yI I<|yG I<|pU I (wF I I)<|pN<|tN<|za1 I<|xI<|tX<|tX<|bX<|za9 k sB I I ⟨hk,t,fun h=>absurd h l⟩
   ·rintro k ⟨hk,t,e0⟩;refine SC.cut (ι:=(Value×Value×Value×Value)×List En×En×List En) (fun q=>[(0,.slice vp rs.length vc),(3,pp b3 0),(5,q.1.1),(6,q.1.2.1),(7,q.1.2.2.1),(8,.slice (some ⟨b8,0,none⟩) c.sides.length c.sides.length),(9,q.1.2.2.2),(10,vi (i:Nat)),(11,pp n 0),(12,vi (j:Nat)),(13,vi (q.2.1.length:Nat))]) (fun _=>g)
     (fun q=>pt n (.cells #[vi yc.id,vi yc.dim,.slice yp yc.sides.length d] 56 (0,0))::rowA encInt 3 q.1.1 ((q.2.1++q.2.2.1::q.2.2.2).map En.id)::rowA encInt 3 q.1.2.1 ((q.2.1++q.2.2.1::q.2.2.2).map En.sum)::rowA encInt 3 q.1.2.2.1 ((q.2.1++q.2.2.1::q.2.2.2).map En.many)::rowA encInt 3 q.1.2.2.2 ((q.2.1++q.2.2.1::q.2.2.2).map En.fi)::rowA encInt 3 (.slice (some ⟨b8,0,none⟩) c.sides.length c.sides.length) (pa)::pt b3 (.cells #[vi c.id,vi c.dim,.slice rp c.sides.length b] 56 (0,0))::s)
     (fun q=>(∀ p,lv i z.cell p fs=q.2.1++q.2.2.1.up p::q.2.2.2)∧jS i z.cell fs=q.2.2.1.fst∧q.2.2.1.fst<c.sides.length∧q.2.1.length+1+q.2.2.2.length≤fs.length+1) ?_ ?_
    ·refine sW I<|lM I<|lU (eN az I)<|yE I<|tZ<|iP I (fun e1=>?_) (fun e1=>?_)
     ·have i1:k=fs.length:=oM;subst i1;rw[List.take_length] at t;refine sW I<|lU (fA ao I aM I)<|SL.K (qL (v:=.slice yp yc.sides.length d) br I<|cO 0 I I)<|lM I<|lU (iA be aY I I L oM sL)<|lU (fC c4 I zT3 I L)<|SL.K (aZ (e:=encSide) (o:=0) (u:=vi z.cell) iT3 I X.rd a5 I)<|lW (bS sty52 I I I (ab sB) dC) ?_;rintro _ _ _ ⟨n1,rfl,rfl,rfl⟩;refine lW (aP (e:=encInt) 1 z.cell sty52 I I I I I oM oM) ?_;rintro u5 _ _ ⟨rfl,rfl⟩;refine aT I<|sW I<|lW (bS sty52 I I I (ab sB) dC) ?_;rintro _ _ _ ⟨n2,rfl,rfl,rfl⟩;refine lW (aP (e:=encInt) 2 0 sty52 I I I I I (by simp; omega) (by simp; omega)) ?_;rintro u6 _ _ ⟨rfl,rfl⟩;refine aT I<|sW I<|lW (bS sty52 I I I (ab sB) dC) ?_;rintro _ _ _ ⟨n3,rfl,rfl,rfl⟩;refine lW (aP (e:=encInt) 3 0 sty52 I I I I I (by simp; omega) (by simp; omega)) ?_;rintro u7 _ _ ⟨rfl,rfl⟩;refine aT I<|rG<|lM I<|lM I<|lW (bS sty52 I I I (ab sB) dC) ?_;rintro _ _ _ ⟨n5,rfl,rfl,rfl⟩;refine lW (aP (e:=encInt) 4 ((i:Nat):Int) sty52 I I I I I (by simp; omega) (by simp; omega)) ?_;rintro u9 _ _ ⟨rfl,rfl⟩;refine lA I<|SL.nil ?_;refine ST.to (fun w N=>?_) (g':=g) (s':=pt n (.cells #[vi yc.id,vi yc.dim,.slice yp yc.sides.length d] 56 (0,0))::rowA encInt 3 u5 ((fs++(⟨z.cell,0,0,i⟩:En)::[]).map En.id)::rowA encInt 3 u6 ((fs++(⟨z.cell,0,0,i⟩:En)::[]).map En.sum)::rowA encInt 3 u7 ((fs++(⟨z.cell,0,0,i⟩:En)::[]).map En.many)::rowA encInt 3 u9 ((fs++(⟨z.cell,0,0,i⟩:En)::[]).map En.fi)::rowA encInt 3 (.slice (some ⟨b8,0,none⟩) c.sides.length c.sides.length) (pa)::pt b3 (.cells #[vi c.id,vi c.dim,.slice rp c.sides.length b] 56 (0,0))::s) ?_
      ·simp only[zg7,zg6,List.map_nil]; exact N
      exact za9 ((u5,u6,u7,u9),fs,⟨z.cell,0,0,i⟩,[]) sB I I ⟨fun p=>(s4 t).1,(s4 (p:=0) t).2,O,by simp⟩
     ·have l:k<fs.length:=oM;have b1:fs=fs.take k++fs[k]::fs.drop (k+1):=by rw[← zg8 l,zj4]
      have i2:(fs.take k).length=k:=by rw[ze6]; omega
      refine kP<|za9 ((_,_,_,_),fs.take k,fs[k],fs.drop<|k+1) ⟨I,I,I,I,I,I,I,I,I,I,bD (by dsimp only; omega),trivial⟩ I (by dsimp only; rw[← b1]) ⟨fun p=>?_,?_,F _<|gM l,by rw[i2,zf2]; omega⟩
      ·conv=>lhs; rw[b1]
       exact (s5 (e0 l) t).1
      ·conv=>lhs; rw[b1]
       exact (s5 (p:=0) (e0 l) t).2
    ·rintro ⟨⟨u5,u6,u7,u9⟩,A,e,B⟩ ⟨y,a1,i3,e2⟩;dsimp only at y a1 i3 e2 ⊢;refine SC.facts fun ⟨w0,f⟩=>?_;obtain ⟨q6,d6,rfl⟩:=ag (i:=2) f rfl;obtain ⟨q7,d7,rfl⟩:=ag (i:=3) f rfl;obtain ⟨q9,d9,rfl⟩:=ag (i:=4) f rfl;have Y:based (.slice q6 ((A++e::B).map En.sum).length d6)=true:=by obtain ⟨b0,c0,J⟩:=bw (i:=2) f rfl (by simp; omega); rw[J]; rfl
     have Z:based (.slice q7 ((A++e::B).map En.many).length d7)=true:=by obtain ⟨b0,c0,J⟩:=bw (i:=3) f rfl (by simp; omega); rw[J]; rfl
     have j0:based (.slice q9 ((A++e::B).map En.fi).length d9)=true:=by obtain ⟨b0,c0,J⟩:=bw (i:=4) f rfl (by simp; omega); rw[J]; rfl
     clear f w0;have j1:((A++e::B).map En.sum).length=A.length+1+B.length:=by simp; omega
     have j2:((A++e::B).map En.many).length=A.length+1+B.length:=by simp; omega
     have n6:((A++e::B).map En.fi).length=A.length+1+B.length:=by simp; omega
     have g6:((A++e::B).map En.sum)[((A.length:Nat):Int).toNat]?=some e.sum:=by rw[zg7,zg6]; exact bM (by simp)
     have g7:((A++e::B).map En.many)[((A.length:Nat):Int).toNat]?=some e.many:=by rw[zg7,zg6]; exact bM (by simp)
     have g9:((A++e::B).map En.fi)[((A.length:Nat):Int).toNat]?=some ((e.fst:Nat):Int):=by rw[zg7,zg6]; exact bM (by simp)
     have gp1:pa[((e.fst:Nat):Int).toNat]?=some (pa.getD e.fst 0):=by
      have h:e.fst<pa.length:=oM;rw[show ((e.fst:Nat):Int).toNat=e.fst by omega,List.getElem?_eq_getElem h,zh3,List.getElem?_eq_getElem h]; rfl
     have gp2:pa[((i:Nat):Int).toNat]?=some (pa.getD i 0):=by
      have h:i<pa.length:=oM;rw[show ((i:Nat):Int).toNat=i by omega,List.getElem?_eq_getElem h,zh3,List.getElem?_eq_getElem h]; rfl
     obtain ⟨wp,e4⟩:∃ wp,wp=wr (x.sign * z.sign):=⟨_,rfl⟩;refine sQ<|dW [20,21] [(0,2),(1,2),(2,2),(3,2),(4,2),(5,1),(6,2),(7,1),(8,2),(9,2),(10,2),(11,1),(12,2),(13,1),(14,2),(15,2),(16,2),(17,1),(18,2),(19,2),(20,0),(21,0)] ze5 kR<|yM I<|yM I<|yM I<|yM I<|pU I (iA az zT3 I I Y oM sL)<|pK I (eB iT3 I (zb7 2 I) g6 I)<|pU I (fA ao I aM I)<|pK I (qL (v:=.slice rp c.sides.length b) br I<|cO 6 I I)<|yM I<|pU I (iA be aY I I W oM sL)<|pU I (fC c4 I zT3 I W)<|pK I (aZ (e:=encSide) (o:=1) (u:=vi x.sign) iT3 I a4.rd b7 I)<|pU I (fA ao I aM I)<|pK I (qL (v:=.slice yp yc.sides.length d) br I<|cO 0 I I)<|yM I<|pU I (iA be aY I I L oM sL)<|pU I (fC c4 I zT3 I L)<|pK I (aZ (e:=encSide) (o:=1) (u:=vi z.sign) iT3 I X.rd a5 I)<|pU I (SU.eq (v':=vi wp) (SU.mulW I I)<|by rw[e4]) ?_;refine pU I (ze2 I I)<|oU I (iA az zT3 I I Y oM sL) dC (.inl dC)<|SP.on I (SO.setA (a:=wr<|e.sum+wp) 2 zT3 I I I oM I) (.inl dC) ?_;rintro _ _ _ ⟨rfl,rfl⟩;refine pN<|tN<|sW I<|lM I<|lU (iA az zT3 I I Z oM sL)<|SL.K (eB iT3 I (zb7 3 I) g7 I)<|lU (ze2 I I)<|lU (iA az zT3 I I Z oM sL)<|oZ (SO.setA (a:=wr<|e.many+1) 3 zT3 I I I oM I)<|tZ<|sW I<|lM I<|lM I<|lU (iA az zT3 I I j0 oM sL)<|SL.K (eB iT3 I (zb7 4 I) g9 I)<|lU (iA az zT3 I I I oM sL)<|SL.K (eB iT3 I (zb7 5 I) gp1 I)<|aT I<|sW I<|lM I<|lU (iA az zT3 I I I oM sL) ?_;refine SL.K (eB iT3 I (zb7 5 I) gp2 I)<|aT I<|rZ<|aT I<|bK ?_;have l0:((A++e::B).map En.sum).set ((A.length:Nat):Int).toNat (wr<|e.sum+wp)=(A++e.up wp::B).map En.sum:=by rw[zg7,zg6,dN (by simp)]; simp[En.up]
     have l1:((A++e::B).map En.many).set ((A.length:Nat):Int).toNat (wr<|e.many+1)=(A++e.up wp::B).map En.many:=by rw[zg7,zg6,dN (by simp)]; simp[En.up]
     have l2:(A++e::B).map En.id=(A++e.up wp::B).map En.id:=by simp[En.up]
     have l3:((A++e::B).map En.fi)=(A++e.up wp::B).map En.fi:=by simp[En.up,En.fi]
     generalize e9:pa.getD e.fst 0=old at *;generalize f1:pa.getD i 0=now at *;refine SC.to (fun w N=>?_) (g':=g) (s':=pt n (.cells #[vi yc.id,vi yc.dim,.slice yp yc.sides.length d] 56 (0,0))::rowA encInt 3 u5 ((A++e.up wp::B).map En.id)::rowA encInt 3 (.slice q6 ((A++e::B).map En.sum).length d6) ((A++e.up wp::B).map En.sum)::rowA encInt 3 (.slice q7 ((A++e::B).map En.many).length d7) ((A++e.up wp::B).map En.many)::rowA encInt 3 (.slice q9 ((A++e::B).map En.fi).length d9) ((A++e.up wp::B).map En.fi)::rowA encInt 3 (.slice (some ⟨b8,0,none⟩) c.sides.length c.sides.length) (eF 0 old now pa)::pt b3 (.cells #[vi c.id,vi c.dim,.slice rp c.sides.length b] 56 (0,0))::s) ?_
     ·rw[← l0,← l1,← l2,← l3,wJ]; exact N
     refine oP (ι:=Nat) (fun m=>[(0,.slice vp rs.length vc),(3,pp b3 0),(5,u5),(6,.slice q6 ((A++e::B).map En.sum).length d6),(7,.slice q7 ((A++e::B).map En.many).length d7),(8,.slice (some ⟨b8,0,none⟩) c.sides.length c.sides.length),(9,.slice q9 ((A++e::B).map En.fi).length d9),(10,vi (i:Nat)),(11,pp n 0),(12,vi (j:Nat)),(14,vi old),(15,vi now),(16,vi (m:Nat))]) (fun _=>g)
      (fun m=>pt n (.cells #[vi yc.id,vi yc.dim,.slice yp yc.sides.length d] 56 (0,0))::rowA encInt 3 u5 ((A++e.up wp::B).map En.id)::rowA encInt 3 (.slice q6 ((A++e::B).map En.sum).length d6) ((A++e.up wp::B).map En.sum)::rowA encInt 3 (.slice q7 ((A++e::B).map En.many).length d7) ((A++e.up wp::B).map En.many)::rowA encInt 3 (.slice q9 ((A++e::B).map En.fi).length d9) ((A++e.up wp::B).map En.fi)::rowA encInt 3 (.slice (some ⟨b8,0,none⟩) c.sides.length c.sides.length) (eF m old now pa)::pt b3 (.cells #[vi c.id,vi c.dim,.slice rp c.sides.length b] 56 (0,0))::s)
      (fun m=>m≤i+1) (fun m=>i+1 - m) 0 sB rfl rfl (zf8 _) ?_
     rintro m hm;have a2:=mq m old now pa;refine sQ<|sW I<|lM I<|lU (SU.leq I I)<|tZ<|iP I (fun f2=>?_) (fun f2=>?_)
     ·have f3:m<pa.length:=oM;have gm:(eF m old now pa)[((m:Nat):Int).toNat]?=some pa[m]:=zH f3;have a3:=wK (old:=old) (now:=now) f3;refine kP<|tN<|sQ<|bK<|sW I<|lM I<|lU (iA az zT3 I I I oM sL)<|SL.K (eB iT3 I (zb7 5 I) gm I)<|lM I<|yE I<|tZ<|iP I (fun b2=>?_) (fun b2=>?_)
      ·refine rG<|lM I<|lM I<|lM I<|lU (iA az zT3 I I I oM sL)<|oZ (SO.setA (a:=old) 5 zT3 I I I (by rw[a2]; omega) I) ?_;refine SL.nil<|bN<|tN<|rG<|lM I<|yD I<|lA I<|SL.nil ?_;refine ST.to (fun w N=>?_) (g':=g) (s':=pt n (.cells #[vi yc.id,vi yc.dim,.slice yp yc.sides.length d] 56 (0,0))::rowA encInt 3 u5 ((A++e.up wp::B).map En.id)::rowA encInt 3 (.slice q6 ((A++e::B).map En.sum).length d6) ((A++e.up wp::B).map En.sum)::rowA encInt 3 (.slice q7 ((A++e::B).map En.many).length d7) ((A++e.up wp::B).map En.many)::rowA encInt 3 (.slice q9 ((A++e::B).map En.fi).length d9) ((A++e.up wp::B).map En.fi)::rowA encInt 3 (.slice (some ⟨b8,0,none⟩) c.sides.length c.sides.length) (eF (m+1) old now pa)::pt b3 (.cells #[vi c.id,vi c.dim,.slice rp c.sides.length b] 56 (0,0))::s) ?_
       ·rw[a3,zg3 b2]; exact N
       exact ST.again (m+1) sB I I oM oM
      ·refine kP<|bN<|tN<|rG<|lM I<|yD I<|lA I<|SL.nil ?_;refine ST.to (fun w N=>?_) (g':=g) (s':=pt n (.cells #[vi yc.id,vi yc.dim,.slice yp yc.sides.length d] 56 (0,0))::rowA encInt 3 u5 ((A++e.up wp::B).map En.id)::rowA encInt 3 (.slice q6 ((A++e::B).map En.sum).length d6) ((A++e.up wp::B).map En.sum)::rowA encInt 3 (.slice q7 ((A++e::B).map En.many).length d7) ((A++e.up wp::B).map En.many)::rowA encInt 3 (.slice q9 ((A++e::B).map En.fi).length d9) ((A++e.up wp::B).map En.fi)::rowA encInt 3 (.slice (some ⟨b8,0,none⟩) c.sides.length c.sides.length) (eF (m+1) old now pa)::pt b3 (.cells #[vi c.id,vi c.dim,.slice rp c.sides.length b] 56 (0,0))::s) ?_
       ·rw[a3,zg2 b2]; exact N
       exact ST.again (m+1) sB I I oM oM
     ·have l4:m=i+1:=oM;subst l4;refine xI<|tX<|tX<|bX<|bN<|tN<|rG<|lM I<|yD I<|lA I<|SL.nil ?_;have C:my i x.sign (fs,pa) z=(A++e.up wp::B,eF (i+1) old now pa):=by
       unfold my;dsimp only;rw[a1,e9,f1,e4,y]
      refine ST.again ((u5,_,_,_),(A++e.up wp::B,eF (i+1) old now pa),j+1) sB I I ⟨lN,by dsimp only; rw[a0,C],by dsimp only; rw[a2]; exact Q,lN,fun q hq=>?_⟩ lN;have h9:=yz (c:=z.cell) (p:=wp) O F q (by rw[y]; exact hq);exact h9
  ·have m1:yc.sides.take j=yc.sides:=tL oM;rw[m1] at D;have C:oh tl (es,part) (x,i)=(fs,pa):=by unfold oh; rw[c2]; exact D.symm
   exact xI<|tX<|tX<|bX<|bN<|tN<|rG<|lM I<|yD I<|lA I<|SL.nil<|dR (s':=rowA encInt 3 (.slice p5 (fs.map En.id).length c5) (fs.map En.id)::rowA encInt 3 (.slice p6 (fs.map En.sum).length c6) (fs.map En.sum)::rowA encInt 3 (.slice p7 (fs.map En.many).length c7) (fs.map En.many)::rowA encInt 3 (.slice p9 (fs.map En.fi).length c9) (fs.map En.fi)::rowA encInt 3 (.slice (some ⟨b8,0,none⟩) c.sides.length c.sides.length) (pa)::pt b3 (.cells #[vi c.id,vi c.dim,.slice rp c.sides.length b] 56 (0,0))::s) (.cons _<|.refl _)<|ST.again ((_,_,_,_),(fs,pa),i+1) sB I I ⟨lN,by dsimp only; rw[g5,← V,C],Q,lN,F⟩ lN
 ·have m2:c.sides.take i=c.sides:=tL oM;rw[m2] at V;have G:nm tl c.sides c.sides.length=(es,part):=V.symm;refine SC.facts fun ⟨w0,f⟩=>?_;obtain ⟨p6,c6,rfl⟩:=ag (i:=1) f rfl;obtain ⟨p7,c7,rfl⟩:=ag (i:=2) f rfl;have Y:0<es.length→based (.slice p6 (es.map En.sum).length c6)=true:=fun h=>by obtain ⟨b0,c0,J⟩:=bw (i:=1) f rfl (by simpa using h); rw[J]; rfl
  have Z:0<es.length→based (.slice p7 (es.map En.many).length c7)=true:=fun h=>by obtain ⟨b0,c0,J⟩:=bw (i:=2) f rfl (by simpa using h); rw[J]; rfl
  clear f w0;have j1:(es.map En.sum).length=es.length:=by simp
  have j2:(es.map En.many).length=es.length:=by simp
  refine xI<|tX<|tX<|bX<|tN<|sQ<|rZ<|aT I<|bK<|oP (ι:=Nat) (fun k=>[(6,.slice p6 (es.map En.sum).length c6),(7,.slice p7 (es.map En.many).length c7),(8,.slice (some ⟨b8,0,none⟩) c.sides.length c.sides.length),(17,vi (k:Nat))]) (fun _=>g)
   (fun _=>rowA encInt 3 v5 (es.map En.id)::rowA encInt 3 (.slice p6 (es.map En.sum).length c6) (es.map En.sum)::rowA encInt 3 (.slice p7 (es.map En.many).length c7) (es.map En.many)::rowA encInt 3 v9 (es.map En.fi)::rowA encInt 3 (.slice (some ⟨b8,0,none⟩) c.sides.length c.sides.length) (part)::pt b3 (.cells #[vi c.id,vi c.dim,.slice rp c.sides.length b] 56 (0,0))::s)
   (fun k=>k≤es.length∧(es.take k).any (fun e=>decide (e.sum≠0))=false) (fun k=>es.length - k) 0 sB rfl rfl ⟨zf8 _,by simp⟩ ?_
  rintro k ⟨hk,S⟩;refine sQ<|sW I<|lM I<|lU (eN az I)<|yL I<|tZ<|iP I (fun f4=>?_) (fun f4=>?_)
  ·have l:k<es.length:=oM;have gk:(es.map En.sum)[((k:Nat):Int).toNat]?=some es[k].sum:=by simp[l]
   refine kP<|tN<|sQ<|bK<|sW I<|lM I<|lU (iA az zT3 I I (Y oM) oM sL)<|SL.K (eB iT3 I (zb7 1 I) gk I)<|lU (nQ I I)<|tZ<|iP I (fun hz=>?_) (fun hz=>?_)
   ·refine rZ<|aT I<|rE<|bR<|tR<|tR<|bR<|tR<|dR (s':=s) (by repeat (first | exact zc4 _ | refine List.Sublist.cons _ ?_)) ?_;exact za8 (.inl I) results213 I ⟨by unfold i7; rw[G,zg3<|zk1.2 ⟨es[k],gM l,by simpa using hz⟩],I,I⟩
   ·exact kP<|bN<|tN<|rG<|lM I<|yD I<|lA I<|SL.nil<|ST.again (k+1) sB I I ⟨oM,by rw[tS l,List.any_append,S]; simpa using hz⟩ oM
  ·have d0:es.take k=es:=tL oM;rw[d0] at S;refine xI<|tX<|tX<|bX<|tN<|sQ<|rZ<|aT I<|bK<|oP (ι:=Nat) (fun k=>[(7,.slice p7 (es.map En.many).length c7),(8,.slice (some ⟨b8,0,none⟩) c.sides.length c.sides.length),(18,vi (k:Nat))]) (fun _=>g)
    (fun _=>rowA encInt 3 v5 (es.map En.id)::rowA encInt 3 (.slice p6 (es.map En.sum).length c6) (es.map En.sum)::rowA encInt 3 (.slice p7 (es.map En.many).length c7) (es.map En.many)::rowA encInt 3 v9 (es.map En.fi)::rowA encInt 3 (.slice (some ⟨b8,0,none⟩) c.sides.length c.sides.length) (part)::pt b3 (.cells #[vi c.id,vi c.dim,.slice rp c.sides.length b] 56 (0,0))::s)
    (fun k=>k≤es.length∧(es.take k).any (fun e=>decide (e.many≠2))=false) (fun k=>es.length - k) 0 sB rfl rfl ⟨zf8 _,by simp⟩ ?_
   rintro k2 ⟨n7,H⟩;refine sQ<|sW I<|lM I<|lU (eN az I)<|yL I<|tZ<|iP I (fun f5=>?_) (fun f5=>?_)
   ·have l:k2<es.length:=oM;have gk:(es.map En.many)[((k2:Nat):Int).toNat]?=some es[k2].many:=by simp[l]
    refine kP<|tN<|sQ<|bK<|sW I<|lM I<|lU (iA az zT3 I I (Z oM) oM sL)<|SL.K (eB iT3 I (zb7 2 I) gk I)<|lU (nQ I I)<|tZ<|iP I (fun hz=>?_) (fun hz=>?_)
    ·refine rZ<|aT I<|rE<|bR<|tR<|tR<|bR<|tR<|dR (s':=s) (by repeat (first | exact zc4 _ | refine List.Sublist.cons _ ?_)) ?_;exact za8 (.inl I) results213 I ⟨by unfold i7; rw[G,zg2 (by rw[S]; simp),zg3<|zk1.2 ⟨es[k2],gM l,by simpa using hz⟩],I,I⟩
    ·exact kP<|bN<|tN<|rG<|lM I<|yD I<|lA I<|SL.nil<|ST.again (k2+1) sB I I ⟨oM,by rw[tS l,List.any_append,H]; simpa using hz⟩ oM
   ·have f6:es.take k2=es:=tL oM;rw[f6] at H;refine xI<|tX<|tX<|bX<|tN<|sQ<|rZ<|aT I<|bK<|oP (ι:=Nat) (fun k=>[(8,.slice (some ⟨b8,0,none⟩) c.sides.length c.sides.length),(19,vi (k:Nat))]) (fun _=>g)
     (fun _=>rowA encInt 3 v5 (es.map En.id)::rowA encInt 3 (.slice p6 (es.map En.sum).length c6) (es.map En.sum)::rowA encInt 3 (.slice p7 (es.map En.many).length c7) (es.map En.many)::rowA encInt 3 v9 (es.map En.fi)::rowA encInt 3 (.slice (some ⟨b8,0,none⟩) c.sides.length c.sides.length) (part)::pt b3 (.cells #[vi c.id,vi c.dim,.slice rp c.sides.length b] 56 (0,0))::s)
     (fun k=>k≤c.sides.length∧(part.take k).any (fun q=>decide (q≠part.getD 0 0))=false) (fun k=>c.sides.length - k) 0 sB rfl rfl ⟨zf8 _,by simp⟩ ?_
    rintro k3 ⟨n8,T⟩;refine sQ<|sW I<|lM I<|lU (eN az I)<|yL I<|tZ<|iP I (fun f7=>?_) (fun f7=>?_)
    ·have l:k3<part.length:=oM;have gk:part[((k3:Nat):Int).toNat]?=some part[k3]:=List.getElem?_eq_getElem l;have g0:part[((0:Nat):Int).toNat]?=some (part.getD 0 0):=by
      have h:0<part.length:=oM;rw[show ((0:Nat):Int).toNat=0 from rfl,List.getElem?_eq_getElem h,zh3,List.getElem?_eq_getElem h]; rfl
     generalize m3:part.getD 0 0=p0 at *;refine kP<|tN<|sQ<|bK<|sQ<|dW [] [(0,2),(1,2),(2,2),(3,1),(4,2),(5,2),(6,1),(7,2)] ze5 kR<|yM I<|yM I<|pU I (iA az zT3 I I I oM sL)<|pK I (eB iT3 I (zb7 4 I) gk I)<|yM I<|pU I (iA az zT3 I I I dC sL)<|pK I (eB iT3 I (zb7 4 I) g0 I)<|pU I (nQ I I)<|pN<|tN<|iP I (fun hz=>?_) (fun hz=>?_)
     ·refine rZ<|aT I<|rE<|bR<|tR<|tR<|bR<|tR<|dR (s':=s) (by repeat (first | exact zc4 _ | refine List.Sublist.cons _ ?_)) ?_;exact za8 (.inl I) results213 I ⟨by unfold i7; rw[G,zg2 (by rw[S]; simp),zg2 (by rw[H]; simp),zg3<|zk1.2 ⟨part[k3],gM l,by rw[m3]; simpa using hz⟩],I,I⟩
     ·exact kP<|bN<|tN<|rG<|lM I<|yD I<|lA I<|SL.nil<|ST.again (k3+1) sB I I ⟨oM,by rw[tS l,List.any_append,T]; simpa using hz⟩ oM
    ·have f8:part.take k3=part:=tL oM;rw[f8] at T;refine xI<|tX<|tX<|bX<|tN<|rZ<|aT I<|rE<|dR (s':=s) (by repeat (first | exact zc4 _ | refine List.Sublist.cons _ ?_)) ?_;exact za8 (.inl I) results213 I ⟨by unfold i7; rw[G,zg2 (by rw[S]; simp),zg2 (by rw[H]; simp),zg2 (by rw[T]; simp)],I,I⟩
theorem m0 {tl:List Cl}{c:Cl}(h:cQ tl c=0):∀ x∈c.sides,(ah tl x.cell).isSome=true:=by
 intro x e;unfold cQ at h;split at h
 ·cases h
 split at h
 ·cases h
 split at h
 ·cases h
 rename_i b;have a:(List.range c.sides.length).any (jg tl c)=false:=by simpa using b
 obtain ⟨k,d,rfl⟩:=zc8 e;have f:=zk7.1 a k<|List.mem_range.2 d;cases g:(ah tl c.sides[k].cell).isSome with
 | true=>rfl
 | false =>
  exfalso;apply f;unfold jg;rw[List.getElem?_eq_getElem d];exact oW (by rw[g]; simp)
theorem lp {tl:List Cl}:∀ {L:List Cl} {last:Int},iz tl L last=none→(∀ x∈L,last<x.id)∧L.Pairwise fun a b=>a.id<b.id
 | [],_,_=>⟨by simp,List.Pairwise.nil⟩
 | x::r,last,h=>by
  unfold iz at h;split at h
  ·cases h
  ·rename_i f;split at h
   ·cases h
   ·obtain ⟨d,e⟩:=lp h;refine⟨fun y c=>?_,zk5.2 ⟨d,e⟩⟩
    rcases zf3.1 c with rfl | c
    ·omega
    ·have:=d y c; omega
theorem nz:∀ {L acc:List Cl},(acc++L).Pairwise (fun a b=>a.id<b.id)→L.foldl gt acc=acc++L
 | [],acc,_=>by simp
 | x::r,acc,h=>by
  have c:acc.any (fun y=>y.id == x.id)=false:=by
   rw[zk7];intro y d;have:=(List.pairwise_append.1 h).2.2 y d x (by simp);simp;omega
  rw[zj1,lH c,nz (by simpa using h)];simp
theorem bP {l:List Cl}(h:(aa l).Pairwise fun a b=>a.id<b.id):am l=aa l:=by
 unfold am;rw[nz (by simpa using h)];rfl
def nq (tl:List Cl):List Cl→Option (Int×Int)
 | []=>none
 | x::r=>if x.dim>1∧i7 tl x≠0 then some (x.id,i7 tl x) else nq tl r
def aF (l:List Cl):Int×Int:=if (l.length:Int)>4000 then (0,2) else (iz (am l) (aa l) 0).getD ((nq (aa l)<|aa l).getD (0,0))
def im (L:List Cl)(i:Nat):Int:=if i=0 then 0 else (L.getD (i - 1) aH).id
theorem xa {L:List Cl}{i:Nat}(h:i<L.length):im L (i+1)=L[i].id:=by
 unfold im;rw[zg2 oM];simp[h]
theorem mr (E:World)(g:PH)(s:Own)(v:Value)(l:List Cl)(hv:ai g v l)(hf:aJ l) :
  Ctr Tryz.prog E 161 #[.agg #[v]] g s (fun r g' s'=>r = .tuple #[vi (aF l).1,vi (aF l).2]∧s=s'∧Le g g'):=by
 obtain ⟨p,c,rfl⟩:=hv.form;have W:=iZ l;have c9:=au l;have X:=aA hf;have Y:=bT hf;have Z:=fF l;have b6:=jw l;refine zb2 (args:=[.agg #[.slice p l.length c]]) func161 I ntmps161 (bE I)<|rZ (bW (bO I) fun b1=>?_);refine lA I<|aT I<|sQ<|rZ<|lU (fA dn I cq I)<|SL.K (qL eh I<|cO 0 I I)<|lU (eN aB I)<|lU (gR I I)<|tZ<|iP I (fun Q=>?_) (fun Q=>?_)
 ·exact rZ<|lA I<|aT I<|rE<|tR<|dR (s':=s) uR<|ST.ret2 (.inl I) results161 I I ⟨by unfold aF; rw[zg3 oM],I,zb9 g⟩
 ·refine kP<|tN<|rZ<|lU (fA dn I cq I)<|SL.K (qL eh I<|cO 0 I I)<|lW (SO.call call163 I<|kh E l.length g _ _ l (Nat.le_refl _) hv hf) ?_;rintro v16 g1 _ ⟨rfl,n,hL⟩;obtain ⟨rs,a0,O⟩:=hL;have d0:=O.length;obtain ⟨q,d,rfl⟩:=a0.form;refine aT I<|rZ<|SL.K (qV 0 aj ae I I I)<|lW (SO.call call96 I<|dw E g1 _ _ l (hv.mono n) hf) ?_;rintro v18 g2 _ ⟨rfl,k,hO⟩;have a:=a0.mono k;have t:=O.mono fun _ _=>an.mono k;obtain ⟨q2,d2,rfl⟩:=hO.form;refine aT I<|sQ<|rZ<|aT I<|bK ?_;have b7:ai g2 (.slice q rs.length d) (aa l):=⟨rs,a,t⟩;have w:aF l=(iz (am l) (aa l) 0).getD ((nq (aa l)<|aa l).getD (0,0)):=by unfold aF; rw[zg2 oM]
  refine oP (ι:=Nat) (fun i=>[(1,pp b1 0),(4,.slice q rs.length d),(5,.slice q2 (am l).length d2),(6,vi i)]) (fun _=>g2) (fun _=>pt b1 (.cells #[.slice p l.length c] 29 (0,0))::s)
   (fun i=>i≤rs.length∧iz (am l) (aa l) 0=iz (am l) ((aa l).drop i) (im (aa l) i)∧(0<i→1≤im (aa l) i)) (fun i=>rs.length - i) 0
   sB rfl rfl ⟨zf8 _,rfl,fun h=>absurd h oM⟩ ?_
  rintro i ⟨hi,F,b8⟩;refine sQ<|sW I<|lM I<|lU (eN aB I)<|yL I<|tZ<|iP I (fun b9=>?_) (fun b9=>?_)
  ·have G:i<(aa l).length:=oM;have a1:i<rs.length:=oM;have b:=a.based oM;have z:=t.get (List.getElem?_eq_getElem G)<|List.getElem?_eq_getElem a1;have f:rs[((i:Nat):Int).toNat]?=some rs[i]:=List.getElem?_eq_getElem a1;have A:(aa l).drop i=(aa l)[i]::(aa l).drop (i+1):=zg8 G;have a2:=X.2 _<|gM G;have R:=xa G;rw[A] at F;have S:0<i→∃ (r:Rc),rs[((i:Int) - 1).toNat]?=some r∧r.id=im (aa l) i∧im (aa l) i≤(aa l)[i].id:=fun h=>by
    have h2:i - 1<rs.length:=oM;have h3:i - 1<(aa l).length:=oM;refine⟨rs[i - 1],by rw[show ((i:Int) - 1).toNat=i - 1 by omega]; exact List.getElem?_eq_getElem h2,?_,?_⟩
    ·have:=(t.get (List.getElem?_eq_getElem h3)<|List.getElem?_eq_getElem h2).1;rw[this];unfold im;rw[zg2 oM];simp[h3]
    ·have:=zd1.1 W (i - 1) i h3 G oM;unfold im;rw[zg2 oM];simpa [h3] using this
   generalize (aa l)[i]=x at *;generalize rs[i]=rx at *;obtain ⟨m,N,T⟩:=z;have z:an g2 x rx:=⟨m,N,T⟩;have P:x.id≤im (aa l) i→aF l=(x.id,20):=fun h=>by rw[w,F,iz,zg3 h]; rfl
   by_cases U:x.id<1
   ·have a3:x.id≤im (aa l) i:=by
     by_cases h0:0<i
     ·have:=b8 h0; omega
     ·have:i=0:=oM;subst this;show x.id≤0;omega
    refine kP<|tN<|sQ<|bK<|sQ<|sQ<|dW [] [(0,2),(1,2),(2,2),(3,2),(4,1),(5,2),(6,2),(7,2),(8,2),(9,2),(10,2),(11,2),(12,2),(13,2),(14,1),(15,2),(16,2),(17,2),(18,2),(19,2),(20,1),(21,2),(22,2),(23,2)] ze5 kR<|yM I<|yM I<|pU I (iA aB aw I I b oM sL)<|pU I (fC ao I zT3 I b)<|pK I (aZ (e:=encCell) (o:=0) (u:=vi x.id) iT3 I a.rd f (by rw[← m]; rfl)) ?_;refine pU I (SU.eq (v':=vb true) (lS I I)<|ze4 vb<|zg1 U)<|yM I<|yG I<|yG I<|yG I<|yH I<|yH I<|yH I<|yH I<|SP.off1 I (zb4 I I I dC) dC<|yH I<|yH I<|yH I<|yH I<|yH I<|SP.off1 I (zb4 I I I dC) dC<|yH I<|yG I<|pU I (wT I I)<|pN<|tN<|za2 I<|sW I<|lM I<|lU (iA aB aw I I b oM sL)<|lU (fC ao I zT3 I b)<|SL.K (aZ (e:=encCell) (o:=0) (u:=vi x.id) iT3 I a.rd f (by rw[← m]; rfl)) ?_;exact lA I<|aT I<|rE<|tR<|bR<|tR<|tR<|bR<|tR<|dR (s':=s) uR<|ST.ret2 (.inl I) results161 I I ⟨by rw[P a3],I,n.trans k⟩
   ·have a4:im (aa l) i<x.id→iz (am l) (aa l) 0=if cQ (am l) x≠0 then some (x.id,cQ (am l) x) else iz (am l) ((aa l).drop<|i+1) (im (aa l)<|i+1):=fun h=>by
     rw[F,iz,zg2 oM,R]
    by_cases a5:(i:Int)>0
    ·obtain ⟨rp,c0,a9,c1⟩:=S oM;refine kP<|tN<|sQ<|bK<|sQ<|sQ<|dW [] [(0,2),(1,2),(2,2),(3,2),(4,1),(5,2),(6,2),(7,2),(8,2),(9,2),(10,2),(11,2),(12,2),(13,2),(14,1),(15,2),(16,2),(17,2),(18,2),(19,2),(20,1),(21,2),(22,2),(23,2)] ze5 kR<|yM I<|yM I<|pU I (iA aB aw I I b oM sL)<|pU I (fC ao I zT3 I b)<|pK I (aZ (e:=encCell) (o:=0) (u:=vi x.id) iT3 I a.rd f (by rw[← m]; rfl)) ?_;refine pU I (SU.eq (v':=vb false) (lS I I)<|ze4 vb<|zf9 U)<|yM I<|yJ I<|zb3 I (gT I I I dC) (SU.eq (v':=vb true) (gR I I)<|ze4 vb<|zg1 a5) dC<|yJ I<|yJ I<|yJ I<|zb3 I (gT I I I dC) (iA aB aw I I b oM sL) dC<|zb3 I (gT I I I dC) (fC ao I zT3 I b) dC<|SP.gq I (gT I I I dC) (aZ (e:=encCell) (o:=0) (u:=vi x.id) iT3 I a.rd f (by rw[← m]; rfl)) dC ?_;refine yJ I<|yJ I<|zb3 I (gT I I I dC) (sU I I oM) dC<|zb3 I (gT I I I dC) (iA aB aw I I b oM sL) dC<|zb3 I (gT I I I dC) (fC ao I zT3 I b) dC<|SP.gq I (gT I I I dC) (aZ (e:=encCell) (o:=0) (u:=vi<|im (aa l) i) iT3 I a.rd c0 (by rw[← a9]; rfl)) dC ?_;refine zb3 I (gT I I I dC) (eQ I I) dC<|zb3 I (gT I I I dC) (wT I I) dC<|pU I (wF I I)<|pN<|tN<|iP I (fun c2=>?_) (fun c2=>?_)
     ·refine sW I<|lM I<|lU (iA aB aw I I b oM sL)<|lU (fC ao I zT3 I b)<|SL.K (aZ (e:=encCell) (o:=0) (u:=vi x.id) iT3 I a.rd f (by rw[← m]; rfl)) ?_;exact lA I<|aT I<|rE<|tR<|bR<|tR<|tR<|bR<|tR<|dR (s':=s) uR<|ST.ret2 (.inl I) results161 I I ⟨by rw[P oM],I,n.trans k⟩
     ·refine kP<|tN<|sW I<|lM I<|lM I<|lU (iA aB aw I I b oM sL)<|SL.K (SQ.elemA (e:=encCell) dT aw I a.rd f)<|lW (SO.call call212 I<|rz E g2 _ _ (am l) x rx hO Y.1 Z z a2) ?_;rintro _ _ _ ⟨rfl,rfl,rfl⟩;refine aT I<|sW I<|lU (nQ I I)<|tZ ?_;have hg:=a4 oM;refine iP I (fun H=>?_) (fun H=>?_)
      ·rw[zg3 H] at hg;refine sW I<|lM I<|lU (iA aB aw I I b oM sL)<|lU (fC ao I zT3 I b)<|SL.K (aZ (e:=encCell) (o:=0) (u:=vi x.id) iT3 I a.rd f (by rw[← m]; rfl)) ?_;exact lM I<|lA I<|aT I<|rE<|bR<|tR<|tR<|bR<|tR<|dR (s':=s) uR<|ST.ret2 (.inl I) results161 I I ⟨by rw[w,hg]; rfl,rfl,n.trans k⟩
      ·rw[zg2 H] at hg;exact kP<|bN<|tN<|rG<|lM I<|yD I<|lA I<|SL.nil<|ST.again (i+1) sB I I ⟨oM,hg,fun _=>by rw[R]; omega⟩ oM
    ·have b0:i=0:=oM;have hg:=a4 (by rw[b0]; show (0:Int)<x.id; omega);refine kP<|tN<|sQ<|bK<|sQ<|sQ ?_;refine dW [] [(0,2),(1,2),(2,2),(3,2),(4,1),(5,2),(6,2),(7,2),(8,2),(9,2),(10,2),(11,2),(12,2),(13,2),(14,1),(15,2),(16,2),(17,2),(18,2),(19,2),(20,1),(21,2),(22,2),(23,2)] ze5 kR ?_;refine yM I<|yM I<|pU I (iA aB aw I I b oM sL)<|pU I (fC ao I zT3 I b)<|pK I (aZ (e:=encCell) (o:=0) (u:=vi x.id) iT3 I a.rd f (by rw[← m]; rfl)) ?_;refine pU I (SU.eq (v':=vb false) (lS I I)<|ze4 vb<|zf9 U)<|yM I<|yJ I<|zb3 I (gT I I I dC) (SU.eq (v':=vb false) (gR I I)<|ze4 vb<|zf9 a5) dC<|yJ I<|yG I<|yG I<|yG I<|yG I<|yI I<|yG I<|yG I<|yG I<|yG I<|yG I<|yI I<|yG I<|zb3 I (gT I I I dC) (wF I I) dC<|pU I (wF I I)<|pN<|tN<|za1 I<|kP<|tN<|sW I<|lM I<|lM I<|lU (iA aB aw I I b oM sL) ?_;refine SL.K (SQ.elemA (e:=encCell) dT aw I a.rd f)<|lW (SO.call call212 I<|rz E g2 _ _ (am l) x rx hO Y.1 Z z a2) ?_;rintro _ _ _ ⟨rfl,rfl,rfl⟩;refine aT I<|sW I<|lU (nQ I I)<|tZ ?_;refine iP I (fun H=>?_) (fun H=>?_)
     ·rw[zg3 H] at hg;refine sW I<|lM I<|lU (iA aB aw I I b oM sL)<|lU (fC ao I zT3 I b)<|SL.K (aZ (e:=encCell) (o:=0) (u:=vi x.id) iT3 I a.rd f (by rw[← m]; rfl)) ?_;exact lM I<|lA I<|aT I<|rE<|bR<|tR<|tR<|bR<|tR<|dR (s':=s) uR<|ST.ret2 (.inl I) results161 I I ⟨by rw[w,hg]; rfl,rfl,n.trans k⟩
     ·rw[zg2 H] at hg;exact kP<|bN<|tN<|rG<|lM I<|yD I<|lA I<|SL.nil<|ST.again (i+1) sB I I ⟨oM,hg,fun _=>by rw[R]; omega⟩ oM
  ·have c3:(aa l).drop i=[]:=List.drop_eq_nil_of_le oM;rw[c3] at F;have B:iz (am l) (aa l) 0=none:=F;have c5:=(lp B).2;have b2:=bP c5;have J:=mi B;rw[B] at w;have L:aF l=(nq (aa l)<|aa l).getD (0,0):=w;refine xI<|tX<|tX<|bX<|tN<|sQ<|rZ<|aT I<|bK<|oP (ι:=Nat) (fun i=>[(1,pp b1 0),(4,.slice q rs.length d),(8,vi i)]) (fun _=>g2) (fun _=>pt b1 (.cells #[.slice p l.length c] 29 (0,0))::s)
    (fun i=>i≤rs.length∧nq (aa l) (aa l)=nq (aa l) ((aa l).drop i)) (fun i=>rs.length - i) 0
    sB rfl rfl ⟨zf8 _,rfl⟩ ?_
   rintro j ⟨hj,D⟩;refine sQ<|sW I<|lM I<|lU (eN aB I)<|yL I<|tZ<|iP I (fun b3=>?_) (fun b3=>?_)
   ·have V:j<(aa l).length:=oM;have b4:j<rs.length:=oM;have b:=a.based oM;have z:=t.get (List.getElem?_eq_getElem V)<|List.getElem?_eq_getElem b4;have f:rs[((j:Nat):Int).toNat]?=some rs[j]:=List.getElem?_eq_getElem b4;have A:(aa l).drop j=(aa l)[j]::(aa l).drop (j+1):=zg8 V;have b5:(aa l)[j]∈aa l:=gM V;rw[A] at D;generalize (aa l)[j]=x at *;generalize rs[j]=rx at *;obtain ⟨m,N,T⟩:=z;have z:an g2 x rx:=⟨m,N,T⟩;have M:=AN J b5;have C:=m0<|J x b5;rw[b2] at M C;refine kP<|tN<|sQ<|bK<|sQ<|sW I<|lM I<|lU (iA aB aw I I b oM sL)<|lU (fC ao I zT3 I b)<|SL.K (aZ (e:=encCell) (o:=1) (u:=vi x.dim) iT3 I a.rd f (by rw[← N]; rfl)) ?_;refine yL I<|tZ<|iP I (fun c6=>?_) (fun c6=>?_)
    ·exact xI<|tX<|bX<|tN<|rG<|lM I<|yD I<|lA I<|SL.nil<|ST.again (j+1) sB I I ⟨oM,by rw[D,nq,zg2 (fun h=>by omega)]⟩ oM
    ·refine kP<|tN<|sW I<|lM I<|lM I<|lU (iA aB aw I I b oM sL)<|SL.K (SQ.elemA (e:=encCell) dT aw I a.rd f)<|lW (SO.call call213 I<|wH E g2 _ _ (aa l) x rx b7 X.1 b6 z M.1 C<|fun y hy=>(M.2.2 y hy).1) ?_;rintro _ _ _ ⟨rfl,rfl,rfl⟩;refine aT I<|sW I<|lU (nQ I I)<|tZ<|iP I (fun H=>?_) (fun H=>?_)
     ·refine sW I<|lM I<|lU (iA aB aw I I b oM sL)<|lU (fC ao I zT3 I b)<|SL.K (aZ (e:=encCell) (o:=0) (u:=vi x.id) iT3 I a.rd f (by rw[← m]; rfl)) ?_;exact lM I<|lA I<|aT I<|rE<|bR<|tR<|tR<|bR<|tR<|dR (s':=s) uR<|ST.ret2 (.inl I) results161 I I ⟨by rw[L,D,nq,zg3 ⟨oM,H⟩]; rfl,rfl,n.trans k⟩
     ·exact kP<|bN<|tN<|rG<|lM I<|yD I<|lA I<|SL.nil<|ST.again (j+1) sB I I ⟨oM,by rw[D,nq,zg2 (fun h=>H h.2)]⟩ oM
   ·have c7:(aa l).drop j=[]:=List.drop_eq_nil_of_le oM;rw[c7] at D;exact xI<|tX<|tX<|bX<|tN<|rZ<|lA I<|aT I<|rE<|dR (s':=s) uR<|ST.ret2 (.inl I) results161 I I ⟨by rw[L,D]; rfl,rfl,n.trans k⟩
theorem dQ (E:World)(g:PH)(s:Own)(v:Value)(l:List Cl)(b:ai g v l)(c:aJ l) :
  Ctr Tryz.prog E 94 #[.agg #[v]] g s (fun r g' s'=>r=vb (decide ((aF l).2=0))∧s=s'∧Le g g'):=by
 refine zb2 (args:=[.agg #[v]]) func94 I ntmps94 (bE I)<|rZ (bW (bO I) fun b1=>?_);refine aT I<|rZ<|SL.K (qV 0 aj ae I I I)<|lW (SO.call call161 I<|mr E g _ _ l b c) ?_;rintro _ g1 _ ⟨rfl,rfl,a⟩;exact lM I<|yX I<|yX I<|lA I<|aT I<|sW I<|yE I<|aT I<|rE<|dR (s':=s) uR<|za8 (.inl I) results94 I ⟨I,I,a⟩
theorem vF {a b:List Int}(h:a.length≠b.length):decide (ar a b<0)=decide ((a.length:Int)<b.length):=by
 unfold ar
 rcases bA a.length b.length with ⟨c,e⟩ | ⟨c,e⟩ | ⟨c,e⟩
 ·rw[e]; simp; omega
 ·omega
 ·rw[e]; simp; omega
theorem gP {a b:List Int}(h:a.length=b.length):ar a b=ic a b:=by
 unfold ar
 rcases bA a.length b.length with ⟨c,e⟩ | ⟨c,e⟩ | ⟨c,e⟩
 ·omega
 ·rw[e]; simp
 ·omega
theorem vH {x y:Int}{a b:List Int}(h:x≠y):decide (ic (x::a) (y::b)<0)=decide (x<y):=by
 rw[decide_eq_decide];simp only[ic]
 rcases bA x y with ⟨c,e⟩ | ⟨c,e⟩ | ⟨c,e⟩
 ·rw[e]; simp; omega
 ·omega
 ·rw[e]; simp; omega
theorem vI {x y:Int}{a b:List Int}(h:x=y):ic (x::a) (y::b)=ic a b:=by
 simp only[ic]
 rcases bA x y with ⟨c,e⟩ | ⟨c,e⟩ | ⟨c,e⟩
 ·omega
 ·rw[e]; simp
 ·omega
theorem pZ (E:World)(g:PH)(s:Own)(v u:Value)(a b:List Int)(l:dp g v a)(m:dp g u b)(hl:a.length<1099511627776) :
  Ctr Tryz.prog E 165 #[v,u] g s (fun r g' s'=>r=vb (decide (ar a b<0))∧g=g'∧s=s'):=by
 obtain ⟨p,c,rfl⟩:=za4 l;obtain ⟨q,d,rfl⟩:=za4 m;refine zb2 (args:=[.slice p a.length c,.slice q b.length d]) func165 I ntmps165 (bE I)<|rZ<|aT I<|sQ<|sW I<|lU (eN az I)<|lM I<|lU (eN az I)<|lU (nQ I I)<|tZ<|iP I (fun n=>?_) (fun n=>?_)
 ·exact sW I<|lU (eN az I)<|lM I<|lU (eN az I)<|yL I<|aT I<|rE<|tR<|za8 (.inl I) results165 I ⟨by rw[vF oM],I,I⟩
 ·have i:a.length=b.length:=oM;have j:=gP i;refine kP<|tN<|sQ<|rZ<|aT I<|bK<|oP (ι:=Nat) (fun k=>[(0,.slice p a.length c),(1,.slice q b.length d),(5,vi k)]) (fun _=>g) (fun _=>s) (fun k=>k≤a.length∧ic a b=ic (a.drop k) (b.drop k)) (fun k=>a.length - k) 0
   sB rfl rfl ⟨zf8 _,by simp⟩ ?_
  rintro k ⟨x,e⟩;refine sQ<|sW I<|lM I<|lU (eN az I)<|yL I<|tZ<|iP I (fun o=>?_) (fun o=>?_)
  ·have f:k<a.length:=oM;have h:k<b.length:=oM;have t:=za6 l oM;have w:=za6 m oM;rw[zg8 f,zg8 h] at e;refine kP<|tN<|sQ<|bK<|sQ<|dW [] [(0,2),(1,2),(2,2),(3,1),(4,2),(5,2),(6,2),(7,1),(8,2)] ze5 kR<|yM I<|yM I<|pU I (iA az zT3 I I (by assumption) oM<|by (simp[slen]; omega)) ?_;refine pQ I (eB iT3 I (za7 l) (List.getElem?_eq_getElem f) I) dC ?_;refine yM I<|yM I<|pU I (iA az zT3 I I (by assumption) oM<|by (simp[slen]; omega)) ?_;refine pQ I (eB iT3 I (za7 m) (List.getElem?_eq_getElem h) I) dC ?_;refine pU I (nQ I I)<|pN<|tN ?_;refine iP I (fun hd=>?_) (fun hd=>?_)
   ·refine sQ<|dW [] [(0,2),(1,2),(2,2),(3,1),(4,2),(5,2),(6,2),(7,1),(8,2),(9,2)] ze5 kR<|yM I<|yM I<|pU I (iA az zT3 I I (by assumption) oM<|by (simp[slen]; omega)) ?_;refine pQ I (eB iT3 I (za7 l) (List.getElem?_eq_getElem f) I) dC ?_;refine yM I<|yM I<|pU I (iA az zT3 I I (by assumption) oM<|by (simp[slen]; omega)) ?_;refine pQ I (eB iT3 I (za7 m) (List.getElem?_eq_getElem h) I) dC ?_;refine pU I (lS I I)<|pU I (aS I)<|pN<|tN<|rE<|bR<|tR<|tR<|bR<|tR ?_;exact za8 (.inl I) results165 I ⟨by rw[j,e,vH hd],I,I⟩
   ·exact kP<|bN<|tN<|rG<|lM I<|yD I<|lA I<|SL.nil<|ST.again (k+1) sB I I ⟨oM,by rw[e,vI<|zh2 hd]⟩ oM
  ·rw[List.drop_eq_nil_of_le oM,List.drop_eq_nil_of_le oM] at e;exact xI<|tX<|tX<|bX<|tN<|rZ<|aT I<|rE<|za8 (.inl I) results165 I ⟨by rw[j,e]; rfl,rfl,rfl⟩
theorem qX (E:World)(g:PH)(s:Own)(v u:Value)(ls:List (List Int))(t:List Int)(Y:cU g v ls)(V:dp g u t)(hl:ls.length<1099511627776)(L:∀ x∈ls,x.length<1099511627776)(M:t.length<1099511627776)(W:tq ls) :
  Ctr Tryz.prog E 99 #[v,u] g s (fun r g' s'=>r = .tuple #[vi<|lbL ls t,vb<|ls.contains t]∧g=g'∧s=s'):=by
 obtain ⟨rs,a,b⟩:=Y;have X:=b.length;have d:=xL W t;obtain ⟨p,c,rfl⟩:=za4 a;refine zb2 (args:=[.slice p rs.length c,u]) func99 I ntmps99 (bE I)<|rZ<|lA I<|aT I<|rZ<|aT I<|sW I<|lU (eN eL I)<|aT I<|sQ<|bK<|oP (ι:=Nat×Nat) (fun q=>[(0,.slice p rs.length c),(1,u),(6,vi q.1),(7,vi q.2)]) (fun _=>g) (fun _=>s)
  (fun q=>q.1≤q.2∧q.2≤ls.length∧(∀ k (h:k<ls.length),k<q.1→ar ls[k] t<0)∧∀ k (h:k<ls.length),q.2≤k→¬ ar ls[k] t<0) (fun q=>q.2 - q.1) (0,ls.length)
  ⟨rfl,rfl,rfl,bD oM,trivial⟩ rfl rfl ⟨zf8 _,Nat.le_refl _,fun k _ h=>absurd h oM,fun k N y=>absurd N (by dsimp only at y; omega)⟩ ?_
 rintro ⟨i,j⟩ ⟨O,P,e,f⟩;dsimp only at O P e f ⊢;refine sQ<|sW I<|lM I<|yL I<|tZ<|iP I (fun Q=>?_) (fun Q=>?_)
 ·have z:=a.based oM;have l:(i+j) / 2<ls.length:=oM;have D:(i+j) / 2<rs.length:=oM;have A:rs[((((i+j) / 2:Nat):Int)).toNat]?=some rs[(i+j) / 2]:=List.getElem?_eq_getElem D;have R:=b.get (List.getElem?_eq_getElem l)<|List.getElem?_eq_getElem D;have S:=L _<|gM l;refine kP<|tN<|bK<|sW I<|lM I<|yD I<|lU (SU.eq (v':=vi (((i+j) / 2:Nat):Int)) (SU.quo I I dC)<|ze4 vi (by rw[← Int.natCast_add]; exact md _ oM)) ?_;refine aT I<|sW I<|lM I<|lU (iA eL fY I I z oM sL)<|SL.K (eB hZ I a.rd A I)<|lM I<|lW (SO.call call165 I<|pZ E g _ _ _ ls[(i+j) / 2] t R V S) ?_;rintro _ _ _ ⟨rfl,rfl,rfl⟩;refine tZ<|iP I (fun F=>?_) (fun F=>?_)
  ·refine rG<|lM I<|yD I<|lA I<|SL.nil<|bN<|ST.again ((i+j) / 2+1,j) sB I I ⟨lN,P,fun k w h=>?_,f⟩ lN;dsimp only at h
   rcases Nat.eq_or_lt_of_le (show k≤(i+j) / 2 by omega) with rfl | m
   ·exact F
   ·exact d k ((i+j) / 2) w l m F
  ·refine rG<|lM I<|lA I<|SL.nil<|bN<|ST.again (i,(i+j) / 2) sB I I ⟨lN,lN,e,fun k w h=>?_⟩ lN;dsimp only at h
   rcases Nat.eq_or_lt_of_le (show (i+j) / 2≤k by omega) with m | m
   ·subst m; exact F
   ·exact fun Z=>F<|d ((i+j) / 2) k l w m Z
 ·have T:i=j:=oM;subst T;have G:lbL ls t=i:=Em P (fun k h m=>by simpa using e k h m) (fun k h m=>by simpa using f k h m);by_cases H:(i:Int)<(rs.length:Int)
  ·have n:i<ls.length:=oM;have J:i<rs.length:=oM;have z:=a.based oM;have A:rs[((i:Nat):Int).toNat]?=some rs[i]:=List.getElem?_eq_getElem J;have R:=b.get (List.getElem?_eq_getElem n)<|List.getElem?_eq_getElem J;have o:(!decide (ar t ls[i]<0))=ls.contains t:=by
    have N:=f i n<|Nat.le_refl _;by_cases y:ar t ls[i]<0
    ·rw[zg1 y];symm;rw[Bool.not_true,← zj9];intro hm;have B:t∈ls:=by simpa using hm
     obtain ⟨k,w,rfl⟩:=zc8 B
     rcases Nat.lt_trichotomy k i with C | C | C
     ·have:=e k w C; rw[cH] at this; omega
     ·subst C; rw[cH] at y; omega
     ·exact zd1.1 W i k n w C y
    ·rw[zf9 y];have C:t=ls[i]:=by
      rcases dY t ls[i] with h | h | h
      ·exact absurd h y
      ·exact h
      ·exact absurd h N
     symm;rw[Bool.not_false];have:t∈ls:=by rw[C]; exact gM n
     simpa using this
   refine xI<|tX<|tX<|bX<|tN<|sW I<|lM I<|lM I<|lU (eN eL I)<|lU (SU.eq (v':=vb true) (lS I I)<|ze4 vb<|zg1 H)<|lM I<|yC I<|yC I<|yC I<|lY I I I (iA eL fY I I z oM sL)<|SL.gq (gT I I I dC) (eB hZ I a.rd A I) dC<|ze3 (gT I I I dC) (SO.call call165 I<|pZ E g _ _ _ t ls[i] V R M) dC ?_;rintro _ _ _ ⟨rfl,rfl,rfl⟩;exact lY I I I (SU.not I)<|yP I<|lA I<|aT I<|rE<|ST.ret2 (.inl I) results99 I I ⟨by rw[G,← o],I,I⟩
  ·have U:ls.contains t=false:=by
    rw[← zj9];intro hm;have B:t∈ls:=by simpa using hm
    obtain ⟨k,w,rfl⟩:=zc8 B;have:=e k w oM;rw[cH] at this;omega
   exact xI<|tX<|tX<|bX<|tN<|sW I<|lM I<|lM I<|lU (eN eL I)<|lU (SU.eq (v':=vb false) (lS I I)<|ze4 vb<|zf9 H)<|lM I<|yA I<|yA I<|yA I<|yA I<|yA I<|yA I<|yA I<|yF I<|lA I<|aT I<|rE<|ST.ret2 (.inl I) results99 I I ⟨by rw[G,U],I,I⟩
abbrev ec (l:List Int):Prop:=l.Pairwise (· < ·)
theorem mo:∀ {l m:List Int},ec l→ec m→(∀ x,x∈l↔x∈m)→l=m
 | [],[],_,_,_=>rfl
 | [],y::m,_,_,h=>by have:=(h y).2 (by simp); simp at this
 | x::l,[],_,_,h=>by have:=(h x).1 (by simp); simp at this
 | x::l,y::m,hl,hm,h=>by
  obtain ⟨c,f⟩:=zk5.1 hl;obtain ⟨d,g⟩:=zk5.1 hm;have b:x=y:=by
   rcases zf3.1 ((h x).1<|by simp) with e | i
   ·exact e
   ·rcases zf3.1 ((h y).2<|by simp) with e | j
    ·exact e.symm
    ·have:=d x i; have:=c y j; omega
  subst b;rw[mo f g fun z=>?_];constructor
  ·intro hz
   rcases zf3.1 ((h z).1<|by simp[hz]) with e | a
   ·have:=c z hz; omega
   ·exact a
  ·intro hz
   rcases zf3.1 ((h z).2<|by simp[hz]) with e | a
   ·have:=d z hz; omega
   ·exact a
theorem jr:∀ {x:Int} {l:List Int},(x::l).Pairwise (· ≤ ·)→ec (bg (fun a b:Int=>decide (a=b)) x l)∧(∀ y∈bg (fun a b:Int=>decide (a=b)) x l,x<y)∧∀ y,y∈l→y=x∨y∈bg (fun a b:Int=>decide (a=b)) x l
 | x,[],_=>⟨List.Pairwise.nil,by simp[bg],by simp⟩
 | x,y::r,h=>by
  obtain ⟨c,d⟩:=zk5.1 h;obtain ⟨i1,i2,i3⟩:=jr d;have f:=c y (by simp);unfold bg;by_cases e:y=x
  ·subst e;simp only[decide_true,if_true];refine⟨i1,i2,fun z hz=>?_⟩
   rcases zf3.1 hz with rfl | hz
   ·exact .inl I
   ·exact i3 z hz
  ·simp only[e,decide_false];refine⟨zk5.2 ⟨i2,i1⟩,fun z hz=>?_,fun z hz=>?_⟩
   ·rcases zf3.1 hz with rfl | hz
    ·omega
    ·have:=i2 z hz; omega
   ·rcases zf3.1 hz with rfl | hz
    ·exact .inr (by simp)
    ·rcases i3 z hz with rfl | h
     ·exact .inr (by simp)
     ·exact .inr (by simp[h])
theorem j9 (l:List Int):(eU l).Pairwise (· ≤ ·):=by
 have:=List.pairwise_mergeSort (le:=fun x y:Int=>decide (x≤y)) (fun a b c d e=>by simp at *; omega) (fun a b=>by simp; omega) l;exact this.imp fun h=>by simpa using h
theorem lg (l:List Int):ec (dA l):=by
 have a:=j9 l;unfold dA;cases h:eU l with
 | nil=>exact List.Pairwise.nil
 | cons x r =>
  rw[h] at a;obtain ⟨b,c,_⟩:=jr a;exact zk5.2 ⟨c,b⟩
theorem nM (l:List Int)(y:Int):y∈dA l↔y∈l:=by
 have a:=j9 l;have c:=qQ l;rw[← c.mem_iff];unfold dA;refine⟨fun h=>(sf _ _).subset h,fun h=>?_⟩;cases b:eU l with
 | nil=>rw[b] at h; simp at h
 | cons x r =>
  rw[b] at a h
  rcases zf3.1 h with rfl | h
  ·simp[iT]
  ·rcases (jr a).2.2 y h with rfl | h
   ·simp[iT]
   ·simp[iT,h]
theorem E2 {l out:List Int}(a:ec out)(hm:∀ x,x∈out↔x∈l):out=dA l:=mo a (lg l) fun x=>by rw[hm,nM]
theorem BF {a b:List Int}(c:ec a)(h:∀ x∈a,x∈b):a.length≤b.length:=sH (c.imp fun h=>by omega) h
def okS (l:List Int):Bool:=!(l.any fun x=>decide (x<0))&&decide ((dA l).length≤9)
theorem Fh {l:List Int}(h:okS l=false):jC (dA l)=true:=by
 unfold okS at h;rw[Bool.and_eq_false_iff] at h;cases b:dA l with
 | nil=>rfl
 | cons a r =>
  unfold jC
  rcases h with h | h
  ·simp only[Bool.not_eq_false',zk1,zj7] at h;obtain ⟨x,e,f⟩:=h;have c:=(nM l x).2 e;rw[b] at c;have d:=lg l;rw[b] at d;have:a≤x:=by
    rcases zf3.1 c with rfl | g
    ·omega
    ·have:=(zk5.1 d).1 x g; omega
   simp;omega
  ·rw[b] at h;simp at h ⊢;omega
theorem Dw {l:List Int}(h:okS l=true):(dA l).length≤9∧(jC (dA l)=true→dA l=[]):=by
 unfold okS at h;simp only[zj5,Bool.not_eq_true',zj7] at h;refine⟨h.2,fun hb=>?_⟩;cases b:dA l with
 | nil=>rfl
 | cons a r =>
  rw[b] at hb;unfold jC at hb;rw[b] at h;simp at hb;have c:a∈l:=(nM l a).1 (by rw[b]; simp);have d:=zk7.1 h.1 a c;simp at d;have e:=h.2;simp at e;omega
theorem zV {out:List Int}{x:Int}{k:Nat}(d:ec out)(e:∀ y∈out.take k,y<x)(f:∀ y∈out.drop k,x<y):ec (out.take k++x::out.drop k):=by
 have a:ec (out.take k++out.drop k):=by rw[zj4]; exact d
 have b:=List.pairwise_append.1 a;refine List.pairwise_append.2 ⟨b.1,zk5.2 ⟨f,b.2.1⟩,fun y c z hz=>?_⟩
 rcases zf3.1 hz with rfl | hz
 ·exact e y c
 ·exact b.2.2 y c z hz
theorem A8 {α:Type}{out:List α}{x y:α}{k:Nat}:y∈out.take k++x::out.drop k↔y=x∨y∈out:=by
 rw[zf5,zf3];constructor
 ·rintro (h | h | h)
  ·exact .inr<|List.mem_of_mem_take h
  ·exact .inl h
  ·exact .inr<|List.mem_of_mem_drop h
 ·rintro (h | h)
  ·exact .inr<|.inl h
  ·rw[← zj4 k out] at h
   rcases zf5.1 h with h | h
   ·exact .inl h
   ·exact .inr<|.inr h
theorem o9 {out:List Int}{c:Int}{k:Nat}(e:ec out)(b:k<out.length)(h:c≤out[k]):∀ y∈out.drop k,c≤y:=by
 rw[zg8 b];intro y a;have d:ec (out.drop k):=List.Pairwise.sublist (List.drop_sublist k out) e;rw[zg8 b] at d
 rcases zf3.1 a with rfl | a
 ·exact h
 ·have:=(zk5.1 d).1 y a;omega
theorem Dj (E:World)(g:PH)(s:Own)(v:Value)(l:List Int)(hv:dp g v l)(hl:l.length<17592186044416) :
  Ctr Tryz.prog E 98 #[v] g s (fun r g' s'=>s=s'∧Le g g'∧((okS l=true∧∃ u,r = .tuple #[u,vb true]∧dp g' u (dA l))∨(okS l=false∧r = .tuple #[.slice none 0 0,vb false]))):=by
 obtain ⟨p,c,rfl⟩:=za4 hv;refine zb2 (args:=[.slice p l.length c]) func98 I ntmps98 (bE I)<|rZ<|lA I<|aT I<|rZ<|aT I<|sQ<|rZ<|aT I<|bK<|oP (ι:=PH×Value×List Int×Nat) (fun i=>[(0,.slice p l.length c),(4,i.2.1),(5,vi i.2.2.2)]) (fun i=>i.1) (fun _=>s)
  (fun i=>Le g i.1∧dp i.1 i.2.1 i.2.2.1∧i.2.2.2≤l.length∧ec i.2.2.1∧(∀ x,x∈i.2.2.1↔x∈l.take i.2.2.2)∧((l.take i.2.2.2).any (fun x=>decide (x<0))=false∧i.2.2.1.length≤9)) (fun i=>l.length - i.2.2.2)
  (g,.slice none 0 0,[],0) sB rfl rfl ⟨zb9 g,zc1 g _,zf8 _,List.Pairwise.nil,by simp,by simp,by simp⟩ ?_
 rintro ⟨g1,ov,a,i⟩ ⟨j,f,hi,t,z,A,h9⟩;dsimp only at j f hi t z A h9 ⊢;obtain ⟨q,d,rfl⟩:=za4 f;have c3:=(SlA.cap f).2;refine sQ<|sW I<|lM I<|lU (eN az I)<|yL I<|tZ<|iP I (fun b2=>?_) (fun b2=>?_)
 ·have T:i<l.length:=oM;have N:=za6 (hv.mono j) oM;have O:l[((i:Nat):Int).toNat]?=some l[i]:=List.getElem?_eq_getElem T;have P:l.take (i+1)=l.take i++[l[i]]:=tS T;have b3:l[i]∈l:=gM T;generalize l[i]=x at *;refine kP<|tN<|sQ<|bK<|rZ<|aT I<|SC.cut (ι:=Nat) (fun k=>[(0,.slice p l.length c),(4,.slice q a.length d),(5,vi i),(6,vi k)]) (fun _=>g1) (fun _=>s) (fun k=>k≤a.length∧(∀ y∈a.take k,y<x)∧∀ y∈a.drop k,x≤y) ?_ ?_
  ·refine bK<|oP (ι:=Nat) (fun k=>[(0,.slice p l.length c),(4,.slice q a.length d),(5,vi i),(6,vi k)]) (fun _=>g1) (fun _=>s) (fun k=>k≤a.length∧∀ y∈a.take k,y<x) (fun k=>a.length - k) 0
    sB rfl rfl ⟨zf8 _,by simp⟩ ?_
   rintro k ⟨hk,D⟩;by_cases a4:(k:Int)<(a.length:Int)
   ·have U:k<a.length:=oM;have V:=za6 f oM;refine sQ<|sQ<|dW [] [(0,2),(1,2),(2,2),(3,2),(4,2),(5,2),(6,2),(7,2),(8,1),(9,2),(10,2),(11,2),(12,1),(13,2),(14,2)] ze5 kR<|yM I<|yM I<|pU I (eN az I)<|pU I (SU.eq (v':=vb true) (lS I I)<|ze4 vb<|zg1 a4)<|yM I<|yJ I<|yJ I<|zb3 I (gT I I I dC) (iA az zT3 I I V oM sL) dC<|SP.gq I (gT I I I dC) (eB iT3 I (za7 f) (List.getElem?_eq_getElem U) I) dC ?_;refine yJ I<|yJ I<|zb3 I (gT I I I dC) (iA az zT3 I I N oM sL) dC<|SP.gq I (gT I I I dC) (eB iT3 I (za7<|hv.mono j) O I) dC<|zb3 I (gT I I I dC) (lS I I) dC<|pU I (wT I I)<|pN<|tN<|iP I (fun hc=>?_) (fun hc=>?_)
    ·refine kP (tN (bK (rG (lM I (yD I (lA I (SL.nil (bN ?_))))))));exact ST.again (k+1) sB I I ⟨oM,by
      rw[tS U];intro y hy
      rcases zf5.1 hy with h | h
      ·exact D y h
      ·simp at h; subst h; exact hc⟩ oM
    ·exact xI<|tX<|tX<|bX<|za9 k sB I I ⟨hk,D,o9 t U oM⟩
   ·exact sQ<|sQ<|dW [] [(0,2),(1,2),(2,2),(3,2),(4,2),(5,2),(6,2),(7,2),(8,1),(9,2),(10,2),(11,2),(12,1),(13,2),(14,2)] ze5 kR<|yM I<|yM I<|pU I (eN az I)<|pU I (SU.eq (v':=vb false) (lS I I)<|ze4 vb<|zf9 a4)<|yM I<|yG I<|yG I<|yG I<|yI I<|yG I<|yG I<|yG I<|yI I<|yG I<|pU I (wF I I)<|pN<|tN<|za1 I<|xI<|tX<|tX<|bX<|za9 k sB I I ⟨hk,D,by rw[List.drop_eq_nil_of_le oM]; simp⟩
  ·rintro k ⟨hk,W,a5⟩;have X:x∈a→∀ y,y∈a↔y∈l.take (i+1):=fun h y=>by
    rw[P,zf5,← z];constructor
    ·exact .inl
    ·rintro (h' | h')
     ·exact h'
     ·simp at h'; rw[h']; exact h
   have Y:x∈a→(l.take<|i+1).any (fun x=>decide (x<0))=false:=fun h=>by
    have Z:=zk7.1 A x<|(z x).1 h;rw[P,List.any_append,A];simpa using Z
   have G:(∀ y∈a.drop k,x<y)→ec (a.take k++x::a.drop k)∧∀ y,y∈a.take k++x::a.drop k↔y∈l.take (i+1):=fun h=>⟨zV t W h,fun y=>by
    rw[A8,P,zf5,← z];simp;exact or_comm⟩
   have a9:=SlA.cut f (l:=k) (m:=a.length) hk<|Nat.le_refl _;have b0:=SlA.cut f (l:=0) (m:=k) (zf8 _) hk;rw[tL (by rw[zf2]; exact Nat.le_refl _)] at a9;rw[List.drop_zero,Nat.sub_zero] at b0;have c5:(a.take k++x::a.drop k).length=a.length+1:=lN;obtain ⟨nw,c6⟩:∃ nw,nw=a.take k++x::a.drop k:=⟨_,rfl⟩;have a0:x<0→okS l=false:=fun h=>by
    unfold okS;have:l.any (fun x=>decide (x<0))=true:=zk1.2 ⟨x,b3,by simpa using h⟩;rw[this]; rfl
   have a1:(∀ y∈a.drop k,x<y)→9<(a.take k++x::a.drop k).length→okS l=false:=fun h h'=>by
    obtain ⟨Z,H⟩:=G h;have h3:=BF Z (b:=dA l) (fun y hy=>by rw[nM]; exact List.mem_of_mem_take<|(H y).1 hy);unfold okS;have:decide ((dA l).length≤9)=false:=zf9 oM;rw[this]; simp
   have b4:∀ g3 q3 d3,(∀ y∈a.drop k,x<y)→Le g g3→dp g3 (.slice q3 (a.take k++x::a.drop k).length d3) (a.take k++x::a.drop k)→¬ x<0→(a.take k++x::a.drop k).length≤9 →
     Le g g3∧dp g3 (.slice q3 (a.take k++x::a.drop k).length d3) (a.take k++x::a.drop k)∧i+1≤l.length∧ec (a.take k++x::a.drop k)∧(∀ y,y∈a.take k++x::a.drop k↔y∈l.take (i+1))∧((l.take<|i+1).any (fun x=>decide (x<0))=false∧(a.take k++x::a.drop k).length≤9):=fun g3 q3 d3 Z H h3 h4 h5 =>
    ⟨H,h3,oM,(G Z).1,(G Z).2,by rw[P,List.any_append,A]; simpa using h4,h5⟩
   have b5:a.contains x=false→∀ y∈a.drop k,x<y:=fun h y hy=>by
    have Z:=a5 y hy;have H:y≠x:=fun e=>by
     have:a.contains x=true:=by rw[← e]; simpa using List.mem_of_mem_drop hy
     rw[h] at this; cases this
    omega
   have J:(k:Int)<(a.length:Int)→a[((k:Nat):Int).toNat]?=some (a.getD k 0):=fun h=>by
    have H:k<a.length:=oM;rw[show ((k:Nat):Int).toNat=k by omega,List.getElem?_eq_getElem H,zh3,List.getElem?_eq_getElem H]; rfl
   have hA:(k:Int)<(a.length:Int)→a.contains x=decide (a.getD k 0=x):=fun h=>by
    have H:k<a.length:=oM;rw[zh3,List.getElem?_eq_getElem H,Option.getD_some,Bool.eq_iff_iff,zj8];constructor
    ·intro hm;have L:x∈a:=by simpa using hm
     rw[← zj4 k a] at L
     rcases zf5.1 L with h3 | h3
     ·have:=W x h3; omega
     ·have h4:=a5 _ (by rw[zg8 H]; exact List.mem_cons_self:a[k]∈a.drop k);have h5:=o9 t H (Int.le_refl a[k]) x h3;omega
    ·intro e;rw[← e];simp
   have hB:¬ (k:Int)<(a.length:Int)→a.contains x=false:=fun h=>by
    rw[← zj9];intro hm;have L:x∈a:=by simpa using hm
    rw[← zj4 k a,List.drop_eq_nil_of_le oM,zc7] at L;have:=W x L;omega
   have V:=fun h=>za6 f h;generalize a.getD k 0=yk at J hA;obtain ⟨nl,c2⟩:∃ nl,nl=(a.take k++x::a.drop k).length:=⟨_,rfl⟩;have f1:x<0→(decide (x<0)||decide ((((a.take k++x::a.drop k).length:Nat):Int)>9))=true:=fun h=>by simp[h]
   have f2:¬ x<0→(decide (x<0)||decide ((((a.take k++x::a.drop k).length:Nat):Int)>9))=decide ((((a.take k++x::a.drop k).length:Nat):Int)>9):=fun h=>by simp only[h,decide_false,Bool.false_or]
   refine sQ<|SC.cutB 45 ((a.contains x)) ?_ ?_
   ·refine dW [] [(0,2),(1,2),(2,2),(3,2),(4,2),(5,2),(6,2),(7,2),(8,1),(9,2),(10,2),(11,2),(12,1),(13,2),(14,2)] ze5 kR<|yM I<|yM I<|pU I (eN az I)<|pU I (lS I I)<|yM I<|SP.split ?_ ?_
    ·intro Q;exact yJ I<|yJ I<|zb3 I (gT I I I dC) (iA az zT3 I I (V oM) oM sL) dC<|SP.gq I (gT I I I dC) (eB iT3 I (za7 f) (J Q) I) dC<|yJ I<|yJ I<|zb3 I (gT I I I dC) (iA az zT3 I I N oM sL) dC<|SP.gq I (gT I I I dC) (eB iT3 I (za7<|hv.mono j) O I) dC<|zb3 I (gT I I I dC) (eQ I I) dC<|pU I (wT I I)<|pN<|zb1 (by (rw[hA Q]; rfl)) mI
    ·intro Q;exact yG I<|yG I<|yG I<|yI I<|yG I<|yG I<|yG I<|yI I<|yG I<|pU I (wF I I)<|pN<|zb1 (by (rw[hB Q]; rfl)) mI
   refine iQ I (fun B=>?_) (fun B=>?_)
   ·have b1:x∈a:=by simpa using B
    exact xI<|tX<|bX<|tN<|rG<|lM I<|yD I<|lA I<|SL.nil<|ST.again (g1,_,a,i+1) sB I I ⟨j,f,lN,t,X b1,Y b1,h9⟩ lN
   ·have hg:=b5 B;refine kP<|tN<|sQ<|dW [8] [(0,2),(1,2),(2,2),(3,1),(5,2),(6,2),(7,2),(4,0),(8,0),(9,2)] ze5 kR<|yM I<|yM I<|pU I (iA az zT3 I I N oM sL)<|pK I (eB iT3 I (za7<|hv.mono j) O I)<|yM I<|yM I<|pU I (SU.sliceL az zT3 I I oM oM)<|SP.o I (bS sty52 I I I (ab ⟨I,trivial⟩) dC) dC (.inr iR) ?_;rintro _ _ _ ⟨c7,rfl,rfl,rfl⟩;refine SP.to (fun w hw=>At.litRow (e:=encInt) (l:=[x]) (n:=0) hw I I dC) ?_;refine SP.o I (aQ (e:=encInt) 0 sty52 I I I a9 (by rw[zf2]; (first | with_reducible rfl | ((try dsimp only); (try simp only[ze7,zf1,zc5,ze9,ze6,zf2])<;>omega))) (by rw[zf2]; (first | with_reducible rfl | ((try dsimp only); (try simp only[ze7,zf1,zc5,ze9,ze6,zf2])<;>omega)))) dC (.inl dC) ?_;rintro v54 _ _ ⟨rfl,rfl⟩;refine pU I (aS I) (pN<|tN<|sQ<|fS fun g2 F b6=>?_);have a2:dp g2 v54 ([x]++a.drop k):=b6;refine rG<|lW (bS sty52 I I I (ab trivial) dC) ?_;rintro _ _ _ ⟨b7,rfl,rfl,rfl⟩;refine SL.emptyRow 3 1 (some ⟨b7,0,none⟩)<|lM I<|lM I<|lU (SU.sliceH az zT3 I I oM oM)<|lW (aQ (e:=encInt) (l:=[]) 0 sty52 I I I (b0.mono F) (by rw[ze6]; (first | with_reducible rfl | ((try dsimp only); (try simp only[ze7,zf1,zc5,ze9,ze6,zf2])<;>omega))) (by rw[ze6]; (first | with_reducible rfl | ((try dsimp only); (try simp only[ze7,zf1,zc5,ze9,ze6,zf2])<;>omega)))) ?_;rintro v59 _ _ ⟨rfl,rfl⟩;refine lM I<|lW (aQ (e:=encInt) 0 sty52 I I I a2 lN lN) ?_;rintro v61 _ _ ⟨rfl,rfl⟩;refine aT I (fS fun g3 M b8=>?_);have R:dp g3 v61 (a.take k++x::a.drop k):=(by have h:dp g3 v61 ([]++a.take k++([x]++a.drop k)):=b8; simpa using h);refine SC.drop (s':=s) (.cons _<|.refl _) ?_;obtain ⟨q3,d3,rfl⟩:=za4 R;refine SC.sub (f':=[(0,.slice p l.length c),(4,.slice q3 (a.take k++x::a.drop k).length d3),(5,vi i)]) sB ?_;refine SC.cutB 71 ((decide (x<0)||decide ((((a.take k++x::a.drop k).length:Nat):Int)>9))) ?_ ?_
    ·refine rG<|lM I<|lM I<|lU (iA az zT3 I I N oM sL)<|SL.K (eB iT3 I (za7<|hv.mono<|j.trans<|F.trans M) O I)<|yL I<|lM I<|sP ?_ ?_
     ·intro a3;exact yA I<|yA I<|yA I<|yP I<|SL.nil<|zb1 (by (rw[f1 a3]; rfl)) mI
     ·intro a3;exact yC I<|lY I I I (eN az I)<|lY I I I (gR I I)<|yF I<|SL.nil<|zb1 (by (rw[f2 a3]; rfl)) mI
    refine iQ I (fun C=>?_) (fun C=>?_)
    ·have b9:okS l=false:=by
      rw[zj6,zj8,zj8] at C
      rcases C with h | h
      ·exact a0 h
      ·exact a1 hg oM
     exact rZ<|lA I<|aT I<|rE<|bR<|tR<|tR<|bR<|tR<|ST.ret2 (.inl I) results98 I I ⟨I,j.trans<|F.trans M,.inr ⟨b9,I⟩⟩
    ·rw[Bool.or_eq_false_iff,decide_eq_false_iff_not,decide_eq_false_iff_not] at C;exact kP<|bN<|tN<|rG<|lM I<|yD I<|lA I<|SL.nil<|ST.again (g3,_,a.take k++x::a.drop k,i+1) sB I I (b4 g3 q3 d3 hg (j.trans<|F.trans M) R C.1 oM) lN
 ·have c0:l.take i=l:=tL oM;rw[c0] at z A;have S:=E2 t z;have c1:okS l=true:=by unfold okS; rw[A,← S]; simpa using h9
  exact xI<|tX<|tX<|bX<|tN<|sW I<|lA I<|aT I<|rE<|ST.ret2 (.inl I) results98 I I ⟨I,j,.inl ⟨c1,_,I,by rw[← S]; exact f⟩⟩
abbrev e6 (l:List (List Int)):Prop:=l.Pairwise fun a b=>ar a b<0
theorem iJ {a b:List Int}(h:ar a b<0):¬ ar b a<0:=by have:=je a b; omega
theorem e6.srt {l:List (List Int)}(h:e6 l):tq l:=h.imp fun h=>iJ h
theorem iH:∀ {l m:List (List Int)},e6 l→e6 m→(∀ x,x∈l↔x∈m)→l=m
 | [],[],_,_,_=>rfl
 | [],y::m,_,_,h=>by have:=(h y).2 (by simp); simp at this
 | x::l,[],_,_,h=>by have:=(h x).1 (by simp); simp at this
 | x::l,y::m,hl,hm,h=>by
  obtain ⟨d,g⟩:=zk5.1 hl;obtain ⟨f,i⟩:=zk5.1 hm;have c:x=y:=by
   rcases zf3.1 ((h x).1<|by simp) with e | j
   ·exact e
   ·rcases zf3.1 ((h y).2<|by simp) with e | k
    ·exact e.symm
    ·exact absurd (d y k)<|iJ<|f x j
  subst c;have a:¬ ar x x<0:=by rw[cH]; decide
  rw[iH g i fun z=>?_];constructor
  ·intro hz
   rcases zf3.1 ((h z).1<|by simp[hz]) with e | b
   ·subst e; exact absurd (d z hz) a
   ·exact b
  ·intro hz
   rcases zf3.1 ((h z).2<|by simp[hz]) with e | b
   ·subst e; exact absurd (f z hz) a
   ·exact b
theorem iD:∀ {x:List Int} {l:List (List Int)},tq (x::l)→e6 (bg eqL x l)∧(∀ y∈bg eqL x l,ar x y<0)∧∀ y,y∈l→y=x∨y∈bg eqL x l
 | x,[],_=>⟨List.Pairwise.nil,by simp[bg],by simp⟩
 | x,y::r,h=>by
  obtain ⟨c,d⟩:=zk5.1 h;obtain ⟨i1,i2,i3⟩:=iD d;have b:=c y (by simp);unfold bg;by_cases e:y=x
  ·subst e;simp only[eqL,decide_true,if_true];refine⟨i1,i2,fun z hz=>?_⟩
   rcases zf3.1 hz with rfl | hz
   ·exact .inl I
   ·exact i3 z hz
  ·have a:ar x y<0:=by
    rcases dY x y with h | h | h
    ·exact h
    ·exact absurd h.symm e
    ·exact absurd h b
   simp only[eqL,e,decide_false];refine⟨zk5.2 ⟨i2,i1⟩,fun z hz=>?_,fun z hz=>?_⟩
   ·rcases zf3.1 hz with rfl | hz
    ·exact a
    ·exact eP _ _ _ a<|i2 z hz
   ·rcases zf3.1 hz with rfl | hz
    ·exact .inr (by simp)
    ·rcases i3 z hz with rfl | h
     ·exact .inr (by simp)
     ·refine .inr ?_;simp;exact .inr h
theorem kT (all:List (List Int))(t:List Int):e6 (eI all t):=by
 have a:=jI<|all++bL t;unfold eI;cases h:om (all++bL t) with
 | nil=>exact List.Pairwise.nil
 | cons x r =>
  rw[h] at a;obtain ⟨b,c,_⟩:=iD a;exact zk5.2 ⟨c,b⟩
theorem jq (all:List (List Int))(t x:List Int):x∈eI all t↔x∈all∨x∈bL t:=by
 refine⟨lr,fun h=>?_⟩;have a:=jI<|all++bL t;have hm:x∈om (all++bL t):=(iX _).symm.subset<|zf5.2 h;unfold eI;cases b:om (all++bL t) with
 | nil=>rw[b] at hm; simp at hm
 | cons y r =>
  rw[b] at a hm
  rcases zf3.1 hm with rfl | hm
  ·simp[iT]
  ·rcases (iD a).2.2 x hm with rfl | h
   ·simp[iT]
   ·simp[iT,h]
theorem oH:∀ {l:List (List Int)} (t:List Int),tq l→(∀ y∈l.take (lbL l t),ar y t<0)∧∀ y∈l.drop (lbL l t),¬ ar y t<0
 | [],t,_=>⟨by simp,by simp⟩
 | a::r,t,e=>by
  obtain ⟨f,g⟩:=zk5.1 e;obtain ⟨i1,i2⟩:=oH t g;by_cases d:ar a t<0
  ·have hl:lbL (a::r) t=lbL r t+1:=by simp[lbL,d]
   rw[hl,List.take_succ_cons,List.drop_succ_cons];refine⟨fun y b=>?_,i2⟩
   rcases zf3.1 b with rfl | b
   ·exact d
   ·exact i1 y b
  ·have c:∀ y∈a::r,¬ ar y t<0:=fun y b=>by
    rcases zf3.1 b with rfl | b
    ·exact d
    ·exact ii y a t (f y b) d
   have hz:lbL (a::r) t=0:=by
    unfold lbL;rw[List.length_eq_zero_iff,List.filter_eq_nil_iff];intro y b;simpa using c y b
   rw[hz];exact⟨by simp,by simpa using c⟩
theorem xb {l:List (List Int)}{t:List Int}(d:e6 l)(hn:l.contains t=false):e6 (l.take (lbL l t)++t::l.drop (lbL l t)):=by
 obtain ⟨e,f⟩:=oH t d.srt;have b:e6 (l.take (lbL l t)++l.drop (lbL l t)):=by rw[zj4]; exact d
 have c:=List.pairwise_append.1 b;refine List.pairwise_append.2 ⟨c.1,zk5.2 ⟨fun y a=>?_,c.2.1⟩,fun y a z hz=>?_⟩
 ·rcases dY t y with h | h | h
  ·exact h
  ·have:l.contains t=true:=by rw[h]; simpa using List.mem_of_mem_drop a
   rw[hn] at this; cases this
  ·exact absurd h<|f y a
 ·rcases zf3.1 hz with rfl | hz
  ·exact e y a
  ·exact c.2.2 y a z hz
theorem Dg (all:List (List Int)):Srt Cl.id (bc all):=by
 unfold Srt;rw[zd1];intro i j b c a;simp[bc,nJ];omega
theorem rN (all:List (List Int)):aa (bc all)=(bc all).map ci:=by
 unfold aa;rw[← bI (Dg all) (aI.refl _)]
theorem C7 (k:Nat):((k:Nat):Int).tmod 2=((k:Nat):Int) % 2:=Int.tmod_eq_emod_of_nonneg oM
theorem aR (E:World)(g:PH)(s:Own)(v:Value)(ls:List (List Int))(hv:cU g v ls)(hn:ls.length<1099511627776)(hl:∀ x∈ls,x.length<17592186044416) :
  Ctr Tryz.prog E 33 #[v] g s (fun r g' s'=>s=s'∧Le g g'∧∃ u,r = .agg #[u]∧ai g' u (dy ls)):=by
 obtain ⟨C,a2,a3⟩:=hv;have c9:=a3.length;obtain ⟨p,c,rfl⟩:=za4 a2;refine zb2 (args:=[.slice p C.length c]) func33 I ntmps33 (bE I)<|rZ (bW (aL zl9) fun b2=>?_);refine tZ<|rZ<|aT I<|sQ<|rZ<|aT I<|bK<|oP (ι:=PH×Value×List (List Int)×Nat) (fun i=>[(0,.slice p C.length c),(2,pp b2 0),(3,i.2.1),(4,vi i.2.2.2)]) (fun i=>i.1)
  (fun _=>pt b2 (.cells #[.slice none 0 0] 29 (0,0))::s)
  (fun i=>Le g i.1∧i.2.2.2≤C.length∧cU i.1 i.2.1 i.2.2.1∧(i.2.2.1.length≤4000∧∀ x∈i.2.2.1,x.length≤9)∧e6 i.2.2.1∧aW [] ls=aW i.2.2.1 (ls.drop i.2.2.2)) (fun i=>C.length - i.2.2.2)
  (g,.slice none 0 0,[],0) sB rfl rfl ⟨zb9 g,zf8 _,⟨[],zc1 g _,trivial⟩,⟨zf8 _,by simp⟩,List.Pairwise.nil,rfl⟩ ?_
 rintro ⟨g1,av,all,i⟩ ⟨Y,hi,a4,⟨e1,Z⟩,N,U⟩;dsimp only at Y hi a4 e1 Z N U ⊢;refine sQ<|sW I<|lM I<|lU (eN eL I)<|yL I<|tZ<|iP I (fun h4=>?_) (fun h4=>?_)
 ·have a0:i<ls.length:=oM;have e2:i<C.length:=oM;have hR:=(a3.get (List.getElem?_eq_getElem a0)<|List.getElem?_eq_getElem e2).mono Y;have h5:=hl _<|gM a0;have O:=a2.based oM;have d0:ls.drop i=ls[i]::ls.drop (i+1):=zg8 a0;rw[d0] at U;generalize hx:ls[i]=x at *;generalize hr:C[i]=r at *;have P:C[((i:Nat):Int).toNat]?=some r:=by rw[← hr]; exact List.getElem?_eq_getElem e2
  refine kP<|tN<|sQ<|bK<|sW I<|lM I<|lU (iA eL fY I I O oM sL)<|SL.K (eB hZ I (a2.mono Y).rd P I)<|lW (SO.call call98 I<|Dj E g1 _ _ x hR h5) ?_;rintro v31 g2 _ ⟨rfl,a5,e4⟩;have X:=a4.mono a5
  rcases e4 with ⟨d1,u,rfl,hu⟩ | ⟨d1,rfl⟩
  ·obtain ⟨d2,h6⟩:=Dw d1;obtain ⟨q,d,rfl⟩:=za4 hu;have n1:=AH (dA x).length d2;refine lM I<|yX I<|yX I<|lA I<|aT I<|SC.cut (ι:=PH×Value×List (List Int)) (fun j=>[(0,.slice p C.length c),(2,pp b2 0),(3,j.2.1),(4,vi i)]) (fun j=>j.1) (fun _=>pt b2 (.cells #[.slice none 0 0] 29 (0,0))::s)
    (fun j=>Le g j.1∧cU j.1 j.2.1 j.2.2∧e6 j.2.2∧(∀ y,y∈j.2.2↔y∈all∨y∈bL (dA x))∧j.2.2.length≤4600) ?_ ?_
   ·refine rZ<|aT I<|bK<|oP (ι:=PH×Value×List (List Int)×Nat) (fun j=>[(0,.slice p C.length c),(2,pp b2 0),(3,j.2.1),(4,vi i),(5,.slice q (dA x).length d),(6,vb true),(7,vi (j.2.2.2+1:Nat))]) (fun j=>j.1) (fun _=>pt b2 (.cells #[.slice none 0 0] 29 (0,0))::s)
     (fun j=>Le g2 j.1∧j.2.2.2+1≤2 ^ (dA x).length∧cU j.1 j.2.1 j.2.2.1∧e6 j.2.2.1∧(∀ y,y∈j.2.2.1↔y∈all∨y∈(List.range j.2.2.2).map fun m=>eV (m+1)<|dA x)∧j.2.2.1.length≤4000+j.2.2.2) (fun j=>2 ^ (dA x).length - j.2.2.2)
     (g2,av,all,0) sB rfl rfl ⟨zb9 g2,Nat.one_le_two_pow,X,N,by simp,lN⟩ ?_
    rintro ⟨g3,bv,al,b⟩ ⟨a,hb,Q,F,J,d3⟩;dsimp only at a hb Q F J d3 ⊢;have a9:∀ y∈al,y.length≤9:=fun y hy=>by
     rcases (J y).1 hy with h | h
     ·exact Z y h
     ·obtain ⟨m,_,rfl⟩:=zf4.1 h;exact zk9 (gp _ _) d2
    refine sQ<|sW I<|lM I<|yC I<|yC I<|lY I I I (eN az I)<|lY I I I (SU.eq (v':=vi ((2 ^ (dA x).length:Nat):Int)) (SU.shl I I oM)<|ze4 vi<|AY (dA x).length oM)<|lY I I I (lS I I)<|yP I<|tZ<|iP I (fun b0=>?_) (fun b0=>?_)
    ·have c1:b+1<2 ^ (dA x).length:=oM;refine kP<|tN<|sQ<|bK<|rZ<|aT I<|sQ<|sQ<|zb6 3 1<|rG<|aT I<|bK<|oP (ι:=Value×Nat) (fun k=>[(0,.slice p C.length c),(2,pp b2 0),(3,bv),(4,vi i),(5,.slice q (dA x).length d),(6,vb true),(7,vi (b+1:Nat)),(8,k.1),(9,vi k.2)]) (fun _=>g3)
      (fun k=>rowA encInt 3 k.1 (eV (b+1)<|(dA x).take k.2)::pt b2 (.cells #[.slice none 0 0] 29 (0,0))::s) (fun k=>k.2≤(dA x).length) (fun k=>(dA x).length - k.2) (.slice none 0 0,0)
      sB rfl rfl (zf8 _) ?_
     rintro ⟨cv,k⟩ hk;dsimp only at hk ⊢;have h7:=gp (b+1)<|(dA x).take k;rw[ze6] at h7;refine sQ<|sW I<|lM I<|lU (eN az I)<|yL I<|tZ<|iP I (fun e9=>?_) (fun e9=>?_)
     ·have a0:k<(dA x).length:=oM;have h8:=za6 (hu.mono a) oM;have D:=qY (bits:=b+1) a0;refine kP<|tN<|sQ<|bK<|sW I<|lM I<|lU (SU.shr I I oM)<|lU (SU.eq (v':=vi (((b+1) / 2 ^ k % 2:Nat):Int)) (SU.and I I)<|ze4 vi<|(vY _).trans<|AX (b+1) k oM)<|yE I<|tZ<|iP I (fun f1=>?_) (fun f1=>?_)
      ·refine rG<|lM I<|lM I<|lM I<|lU (iA az zT3 I I h8 oM sL)<|SL.q (eB iT3 I (za7<|hu.mono a) (List.getElem?_eq_getElem a0) I) dC ?_;refine lW (bS sty52 I I I (ab sB) dC) ?_;rintro _ _ _ ⟨n8,rfl,rfl,rfl⟩;refine lW (aP (e:=encInt) 0 (dA x)[k] sty52 I I I I I oM oM) ?_;rintro cv' _ _ ⟨rfl,rfl⟩;refine lA I<|SL.nil<|bN<|tN<|rG<|lM I<|yD I<|lA I<|SL.nil ?_;refine ST.to (fun w hw=>?_) (g':=g3) (s':=rowA encInt 3 cv' (eV (b+1)<|(dA x).take<|k+1)::pt b2 (.cells #[.slice none 0 0] 29 (0,0))::s) ?_
       ·rw[D,zg3 oM]; exact hw
       exact ST.again (cv',k+1) sB I I lN lN
      ·refine kP<|bN<|tN<|rG<|lM I<|yD I<|lA I<|SL.nil ?_;refine ST.to (fun w hw=>?_) (g':=g3) (s':=rowA encInt 3 cv (eV (b+1)<|(dA x).take<|k+1)::pt b2 (.cells #[.slice none 0 0] 29 (0,0))::s) ?_
       ·rw[D,zg2 oM]; exact hw
       exact ST.again (cv,k+1) sB I I lN lN
     ·have h9:(dA x).take k=dA x:=tL oM;have o1:=gp (b+1)<|dA x;have b1:∀ nw:List (List Int),(∀ y,y∈nw↔y=eV (b+1) (dA x)∨y∈al)→∀ y,y∈nw↔y∈all∨y∈(List.range<|b+1).map fun m=>eV (m+1) (dA x):=fun nw h y=>by
       rw[h,J,List.range_succ,zg7,zf5];simp;constructor
       ·rintro (h | h | h)
        ·exact .inr<|.inr h
        ·exact .inl h
        ·exact .inr<|.inl h
       ·rintro (h | h | h)
        ·exact .inr<|.inl h
        ·exact .inr<|.inr h
        ·exact .inl h
      generalize i0:eV (b+1) (dA x)=t at *;refine xI (tX<|tX<|bX<|tN<|sQ<|fS fun g4 f b8=>?_);rw[h9,i0] at b8;have ht:dp g4 cv t:=b8;have b3:=Q.mono f;refine rG<|lM I<|lM I<|lW (SO.call call99 I<|qX E g4 _ _ _ al t b3 ht oM (fun y hy=>by have:=a9 y hy; omega) oM F.srt) ?_;rintro _ _ _ ⟨rfl,rfl,rfl⟩;refine lM I<|yX I<|yX I<|lA I<|aT I<|sW I<|lU (SU.not I)<|tZ<|iQ I (fun L=>?_) (fun L=>?_)
      ·have d4:al.contains t=false:=by simpa using L
       have i1:=AI al t;obtain ⟨ra,G,A⟩:=b3;have c2:=A.length;obtain ⟨qa,da,rfl⟩:=za4 G;have i2:=(SlA.cap G).2;obtain ⟨qt,dt,rfl⟩:=za4 ht;have f2:=SlA.cut G (l:=lbL al t) (m:=ra.length) oM<|Nat.le_refl _;have f3:=SlA.cut G (l:=0) (m:=lbL al t) (zf8 _) oM;rw[tL (by rw[zf2]; exact Nat.le_refl _)] at f2;rw[List.drop_zero,Nat.sub_zero] at f3;refine sW I<|lW (bS sty22 I I I (ab ⟨I,trivial⟩) dC) ?_;rintro _ _ _ ⟨o2,rfl,rfl,rfl⟩;refine SL.to (fun w hw=>At.litRow (e:=dL) (l:=[⟨qt,t.length,dt⟩]) (n:=0) hw I I dC) ?_;refine lM I<|lM I<|lU (SU.sliceL eL fY I I oM oM)<|lW (aQ (e:=dL) 0 sty22 I I I f2 (by rw[zf2]; (first | with_reducible rfl | ((try dsimp only); (try simp only[ze7,zf1,zc5,ze9,ze6,zf2])<;>omega))) (by rw[zf2]; (first | with_reducible rfl | ((try dsimp only); (try simp only[ze7,zf1,zc5,ze9,ze6,zf2])<;>omega)))) ?_;rintro v75 _ _ ⟨rfl,rfl⟩;refine aT I (fS fun g5 B d5=>?_);have V:SlA dL g5 v75 ([⟨qt,t.length,dt⟩]++ra.drop (lbL al t)):=d5;refine rG<|lW (bS sty22 I I I (ab trivial) dC) ?_;rintro _ _ _ ⟨i3,rfl,rfl,rfl⟩;refine SL.emptyRow 52 1 (some ⟨i3,0,none⟩)<|lM I<|lM I<|lU (SU.sliceH eL fY I I oM oM)<|lW (aQ (e:=dL) (l:=[]) 0 sty22 I I I (f3.mono B) (by rw[ze6]; (first | with_reducible rfl | ((try dsimp only); (try simp only[ze7,zf1,zc5,ze9,ze6,zf2])<;>omega))) (by rw[ze6]; (first | with_reducible rfl | ((try dsimp only); (try simp only[ze7,zf1,zc5,ze9,ze6,zf2])<;>omega)))) ?_;rintro v80 _ _ ⟨rfl,rfl⟩;refine lM I<|lW (aQ (e:=dL) 0 sty22 I I I V lN lN) ?_;rintro v82 _ _ ⟨rfl,rfl⟩;refine lA I (SL.nil<|bN<|tN<|rG<|lM I<|yD I<|lA I<|SL.nil<|fT fun g6 z a1=>?_);refine dR (s':=pt b2 (.cells #[.slice none 0 0] 29 (0,0))::s) (.cons _<|.refl _) ?_;have f4:cU g6 v82 (al.take (lbL al t)++t::al.drop (lbL al t)):=by
        refine⟨ra.take (lbL al t)++⟨qt,t.length,dt⟩::ra.drop (lbL al t),?_,?_⟩
        ·have h:SlA dL g6 v82 ([]++ra.take (lbL al t)++([⟨qt,t.length,dt⟩]++ra.drop (lbL al t))):=a1;simpa using h
        ·exact ((ax.take _ A).mono fun _ _=>dU.mono<|B.trans z).append ⟨ht.mono<|B.trans z,(ax.drop _ A).mono fun _ _=>dU.mono<|B.trans z⟩
       exact ST.again (g6,v82,al.take (lbL al t)++t::al.drop (lbL al t),b+1) ⟨I,I,I,I,I,I,bD (by simp),trivial⟩ I I ⟨a.trans<|f.trans<|B.trans z,c1,f4,xb F d4,b1 _ (fun y=>A8),lN⟩ lN
      ·have d4:t∈al:=by simpa using L
       exact kP<|bN<|tN<|rG<|lM I<|yD I<|lA I<|SL.nil<|ST.again (g4,bv,al,b+1) ⟨I,I,I,I,I,I,bD (by simp),trivial⟩ I I ⟨a.trans f,c1,b3,F,b1 _ (fun y=>⟨.inr,fun h=>h.elim (fun e=>by rw[e]; exact d4) id⟩),lN⟩ lN
    ·have j0:b=2 ^ (dA x).length - 1:=oM;exact xI<|tX<|tX<|bX<|za9 (g3,bv,al) sB I I ⟨Y.trans<|a5.trans a,Q,F,fun y=>by dsimp only; rw[J]; unfold bL; rw[j0],lN⟩
   ·rintro ⟨g3,bv,al⟩ ⟨a,Q,F,J,d3⟩;dsimp only at a Q F J d3 ⊢;have a9:∀ y∈al,y.length≤9:=fun y hy=>by
     rcases (J y).1 hy with h | h
     ·exact Z y h
     ·exact iG d2 y h
    have key:((al.length:Int)>4000→aW [] ls=none)∧(¬ (al.length:Int)>4000→aW [] ls=aW al (ls.drop<|i+1)):=by
     by_cases hb:jC (dA x)=true
     ·have he:=h6 hb;have H:al=all:=iH F N fun y=>by rw[J,he]; simp[bL]
      refine⟨fun h=>by rw[H] at h; omega,fun _=>by rw[U,aW,zg3 hb,H]⟩
     ·have H:al=eI all (dA x):=iH F (kT _ _) fun y=>by rw[J,jq]
      refine⟨fun h=>by rw[U,aW,zg2 hb,zg3 (by rw[← H]; exact h)],fun h=>by rw[U,aW,zg2 hb,zg2 (by rw[← H]; exact h),← H]⟩
    obtain ⟨ra,G,A⟩:=Q;have Q:cU g3 bv al:=⟨ra,G,A⟩;have c2:=A.length;obtain ⟨qa,da,rfl⟩:=za4 G;refine sW I<|lU (eN eL I)<|lU (gR I I)<|tZ<|iP I (fun W=>?_) (fun W=>?_)
    ·exact rZ<|lU (za3 I<|buildE29)<|oZ (sK 0 ae I I I I I sB)<|tZ<|rE<|bR<|tR<|tR<|bR<|tR<|ST.retCD 0 s (.inl I) results33 I aj ae I I uR ⟨I,a,_,I,by simp only[dy,key.1 oM]; exact⟨[],zc1 _ _,trivial⟩⟩
    ·exact kP<|bN<|tN<|rG<|lM I<|yD I<|lA I<|SL.nil<|ST.again (g3,_,al,i+1) sB I I ⟨a,lN,Q,⟨lN,a9⟩,F,key.2 oM⟩ lN
  ·have hb:=Fh d1;obtain ⟨ra,G,A⟩:=X;have X:cU g2 av all:=⟨ra,G,A⟩;have c2:=A.length;obtain ⟨qa,da,rfl⟩:=za4 G;refine lM I<|yX I<|yX I<|lA I<|aT I<|sQ<|rZ<|aT I<|bK<|oP (ι:=Unit) (fun _=>[(0,.slice p C.length c),(2,pp b2 0),(3,.slice qa ra.length da),(4,vi i),(5,.slice none 0 0),(6,vb false),(7,vi 1)]) (fun _=>g2) (fun _=>pt b2 (.cells #[.slice none 0 0] 29 (0,0))::s) (fun _=>True) (fun _=>0) () sB I I trivial ?_;rintro ⟨⟩ -;refine sQ<|sW I<|lM I<|yA I<|yA I<|yA I<|yA I<|yA I<|yF I<|tZ<|za1 I<|xI<|tX<|tX<|bX<|tN<|sW I<|lU (eN eL I)<|lU (gR I I)<|tZ<|iP I (fun W=>?_) (fun W=>?_)
   ·exfalso;omega
   ·exact kP<|bN<|tN<|rG<|lM I<|yD I<|lA I<|SL.nil<|ST.again (g2,_,all,i+1) sB I I ⟨Y.trans a5,lN,X,⟨e1,Z⟩,N,by dsimp only; rw[U,aW,zg3 hb]⟩ lN
 ·have j1:i=C.length:=oM;have d7:aW [] ls=some all:=by rw[U,j1,← c9,List.drop_length]; rfl
  obtain ⟨rs,M,b4⟩:=a4;have a4:cU g1 av all:=⟨rs,M,b4⟩;have p0:=b4.length;obtain ⟨q,d,rfl⟩:=za4 M;refine xI (tX<|tX<|bX<|tN<|rZ<|bW (aL zl9) fun R=>?_);refine tZ<|sQ<|rZ<|aT I<|bK<|zb6 56 3<|oP (ι:=PH×Value×List Rc×Nat) (fun i=>[(2,pp b2 0),(3,.slice q rs.length d),(13,pp R 0),(14,vi i.2.2.2)]) (fun i=>i.1)
   (fun i=>rowA encCell 56 i.2.1 i.2.2.1::pt R (.cells #[i.2.1] 29 (0,0))::pt b2 (.cells #[.slice none 0 0] 29 (0,0))::s)
   (fun i=>Le g1 i.1∧i.2.2.2≤rs.length∧ax (an i.1) (((bc all).take i.2.2.2).map ci) i.2.2.1) (fun i=>rs.length - i.2.2.2)
   (g1,.slice none 0 0,[],0) sB rfl rfl ⟨zb9 g1,zf8 _,trivial⟩ ?_
  rintro ⟨g3,ov,S,n⟩ ⟨a,j2,T⟩;dsimp only at a j2 T ⊢;have f5:=T.length;rw[ze8,ze6,bJ] at f5;refine sQ<|sW I<|lM I<|lU (eN eL I)<|yL I<|tZ<|iP I (fun b0=>?_) (fun b0=>?_)
  ·have d8:n<all.length:=oM;have f6:n<rs.length:=oM;have O:=M.based oM;have hR:=(b4.get (List.getElem?_eq_getElem d8)<|List.getElem?_eq_getElem f6).mono a;have f7:=hR.len;have p1:=Z _<|gM d8;have f8:=ju d8;generalize hx:all[n]=x at *;generalize hr:rs[n]=r at *;obtain ⟨rp,rn,rc⟩:=r;dsimp only at f7;subst f7;have l0:dp g3 (.slice rp x.length rc) x:=hR;have P:rs[((n:Nat):Int).toNat]?=some ⟨rp,x.length,rc⟩:=by rw[← hr]; exact List.getElem?_eq_getElem f6
   refine kP (tN<|sQ<|bK<|sW I<|yD I<|lM I<|lM I<|lU (iA eL fY I I O oM sL)<|SL.K (eB (u:=.slice rp x.length rc) hZ I (M.mono a).rd P I)<|lU (eN az I)<|lU (sU I I oM)<|lU (za3 I<|buildC56 _ _)<|bW (aL zl7) fun b5=>?_);refine oZ (sK 0 aw I I I I I sB)<|tZ<|SC.cut (ι:=PH×Value) (fun i=>[(2,pp b2 0),(3,.slice q rs.length d),(13,pp R 0),(14,vi n),(15,pp b5 0)]) (fun i=>i.1)
    (fun i=>rowA encSide 75 i.2 (aU all x x.length)::pt b5 (.cells #[vi<|(n:Int)+1,vi<|(x.length:Int) - 1,i.2] 56 (0,0))::rowA encCell 56 ov S::pt R (.cells #[ov] 29 (0,0))::pt b2 (.cells #[.slice none 0 0] 29 (0,0))::s)
    (fun i=>Le g3 i.1) ?_ ?_
   ·refine sQ<|zb6 75 2<|rG<|aT I<|bK<|oP (ι:=PH×Value×Nat) (fun i=>[(2,pp b2 0),(3,.slice q rs.length d),(13,pp R 0),(14,vi n),(15,pp b5 0),(16,vi i.2.2)]) (fun i=>i.1)
     (fun i=>rowA encSide 75 i.2.1 (aU all x i.2.2)::pt b5 (.cells #[vi<|(n:Int)+1,vi<|(x.length:Int) - 1,i.2.1] 56 (0,0))::rowA encCell 56 ov S::pt R (.cells #[ov] 29 (0,0))::pt b2 (.cells #[.slice none 0 0] 29 (0,0))::s)
     (fun i=>Le g3 i.1∧i.2.2≤x.length) (fun i=>x.length - i.2.2)
     (g3,.slice none 0 0,0) sB rfl rfl ⟨zb9 g3,zf8 _⟩ ?_
    rintro ⟨g4,sv,j⟩ ⟨f,hj⟩;dsimp only at f hj ⊢;have f9:=eW all x j;have D:=gh all x j;have b6:dp g4 (.slice rp x.length rc) x:=l0.mono f;by_cases l1:j<x.length
    ·have b9:((j:Nat):Int)<((x.length:Nat):Int):=oM;by_cases c3:((x.length:Int) - 1)>0
     ·have p2:(x.eraseIdx j).length=x.length - 1:=by rw[List.length_eraseIdx]; simp[l1]
      have e0:fM all x j=[⟨lbL all (x.eraseIdx j)+1,dz j⟩]:=by unfold fM; rw[zg3 oM]
      have i1:=AI all<|x.eraseIdx j;rw[e0] at D;have n2:=(SlA.cap b6).2;have g7:=SlA.cut b6 (l:=0) (m:=j) oM oM;have g8:=SlA.cut b6 (l:=j+1) (m:=x.length) oM oM;have l2:(x.drop 0).take (j - 0)=x.take j:=by simp
      have l3:(x.drop<|j+1).take (x.length - (j+1))=x.drop (j+1):=tL (by rw[zf2]; omega);rw[l2] at g7;rw[l3] at g8;have l4:[]++x.take j++x.drop (j+1)=x.eraseIdx j:=by rw[List.eraseIdx_eq_take_drop_succ]; simp
      have c5:([]++x.take j).length=j:=by simp; omega
      refine sQ<|sW I<|lM I<|lM I<|lU (iA eL fY I I O oM sL)<|SL.K (eB (u:=.slice rp x.length rc) hZ I (M.mono<|a.trans f).rd P I)<|lU (eN az I)<|lU (SU.eq (v':=vb true) (lS I I)<|ze4 vb<|zg1 b9)<|lM I<|lY I I I (fA ao I zT3 I)<|SL.gq (gT I I I dC) (qL (v:=vi<|(x.length:Int) - 1) iT3 I<|cO 1 I I) dC<|lY I I I (SU.eq (v':=vb true) (gR I I)<|ze4 vb<|zg1 c3)<|yP I<|tZ<|za2 I<|kP<|tN<|sQ<|bK<|sQ<|dW [15] [(1,2),(2,2),(3,2),(4,1),(5,2),(6,2),(8,2),(9,2),(10,2),(11,1),(12,2),(13,2),(14,2),(0,0),(7,0),(15,0),(16,2)] ze5 kR<|yM I<|yM I<|pU I (iA eL fY I I O oM sL)<|pK I (eB (u:=.slice rp x.length rc) hZ I (M.mono<|a.trans f).rd P I)<|yM I<|pU I (SU.sliceH az zT3 I I oM oM)<|yM I<|yM I<|pU I (iA eL fY I I O oM sL)<|pK I (eB (u:=.slice rp x.length rc) hZ I (M.mono<|a.trans f).rd P I)<|yM I<|pU I (aD I I oM)<|pU I (SU.eq (v':=sliced rp (j+1) x.length rc 1) (SU.sliceL az zT3 I I oM oM)<|by rw[show ((j:Int)+1).toNat=j+1 by omega]) ?_;refine SP.o I (bS sty52 I I I (ab trivial) dC) dC (.inr iR) ?_;rintro _ _ _ ⟨g9,rfl,rfl,rfl⟩;refine SP.to (fun w hw=>hw.emptyRow 3 1<|some ⟨g9,0,none⟩) ?_;refine SP.o I (aQ (e:=encInt) (l:=[]) 0 sty52 I I I g7 (by rw[ze6]; (first | with_reducible rfl | ((try dsimp only); (try simp only[ze7,zf1,zc5,ze9,ze6,zf2])<;>omega))) (by rw[ze6]; (first | with_reducible rfl | ((try dsimp only); (try simp only[ze7,zf1,zc5,ze9,ze6,zf2])<;>omega)))) dC (.inr iR) ?_;rintro v123 _ _ ⟨rfl,rfl⟩;refine SP.o I (aQ (e:=encInt) 0 sty52 I I I g8 (by rw[zf2,c5]; omega) (by rw[zf2,c5]; omega)) dC (.inl dC) ?_;rintro v131 _ _ ⟨rfl,rfl⟩;refine pU I (aS I) (pN<|tN<|sQ<|fS fun g6 z a1=>?_);have V:dp g6 v131 (x.eraseIdx j):=(by rw[← l4]; exact a1);refine SC.drop (s':=rowA encSide 75 sv (aU all x j)::pt b5 (.cells #[vi<|(n:Int)+1,vi<|(x.length:Int) - 1,sv] 56 (0,0))::rowA encCell 56 ov S::pt R (.cells #[ov] 29 (0,0))::pt b2 (.cells #[.slice none 0 0] 29 (0,0))::s) (.cons _<|.refl _)<|rG<|lM I<|lM I<|lW (SO.call call99 I<|qX E g6 _ _ _ all (x.eraseIdx j) (a4.mono<|a.trans<|f.trans z) V oM (fun y hy=>by have:=Z y hy; omega) oM N.srt) ?_;rintro _ _ _ ⟨rfl,rfl,rfl⟩;refine lM I<|yX I<|yX I<|lA I<|aT I<|rG<|lU (fA ao I aM I)<|SL.K (qL (v:=sv) br I<|cO 1 I I)<|lM I<|yD I<|lM I<|lU (SU.eq (v':=vi<|(j:Int) % 2) (zd9 I I dC)<|ze4 vi<|C7 j)<|lU (SU.mul I I oM)<|lU (SU.eq (v':=vi<|dz j) (sU I I oM) I)<|lU (za3 I<|buildS75 _ _)<|lW (bS sty39 I I I (ab sB) dC) ?_;rintro _ _ _ ⟨n3,rfl,rfl,rfl⟩;refine lW (aP (e:=encSide) 0 ⟨lbL all (x.eraseIdx j)+1,dz j⟩ sty39 I I I I I oM oM) ?_;rintro v148 _ _ ⟨rfl,rfl⟩;rw[← D];refine zd4 fun ⟨w0,b7⟩=>?_;obtain ⟨n5,n6,rfl⟩:=ag (i:=0) b7 rfl;clear b7 w0;refine lU (fA ao rfl aM rfl)<|oZ (SO.store1 1 aM rfl rfl rfl rfl (bE rfl)<|by rfl) ?_;refine SL.nil<|bN<|tN<|rG<|lM I<|yD I<|lA I<|SL.nil ?_;exact ST.again (g6,_,j+1) sB I I ⟨f.trans z,lN⟩ lN
     ·have h1:x.length=1:=oM;have m1:j=0:=oM;have c0:aU all x x.length=aU all x j:=by
       rw[h1,m1];have h0:=gh all x 0;have m2:fM all x 0=[]:=by
        unfold fM;rw[zg2];rw[List.length_eraseIdx];simp[h1]
       rw[h0,m2,zc7]
      rw[← c0];exact sQ<|sW I<|lM I<|lM I<|lU (iA eL fY I I O oM sL)<|SL.K (eB (u:=.slice rp x.length rc) hZ I (M.mono<|a.trans f).rd P I)<|lU (eN az I)<|lU (SU.eq (v':=vb true) (lS I I)<|ze4 vb<|zg1 b9)<|lM I<|lY I I I (fA ao I zT3 I)<|SL.gq (gT I I I dC) (qL (v:=vi<|(x.length:Int) - 1) iT3 I<|cO 1 I I) dC<|lY I I I (SU.eq (v':=vb false) (gR I I)<|ze4 vb<|zf9 c3)<|yP I<|tZ<|za1 I<|xI<|tX<|tX<|bX<|za9 (g4,sv) sB I I f
    ·have b9:¬ ((j:Nat):Int)<((x.length:Nat):Int):=oM;have m3:j=x.length:=oM;subst m3;exact sQ<|sW I<|lM I<|lM I<|lU (iA eL fY I I O oM sL)<|SL.K (eB (u:=.slice rp x.length rc) hZ I (M.mono<|a.trans f).rd P I)<|lU (eN az I)<|lU (SU.eq (v':=vb false) (lS I I)<|ze4 vb<|zf9 b9)<|lM I<|yA I<|yA I<|yA I<|yF I<|tZ<|za1 I<|xI<|tX<|tX<|bX<|za9 (g4,sv) sB I I f
   ·rintro ⟨g4,sv⟩ f;dsimp only at f ⊢;have f9:=eW all x x.length;refine rZ (zd6 fun g5 B d5=>?_);have m4:SlA encSide g5 sv (aU all x x.length):=d5;refine lU (fA ao I aM I)<|SL.K (qL (v:=sv) br I<|cO 0 I I)<|lW (SO.call call100 I<|qR E g5 _ _ (aU all x x.length) m4 oM) ?_;rintro v152 g6 _ ⟨rfl,z,a1⟩;obtain ⟨q6,d6,rfl⟩:=za4 a1;obtain ⟨nc,h2⟩:∃ nc:Rc,nc=⟨(n:Int)+1,(x.length:Int) - 1,⟨q6,(sortBy ak.cell<|aU all x x.length).length,d6⟩⟩:=⟨_,rfl⟩;refine lU (fA ao rfl aM rfl)<|oZ (SO.store1 0 aM rfl rfl rfl rfl (bE rfl)<|by rfl) ?_;refine tZ<|rG<|lU (fA dn I cq I)<|SL.K (qL eh I<|cO 2 I I)<|SL.K (qV 0 dT aw I I I)<|lW (bS sty27 I I I (ab sB) dC) ?_;rintro _ _ _ ⟨n7,rfl,rfl,rfl⟩;refine lW (aP (e:=encCell) 1 nc sty27 I I I I (by rw[h2]; rfl) oM oM) ?_;rintro v158 _ _ ⟨rfl,rfl⟩;refine zd4 fun ⟨w0,b7⟩=>?_;obtain ⟨c6,c7,rfl⟩:=ag (i:=1) b7 rfl;clear b7 w0;refine lU (fA dn I cq I)<|oZ (sK 2 cq I I I I I sB) ?_;refine SL.nil<|bN<|tN<|rG<|lM I<|yD I<|lA I<|SL.nil<|dR (s':=rowA encCell 56 (.slice c6 (S++[nc]).length c7) (S++[nc])::pt R (.cells #[.slice c6 (S++[nc]).length c7] 29 (0,0))::pt b2 (.cells #[.slice none 0 0] 29 (0,0))::s) (.cons _<|.refl _) ?_;refine ST.again (g6,_,S++[nc],n+1) sB I I ⟨a.trans<|f.trans<|B.trans z,lN,?_⟩ lN;dsimp only;rw[gi f8,zg7];exact (T.mono fun _ _=>an.mono<|f.trans<|B.trans z).append ⟨(by rw[h2]; exact⟨I,I,a1⟩),trivial⟩
  ·have p3:n=rs.length:=oM;have n0:(bc all).take n=bc all:=tL (by rw[bJ]; omega);rw[n0] at T;refine xI (tX<|tX<|bX<|tN<|sQ<|fS fun g4 f b8=>?_);have h3:ai g4 ov (dy ls):=(by simp only[dy,d7,rN]; exact⟨S,b8,T.mono fun _ _=>an.mono f⟩);obtain ⟨q9,d9,rfl⟩:=h3.form;exact rG<|SL.K (qV 0 aj ae I I I)<|oZ (sK 1 ae I I I I I sB)<|tZ<|rE<|ST.retCD 1 s (.inl I) results33 I aj ae I I uR ⟨I,Y.trans<|a.trans f,_,I,h3⟩
end Go.Proofs.YtbbppeihhkhkcaaGreatDoor
