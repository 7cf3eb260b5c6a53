/- 7 -/
import Derived.Test.YtkbagdedfdfjhaaGreatDoorFi06
import Derived.Test.YtkbagdedfdfjhaaGreatDoorFi03
set_option linter.unusedSimpArgs false
set_option linter.unusedVariables false
namespace Go.Proofs.YtkbagdedfdfjhaaGreatDoor
open _root_.Go.Proofs.Tryz _root_.Go.Proofs.YtkbagdedfdfjhaaGreatDoor.Tryz
open Go Go.Sy Go.Pl Go.Proofs
set_option maxRecDepth 100000
abbrev wr (x:Int):Int:=IntKind.i64.wrap x
structure En where
 id:Int
 sum:Int
 many:Int
 fst:Nat
def En.fi (e:En):Int:=e.fst
def En.up (e:En)(p:Int):En:=⟨e.id,wr (e.sum+p),wr (e.many+1),e.fst⟩
def lc (i:Nat)(c p:Int):List En→List En
 | []=>[En.up ⟨c,0,0,i⟩ p]
 | e::r=>if e.id=c then e.up p::r else e::lc i c p r
def jE (i:Nat)(c:Int):List En→Nat
 | []=>i
 | e::r=>if e.id=c then e.fst else jE i c r
def dL (m:Nat)(old now:Int)(p:List Int):List Int:=p.mapIdx fun q x=>if q<m∧x=now then old else x
def lX (i:Nat)(sx:Int)(st:List En×List Int)(r:ai):List En×List Int :=
 (lc i r.cell (wr (sx * r.sign)) st.1,dL (i+1) (st.2.getD (jE i r.cell st.1) 0) (st.2.getD i 0) st.2)
def om (tl:List Cl)(st:List En×List Int)(p:ai×Nat):List En×List Int:=(ao tl p.1).foldl (lX p.2 p.1.sign) (st.1,st.2.set p.2 p.2)
def m4 (tl:List Cl)(l:List ai)(n:Nat):List En×List Int:=l.zipIdx.foldl (om tl) ([],List.replicate n 0)
def iD (tl:List Cl)(c:Cl):Int :=
 if (m4 tl c.sides c.sides.length).1.any (fun e=>decide (e.sum≠0)) then 24
 else if (m4 tl c.sides c.sides.length).1.any (fun e=>decide (e.many≠2)) then 25
 else if (m4 tl c.sides c.sides.length).2.any (fun x=>decide (x≠(m4 tl c.sides c.sides.length).2.getD 0 0)) then 25
 else 0
theorem sE {i:Nat}{c p:Int}{e:En}{B:List En}(he:e.id=c):∀ {A:List En},(∀ x∈A,x.id≠c)→lc i c p (A++e::B)=A++e.up p::B∧jE i c (A++e::B)=e.fst
 | [],_=>by simp[lc,jE,he]
 | x::A,h=>by
  have hx:=h x (by simp);have:=sE (i:=i) (p:=p) (B:=B) he (A:=A) (fun y hy=>h y (by simp[hy]));simp[lc,jE,hx,this.1,this.2]
theorem sD {i:Nat}{c p:Int}:∀ {A:List En},(∀ x∈A,x.id≠c)→lc i c p A=A++[En.up ⟨c,0,0,i⟩ p]∧jE i c A=i
 | [],_=>by simp[lc,jE]
 | x::A,h=>by
  have hx:=h x (by simp);have:=sD (i:=i) (p:=p) (A:=A) (fun y hy=>h y (by simp[hy]));simp[lc,jE,hx,this.1,this.2]
theorem lP (m:Nat)(old now:Int)(p:List Int):(dL m old now p).length=p.length:=by simp[dL]
theorem wo (old now:Int)(p:List Int):dL 0 old now p=p:=by
 unfold dL;apply List.ext_getElem?;intro q;simp
theorem zB {m:Nat}{old now:Int}{p:List Int}(h:m<p.length):(dL m old now p)[m]?=some p[m]:=by
 simp[dL,h]
theorem wq {m:Nat}{old now:Int}{p:List Int}(h:m<p.length):dL (m+1) old now p=if p[m]=now then (dL m old now p).set m old else dL m old now p:=by
 unfold dL;split
 ·rename_i hm;apply List.ext_getElem?;intro q;rw[List.getElem?_set];by_cases hq:m=q
  ·subst hq;simp[h,hm]
  ·rw[zf6 hq];simp only[List.getElem?_mapIdx];cases p[q]? with
   | none=>rfl
   | some x=>simp; congr 1; simp; intro _; omega
 ·rename_i hm;apply List.ext_getElem?;intro q;simp only[List.getElem?_mapIdx];by_cases hq:m=q
  ·subst hq;simp[h,hm]
  ·cases p[q]? with
   | none=>rfl
   | some x=>simp; congr 1; simp; intro _; omega
theorem yy {i n:Nat}{c p:Int}(hi:i<n):∀ {es:List En},(∀ e∈es,e.fst<n)→∀ e∈lc i c p es,e.fst<n
 | [],_,e,he=>by simp[lc] at he; subst he; exact hi
 | x::r,h,e,he=>by
  unfold lc at he;split at he
  ·rcases ze7.1 he with rfl | he
   ·exact h x (by simp)
   ·exact h e (by simp[he])
  ·rcases ze7.1 he with rfl | he
   ·exact h e (by simp)
   ·exact yy hi (fun y hy=>h y (by simp[hy])) e he
theorem wm (E:World)(g:PH)(s:Own)(v:Value)(tl:List Cl)(c:Cl)(r:Rc)(hv:am g v tl)(htl:tl.length<1099511627776)(hs:(tl.map Cl.id).Pairwise (· ≤ ·))(hc:au g c r)(hl:c.sides.length≤64)(hin:∀ x∈c.sides,(az tl x.cell).isSome=true)(hsl:∀ x∈c.sides,(ao tl x).length≤64) :
  Ctr Tryz.prog E 195 #[v,rcv r] g s (fun r g' s'=>r=vi (iD tl c)∧g=g'∧s=s'):=by
 obtain ⟨rs,hrs,hall⟩:=hv;have hv:am g v tl:=⟨rs,hrs,hall⟩;have hrl:=hall.length;obtain ⟨vp,vc,rfl⟩:=hrs.form;obtain ⟨rp,rcap,rfl,hcs⟩:=eo hc;refine za9 (args:=[.slice vp rs.length vc,.agg #[vi c.id,vi c.dim,.slice rp c.sides.length rcap]]) func195 I ntmps195 (bE I) ?_;refine rZ (bW (bO I) fun b3=>?_);refine aT I (sQ ?_);refine SC.to (g':=g) (s':=pt b3 (.cells #[vi c.id,vi c.dim,.slice rp c.sides.length rcap] 78 (0,0))::s) (fun w hw=>hw) ?_;refine rG (aT I (rZ (aT I (rZ (aT I (rZ (lU (fA ar I cA I) (lK (qL (v:=.slice rp c.sides.length rcap) dE I (cO 0 I I)) (lU (eN cM I) (lW (mK encInt 0 sty25 I I I oM oM) ?_))))))))));rintro _ _ _ ⟨b8,rfl,rfl,rfl⟩;refine aT I (rZ (lW (bS sty25 I I I (ae trivial) dC) ?_));rintro _ _ _ ⟨b24,rfl,rfl,rfl⟩;refine SL.drop (.cons _ (.refl _)) (SL.emptyRow 3 1 (some ⟨b24,0,none⟩) (aT I (sQ (rZ (aT I (bK (zb4 3 1 (zb4 3 1 (zb4 3 1 ?_)))))))));refine oP (ι:=(Value×Value×Value×Value)×(List En×List Int)×Nat) (fun i=>[(0,.slice vp rs.length vc),(3,pp b3 0),(5,i.1.1),(6,i.1.2.1),(7,i.1.2.2.1),(8,.slice (some ⟨b8,0,none⟩) c.sides.length c.sides.length),(9,i.1.2.2.2),(10,vi (i.2.2:Nat))]) (fun _=>g)
  (fun i=>rowA encInt 3 i.1.1 (i.2.1.1.map En.id)::rowA encInt 3 i.1.2.1 (i.2.1.1.map En.sum)::rowA encInt 3 i.1.2.2.1 (i.2.1.1.map En.many)::rowA encInt 3 i.1.2.2.2 (i.2.1.1.map En.fi)::rowA encInt 3 (.slice (some ⟨b8,0,none⟩) c.sides.length c.sides.length) (i.2.1.2)::pt b3 (.cells #[vi c.id,vi c.dim,.slice rp c.sides.length rcap] 78 (0,0))::s)
  (fun i=>i.2.2≤c.sides.length∧i.2.1=(c.sides.take i.2.2).zipIdx.foldl (om tl) ([],List.replicate c.sides.length 0)∧i.2.1.2.length=c.sides.length∧i.2.1.1.length≤64 * i.2.2∧∀ e∈i.2.1.1,e.fst<c.sides.length) (fun i=>c.sides.length - i.2.2)
  ((.slice none 0 0,.slice none 0 0,.slice none 0 0,.slice (some ⟨b24,0,none⟩) 0 0),([],List.replicate c.sides.length 0),0) sB rfl rfl ⟨zf3 _,by simp,by simp,by simp,by simp⟩ ?_
 rintro ⟨⟨v5,v6,v7,v9⟩,⟨es,part⟩,i⟩ ⟨hi,hst,hpl,hel,hef⟩;dsimp only at hi hst hpl hel hef ⊢;refine sQ (sW I (lU (fA ar I cA I) (lK (qL (v:=.slice rp c.sides.length rcap) dE I (cO 5 I I)) (lU (eN cM I) (yL I (tZ ?_))))));refine iP I (fun hlt=>?_) (fun hlt=>?_)
 ·have hil:i<c.sides.length:=oM;have hb1:=hcs.based oM;have hix:c.sides[((i:Nat):Int).toNat]?=some c.sides[i]:=gE hil;have htk:(c.sides.take (i+1)).zipIdx.foldl (om tl) ([],List.replicate c.sides.length 0)=om tl ((c.sides.take i).zipIdx.foldl (om tl) ([],List.replicate c.sides.length 0)) (c.sides[i],i):=by
   rw[tS hil,List.zipIdx_append,zi6];have:(List.take i c.sides).length=i:=by rw[ze1]; omega
   rw[this];simp
  have hxm:=gM hil;have hxin:=hin _ hxm;have hxs:=hsl _ hxm;generalize c.sides[i]=x at *;obtain ⟨yc,hyc⟩:=zh5.1 hxin;have hsx:ao tl x=yc.sides:=by unfold ao; rw[hyc]; rfl
  rw[hsx] at hxs
  rcases rU hs x.cell with ⟨hfn,_⟩ | ⟨yc',kk,hfs,hat,hyk⟩
  ·rw[hfn] at hyc; cases hyc
  have:yc=yc':=by rw[hfs] at hyc; injection hyc with h; exact h.symm
  subst this;have hkk:kk<tl.length:=(zf2.1 hyk).1;have hkr:kk<rs.length:=oM;have hbv:=hrs.based oM;have hyr:=hall.get hyk (gE hkr);have hgr:rs[((kk:Nat):Int).toNat]?=some rs[kk]:=gE hkr;obtain ⟨yp,ycap,hrk,hys⟩:=eo hyr;rw[hrk] at hgr;have hp1:(part.set i (i:Int)).length=c.sides.length:=by rw[zh9]; exact hpl
  refine kP (tN (sQ (bK (sW I (lM I (lM I (lU (iA ak zT3 I I I oM sL) (oZ (sT (a:=(i:Int)) 4 zT3 I I I oM I) (tZ (sW I (lM I (lU (fA ar I cA I) (lK (qL (v:=.slice rp c.sides.length rcap) dE I (cO 5 I I)) (lM I (lU (iA cM cq I I hb1 oM sL) (lU (fC dK I zT3 I hb1) (lK (aZ (e:=encSide) (o:=0) (u:=vi x.cell) iT3 I hcs.rd hix I) (lW (cL call66 I (iH E g _ _ tl x.cell hv htl hs)) ?_))))))))))))))))));rintro _ _ _ ⟨rfl,rfl,rfl⟩;rw[hat];refine lU (iA aO aK I I hbv oM sL) (lK (eA (e:=encCell) gJ aK I hrs.rd hgr) (bW (aL zl1) fun b11=>?_));refine oZ (sK 0 aK I I I I I sB) ?_;refine tZ (rZ (aT I (bK ?_)));refine SC.to (g':=g) (s':=pt b11 (.cells #[vi yc.id,vi yc.dim,.slice yp yc.sides.length ycap] 78 (0,0))::rowA encInt 3 v5 (es.map En.id)::rowA encInt 3 v6 (es.map En.sum)::rowA encInt 3 v7 (es.map En.many)::rowA encInt 3 v9 (es.map En.fi)::rowA encInt 3 (.slice (some ⟨b8,0,none⟩) c.sides.length c.sides.length) (part.set i (i:Int))::pt b3 (.cells #[vi c.id,vi c.dim,.slice rp c.sides.length rcap] 78 (0,0))::s) (fun w hw=>hw) ?_;refine oP (ι:=(Value×Value×Value×Value)×(List En×List Int)×Nat) (fun q=>[(0,.slice vp rs.length vc),(3,pp b3 0),(5,q.1.1),(6,q.1.2.1),(7,q.1.2.2.1),(8,.slice (some ⟨b8,0,none⟩) c.sides.length c.sides.length),(9,q.1.2.2.2),(10,vi (i:Nat)),(11,pp b11 0),(12,vi (q.2.2:Nat))]) (fun _=>g)
   (fun q=>pt b11 (.cells #[vi yc.id,vi yc.dim,.slice yp yc.sides.length ycap] 78 (0,0))::rowA encInt 3 q.1.1 (q.2.1.1.map En.id)::rowA encInt 3 q.1.2.1 (q.2.1.1.map En.sum)::rowA encInt 3 q.1.2.2.1 (q.2.1.1.map En.many)::rowA encInt 3 q.1.2.2.2 (q.2.1.1.map En.fi)::rowA encInt 3 (.slice (some ⟨b8,0,none⟩) c.sides.length c.sides.length) (q.2.1.2)::pt b3 (.cells #[vi c.id,vi c.dim,.slice rp c.sides.length rcap] 78 (0,0))::s)
   (fun q=>q.2.2≤yc.sides.length∧q.2.1=(yc.sides.take q.2.2).foldl (lX i x.sign) (es,part.set i (i:Int))∧q.2.1.2.length=c.sides.length∧q.2.1.1.length≤64 * i+q.2.2∧∀ e∈q.2.1.1,e.fst<c.sides.length) (fun q=>yc.sides.length - q.2.2)
   ((v5,v6,v7,v9),(es,part.set i (i:Int)),0) sB rfl rfl ⟨zf3 _,by simp,hp1,lN,hef⟩ ?_
  rintro ⟨⟨w5,w6,w7,w9⟩,⟨fs,pa⟩,j⟩ ⟨hj,hst2,hpl2,hel2,hef2⟩;dsimp only at hj hst2 hpl2 hel2 hef2 ⊢;refine SC.facts fun ⟨w0,hw0⟩=>?_;obtain ⟨p5,c5,rfl⟩:=ah (i:=1) hw0 rfl;obtain ⟨p6,c6,rfl⟩:=ah (i:=2) hw0 rfl;obtain ⟨p7,c7,rfl⟩:=ah (i:=3) hw0 rfl;obtain ⟨p9,c9,rfl⟩:=ah (i:=4) hw0 rfl;have hb5:0<fs.length→based (.slice p5 (fs.map En.id).length c5)=true:=fun h=>by obtain ⟨b0,c0,he⟩:=ck (i:=1) hw0 rfl (by simpa using h); rw[he]; rfl
  clear hw0 w0;refine sQ (sW I (lU (fA ar I cA I) (lK (qL (v:=.slice yp yc.sides.length ycap) dE I (cO 0 I I)) (lU (eN cM I) (yL I (tZ ?_))))));refine iP I (fun hlt2=>?_) (fun hlt2=>?_)
  ·have hjl:j<yc.sides.length:=oM;have hb2:=hys.based oM;have hjx:yc.sides[((j:Nat):Int).toNat]?=some yc.sides[j]:=gE hjl;have htk2:(yc.sides.take (j+1)).foldl (lX i x.sign) (es,part.set i (i:Int))=lX i x.sign ((yc.sides.take j).foldl (lX i x.sign) (es,part.set i (i:Int))) yc.sides[j]:=by
    rw[tS hjl,zi6]; rfl
   rw[← hst2] at htk2;generalize yc.sides[j]=z at *;have hml5:(fs.map En.id).length=fs.length:=by simp
   refine kP (tN (sQ (bK (rZ (aT I ?_)))));refine SC.cut (ι:=Nat) (fun k=>[(0,.slice vp rs.length vc),(3,pp b3 0),(5,.slice p5 (fs.map En.id).length c5),(6,.slice p6 (fs.map En.sum).length c6),(7,.slice p7 (fs.map En.many).length c7),(8,.slice (some ⟨b8,0,none⟩) c.sides.length c.sides.length),(9,.slice p9 (fs.map En.fi).length c9),(10,vi (i:Nat)),(11,pp b11 0),(12,vi (j:Nat)),(13,vi (k:Nat))]) (fun _=>g)
    (fun _=>pt b11 (.cells #[vi yc.id,vi yc.dim,.slice yp yc.sides.length ycap] 78 (0,0))::rowA encInt 3 (.slice p5 (fs.map En.id).length c5) (fs.map En.id)::rowA encInt 3 (.slice p6 (fs.map En.sum).length c6) (fs.map En.sum)::rowA encInt 3 (.slice p7 (fs.map En.many).length c7) (fs.map En.many)::rowA encInt 3 (.slice p9 (fs.map En.fi).length c9) (fs.map En.fi)::rowA encInt 3 (.slice (some ⟨b8,0,none⟩) c.sides.length c.sides.length) (pa)::pt b3 (.cells #[vi c.id,vi c.dim,.slice rp c.sides.length rcap] 78 (0,0))::s)
    (fun k=>k≤fs.length∧(∀ e∈fs.take k,e.id≠z.cell)∧∀ h:k<fs.length,fs[k].id=z.cell) ?_ ?_
   ·refine bK ?_;refine oP (ι:=Nat) (fun k=>[(0,.slice vp rs.length vc),(3,pp b3 0),(5,.slice p5 (fs.map En.id).length c5),(6,.slice p6 (fs.map En.sum).length c6),(7,.slice p7 (fs.map En.many).length c7),(8,.slice (some ⟨b8,0,none⟩) c.sides.length c.sides.length),(9,.slice p9 (fs.map En.fi).length c9),(10,vi (i:Nat)),(11,pp b11 0),(12,vi (j:Nat)),(13,vi (k:Nat))]) (fun _=>g)
     (fun _=>pt b11 (.cells #[vi yc.id,vi yc.dim,.slice yp yc.sides.length ycap] 78 (0,0))::rowA encInt 3 (.slice p5 (fs.map En.id).length c5) (fs.map En.id)::rowA encInt 3 (.slice p6 (fs.map En.sum).length c6) (fs.map En.sum)::rowA encInt 3 (.slice p7 (fs.map En.many).length c7) (fs.map En.many)::rowA encInt 3 (.slice p9 (fs.map En.fi).length c9) (fs.map En.fi)::rowA encInt 3 (.slice (some ⟨b8,0,none⟩) c.sides.length c.sides.length) (pa)::pt b3 (.cells #[vi c.id,vi c.dim,.slice rp c.sides.length rcap] 78 (0,0))::s)
     (fun k=>k≤fs.length∧∀ e∈fs.take k,e.id≠z.cell) (fun k=>fs.length - k) 0 sB rfl rfl ⟨zf3 _,by simp⟩ ?_
    rintro k ⟨hk,hne⟩;by_cases hkl:k<fs.length
    ·have hin2:((k:Nat):Int)<(((fs.map En.id).length:Nat):Int):=oM;have hg5:(fs.map En.id)[((k:Nat):Int).toNat]?=some fs[k].id:=by simp[hkl]
     have hb5':=hb5 oM;refine sQ (sQ ?_);refine dW [] [(0,2),(1,2),(2,2),(3,2),(4,2),(5,2),(6,2),(7,2),(8,1),(9,2),(10,1),(11,2),(12,2),(13,2),(14,1),(15,2),(16,2)] zd9 kR ?_;refine yM I (yM I (pU I (eN ak I) (pU I (SU.eq (v':=vb true) (lS I I) (zd8 vb (zf5 hin2))) (yM I (yJ I (yJ I (zb1 I (gT I I I dC) (iA ak zT3 I I hb5' oM sL) dC (SP.gq I (gT I I I dC) (eB iT3 I (zb5 1 I) hg5 I) dC (zb1 I (gT I I I dC) (fA ar I cA I) dC (SP.gq I (gT I I I dC) (qL (v:=.slice yp yc.sides.length ycap) dE I (cO 0 I I)) dC (yJ I (zb1 I (gT I I I dC) (iA cM cq I I hb2 oM sL) dC (zb1 I (gT I I I dC) (fC dK I zT3 I hb2) dC (SP.gq I (gT I I I dC) (aZ (e:=encSide) (o:=0) (u:=vi z.cell) iT3 I hys.rd hjx I) dC (zb1 I (gT I I I dC) (nQ I I) dC (pU I (wT I I) (pN (tN ?_))))))))))))))))));refine iP I (fun hc2=>?_) (fun hc2=>?_)
     ·refine kP (tN (bK (rG (lM I (yD I (lA I (nL (bN ?_))))))));exact gA (k+1) sB I I ⟨oM,by
       rw[tS hkl];intro e he
       rcases ze9.1 he with h | h
       ·exact hne e h
       ·simp at h; subst h; exact hc2⟩ oM
     ·refine xI (tX (tX (bX ?_)));exact za7 k sB I I ⟨hk,hne,fun _=>zg6 hc2⟩
    ·have hin2:¬ ((k:Nat):Int)<(((fs.map En.id).length:Nat):Int):=oM;refine sQ (sQ ?_);refine dW [] [(0,2),(1,2),(2,2),(3,2),(4,2),(5,2),(6,2),(7,2),(8,1),(9,2),(10,1),(11,2),(12,2),(13,2),(14,1),(15,2),(16,2)] zd9 kR ?_;refine yM I (yM I (pU I (eN ak I) (pU I (SU.eq (v':=vb false) (lS I I) (zd8 vb (zf4 hin2))) (yM I (yG I (yG I (yG I (yI I (yG I (yI I (yG I (yG I (yG I (yI I (yG I (pU I (wF I I) (pN (tN (cF I (xI (tX (tX (bX ?_)))))))))))))))))))))));exact za7 k sB I I ⟨hk,hne,fun h=>absurd h hkl⟩
   ·rintro k ⟨hk,hne,heq⟩;refine SC.cut (ι:=(Value×Value×Value×Value)×List En×En×List En) (fun q=>[(0,.slice vp rs.length vc),(3,pp b3 0),(5,q.1.1),(6,q.1.2.1),(7,q.1.2.2.1),(8,.slice (some ⟨b8,0,none⟩) c.sides.length c.sides.length),(9,q.1.2.2.2),(10,vi (i:Nat)),(11,pp b11 0),(12,vi (j:Nat)),(13,vi (q.2.1.length:Nat))]) (fun _=>g)
     (fun q=>pt b11 (.cells #[vi yc.id,vi yc.dim,.slice yp yc.sides.length ycap] 78 (0,0))::rowA encInt 3 q.1.1 ((q.2.1++q.2.2.1::q.2.2.2).map En.id)::rowA encInt 3 q.1.2.1 ((q.2.1++q.2.2.1::q.2.2.2).map En.sum)::rowA encInt 3 q.1.2.2.1 ((q.2.1++q.2.2.1::q.2.2.2).map En.many)::rowA encInt 3 q.1.2.2.2 ((q.2.1++q.2.2.1::q.2.2.2).map En.fi)::rowA encInt 3 (.slice (some ⟨b8,0,none⟩) c.sides.length c.sides.length) (pa)::pt b3 (.cells #[vi c.id,vi c.dim,.slice rp c.sides.length rcap] 78 (0,0))::s)
     (fun q=>(∀ p,lc i z.cell p fs=q.2.1++q.2.2.1.up p::q.2.2.2)∧jE i z.cell fs=q.2.2.1.fst∧q.2.2.1.fst<c.sides.length∧q.2.1.length+1+q.2.2.2.length≤fs.length+1) ?_ ?_
    ·refine sW I (lM I (lU (eN ak I) (yE I (tZ ?_))));refine iP I (fun hnew=>?_) (fun hnew=>?_)
     ·have hkf:k=fs.length:=oM;subst hkf;rw[List.take_length] at hne;refine sW I (lU (fA ar I cA I) (lK (qL (v:=.slice yp yc.sides.length ycap) dE I (cO 0 I I)) (lM I (lU (iA cM cq I I hb2 oM sL) (lU (fC dK I zT3 I hb2) (lK (aZ (e:=encSide) (o:=0) (u:=vi z.cell) iT3 I hys.rd hjx I) (lW (bS sty25 I I I (ae sB) dC) ?_)))))));rintro _ _ _ ⟨b84,rfl,rfl,rfl⟩;refine lW (aP (e:=encInt) 1 z.cell sty25 I I I I I oM oM) ?_;rintro u5 _ _ ⟨rfl,rfl⟩;refine aT I (sW I (lW (bS sty25 I I I (ae sB) dC) ?_));rintro _ _ _ ⟨b87,rfl,rfl,rfl⟩;refine lW (aP (e:=encInt) 2 0 sty25 I I I I I (by simp; omega) (by simp; omega)) ?_;rintro u6 _ _ ⟨rfl,rfl⟩;refine aT I (sW I (lW (bS sty25 I I I (ae sB) dC) ?_));rintro _ _ _ ⟨b90,rfl,rfl,rfl⟩;refine lW (aP (e:=encInt) 3 0 sty25 I I I I I (by simp; omega) (by simp; omega)) ?_;rintro u7 _ _ ⟨rfl,rfl⟩;refine aT I (rG (lM I (lM I (lW (bS sty25 I I I (ae sB) dC) ?_))));rintro _ _ _ ⟨b94,rfl,rfl,rfl⟩;refine lW (aP (e:=encInt) 4 ((i:Nat):Int) sty25 I I I I I (by simp; omega) (by simp; omega)) ?_;rintro u9 _ _ ⟨rfl,rfl⟩;refine lA I (nL ?_);refine ST.to (fun w hw=>?_) (g':=g) (s':=pt b11 (.cells #[vi yc.id,vi yc.dim,.slice yp yc.sides.length ycap] 78 (0,0))::rowA encInt 3 u5 ((fs++(⟨z.cell,0,0,i⟩:En)::[]).map En.id)::rowA encInt 3 u6 ((fs++(⟨z.cell,0,0,i⟩:En)::[]).map En.sum)::rowA encInt 3 u7 ((fs++(⟨z.cell,0,0,i⟩:En)::[]).map En.many)::rowA encInt 3 u9 ((fs++(⟨z.cell,0,0,i⟩:En)::[]).map En.fi)::rowA encInt 3 (.slice (some ⟨b8,0,none⟩) c.sides.length c.sides.length) (pa)::pt b3 (.cells #[vi c.id,vi c.dim,.slice rp c.sides.length rcap] 78 (0,0))::s) ?_
      ·simp only[zg2,zg1,List.map_nil]; exact hw
      exact za7 ((u5,u6,u7,u9),fs,⟨z.cell,0,0,i⟩,[]) sB I I ⟨fun p=>(sD hne).1,(sD (p:=0) hne).2,hil,by simp⟩
     ·have hkl:k<fs.length:=oM;have hsp:fs=fs.take k++fs[k]::fs.drop (k+1):=by rw[← zg3 hkl,zi8]
      have hkt:(fs.take k).length=k:=by rw[ze1]; omega
      refine kP ?_;refine za7 ((_,_,_,_),fs.take k,fs[k],fs.drop (k+1)) ⟨I,I,I,I,I,I,I,I,I,I,bP (by dsimp only; omega),trivial⟩ I (by dsimp only; rw[← hsp]) ⟨fun p=>?_,?_,hef2 _ (gM hkl),by rw[hkt,ze6]; omega⟩
      ·conv=>lhs; rw[hsp]
       exact (sE (heq hkl) hne).1
      ·conv=>lhs; rw[hsp]
       exact (sE (p:=0) (heq hkl) hne).2
    ·rintro ⟨⟨u5,u6,u7,u9⟩,A,e,B⟩ ⟨hbump,hfst,hfl,hlen⟩;dsimp only at hbump hfst hfl hlen ⊢;refine SC.facts fun ⟨w0,hw0⟩=>?_;obtain ⟨q6,d6,rfl⟩:=ah (i:=2) hw0 rfl;obtain ⟨q7,d7,rfl⟩:=ah (i:=3) hw0 rfl;obtain ⟨q9,d9,rfl⟩:=ah (i:=4) hw0 rfl;have hb6:based (.slice q6 ((A++e::B).map En.sum).length d6)=true:=by obtain ⟨b0,c0,he⟩:=ck (i:=2) hw0 rfl (by simp; omega); rw[he]; rfl
     have hb7:based (.slice q7 ((A++e::B).map En.many).length d7)=true:=by obtain ⟨b0,c0,he⟩:=ck (i:=3) hw0 rfl (by simp; omega); rw[he]; rfl
     have hb9:based (.slice q9 ((A++e::B).map En.fi).length d9)=true:=by obtain ⟨b0,c0,he⟩:=ck (i:=4) hw0 rfl (by simp; omega); rw[he]; rfl
     clear hw0 w0;have hl6:((A++e::B).map En.sum).length=A.length+1+B.length:=by simp; omega
     have hl7:((A++e::B).map En.many).length=A.length+1+B.length:=by simp; omega
     have hl9:((A++e::B).map En.fi).length=A.length+1+B.length:=by simp; omega
     have g6:((A++e::B).map En.sum)[((A.length:Nat):Int).toNat]?=some e.sum:=by rw[zg2,zg1]; exact bV (by simp)
     have g7:((A++e::B).map En.many)[((A.length:Nat):Int).toNat]?=some e.many:=by rw[zg2,zg1]; exact bV (by simp)
     have g9:((A++e::B).map En.fi)[((A.length:Nat):Int).toNat]?=some ((e.fst:Nat):Int):=by rw[zg2,zg1]; exact bV (by simp)
     have gp1:pa[((e.fst:Nat):Int).toNat]?=some (pa.getD e.fst 0):=by
      have h:e.fst<pa.length:=oM;rw[show ((e.fst:Nat):Int).toNat=e.fst by omega,gE h,zg7,gE h]; rfl
     have gp2:pa[((i:Nat):Int).toNat]?=some (pa.getD i 0):=by
      have h:i<pa.length:=oM;rw[show ((i:Nat):Int).toNat=i by omega,gE h,zg7,gE h]; rfl
     obtain ⟨wp,hwp⟩:∃ wp,wp=wr (x.sign * z.sign):=⟨_,rfl⟩;refine sQ ?_;refine dW [20,21] [(0,2),(1,2),(2,2),(3,2),(4,2),(5,1),(6,2),(7,1),(8,2),(9,2),(10,2),(11,1),(12,2),(13,1),(14,2),(15,2),(16,2),(17,1),(18,2),(19,2),(20,0),(21,0)] zd9 kR ?_;refine yM I (yM I (yM I (yM I (pU I (iA ak zT3 I I hb6 oM sL) (pK I (eB iT3 I (zb5 2 I) g6 I) (pU I (fA ar I cA I) (pK I (qL (v:=.slice rp c.sides.length rcap) dE I (cO 6 I I)) (yM I (pU I (iA cM cq I I hb1 oM sL) (pU I (fC dK I zT3 I hb1) (pK I (aZ (e:=encSide) (o:=1) (u:=vi x.sign) iT3 I hcs.rd hix I) (pU I (fA ar I cA I) (pK I (qL (v:=.slice yp yc.sides.length ycap) dE I (cO 0 I I)) (yM I (pU I (iA cM cq I I hb2 oM sL) (pU I (fC dK I zT3 I hb2) (pK I (aZ (e:=encSide) (o:=1) (u:=vi z.sign) iT3 I hys.rd hjx I) (pU I (SU.eq (v':=vi wp) (SU.mulW I I) (by rw[hwp])) ?_))))))))))))))))));refine pU I (zd6 I I) (oU I (iA ak zT3 I I hb6 oM sL) dC (.inl dC) (SP.on I (sT (a:=wr (e.sum+wp)) 2 zT3 I I I oM I) (.inl dC) ?_));rintro _ _ _ ⟨rfl,rfl⟩;refine pN (tN (sW I (lM I (lU (iA ak zT3 I I hb7 oM sL) (lK (eB iT3 I (zb5 3 I) g7 I) (lU (zd6 I I) (lU (iA ak zT3 I I hb7 oM sL) (oZ (sT (a:=wr (e.many+1)) 3 zT3 I I I oM I) (tZ (sW I (lM I (lM I (lU (iA ak zT3 I I hb9 oM sL) (lK (eB iT3 I (zb5 4 I) g9 I) (lU (iA ak zT3 I I I oM sL) (lK (eB iT3 I (zb5 5 I) gp1 I) (aT I (sW I (lM I (lU (iA ak zT3 I I I oM sL) ?_))))))))))))))))))));refine lK (eB iT3 I (zb5 5 I) gp2 I) (aT I (rZ (aT I (bK ?_))));have hm6:((A++e::B).map En.sum).set ((A.length:Nat):Int).toNat (wr (e.sum+wp))=(A++e.up wp::B).map En.sum:=by rw[zg2,zg1,dq (by simp)]; simp[En.up]
     have hm7:((A++e::B).map En.many).set ((A.length:Nat):Int).toNat (wr (e.many+1))=(A++e.up wp::B).map En.many:=by rw[zg2,zg1,dq (by simp)]; simp[En.up]
     have hm5:(A++e::B).map En.id=(A++e.up wp::B).map En.id:=by simp[En.up]
     have hm9:((A++e::B).map En.fi)=(A++e.up wp::B).map En.fi:=by simp[En.up,En.fi]
     generalize hold:pa.getD e.fst 0=old at *;generalize hnow:pa.getD i 0=now at *;refine SC.to (fun w hw=>?_) (g':=g) (s':=pt b11 (.cells #[vi yc.id,vi yc.dim,.slice yp yc.sides.length ycap] 78 (0,0))::rowA encInt 3 u5 ((A++e.up wp::B).map En.id)::rowA encInt 3 (.slice q6 ((A++e::B).map En.sum).length d6) ((A++e.up wp::B).map En.sum)::rowA encInt 3 (.slice q7 ((A++e::B).map En.many).length d7) ((A++e.up wp::B).map En.many)::rowA encInt 3 (.slice q9 ((A++e::B).map En.fi).length d9) ((A++e.up wp::B).map En.fi)::rowA encInt 3 (.slice (some ⟨b8,0,none⟩) c.sides.length c.sides.length) (dL 0 old now pa)::pt b3 (.cells #[vi c.id,vi c.dim,.slice rp c.sides.length rcap] 78 (0,0))::s) ?_
     ·rw[← hm6,← hm7,← hm5,← hm9,wo]; exact hw
     refine oP (ι:=Nat) (fun m=>[(0,.slice vp rs.length vc),(3,pp b3 0),(5,u5),(6,.slice q6 ((A++e::B).map En.sum).length d6),(7,.slice q7 ((A++e::B).map En.many).length d7),(8,.slice (some ⟨b8,0,none⟩) c.sides.length c.sides.length),(9,.slice q9 ((A++e::B).map En.fi).length d9),(10,vi (i:Nat)),(11,pp b11 0),(12,vi (j:Nat)),(14,vi old),(15,vi now),(16,vi (m:Nat))]) (fun _=>g)
      (fun m=>pt b11 (.cells #[vi yc.id,vi yc.dim,.slice yp yc.sides.length ycap] 78 (0,0))::rowA encInt 3 u5 ((A++e.up wp::B).map En.id)::rowA encInt 3 (.slice q6 ((A++e::B).map En.sum).length d6) ((A++e.up wp::B).map En.sum)::rowA encInt 3 (.slice q7 ((A++e::B).map En.many).length d7) ((A++e.up wp::B).map En.many)::rowA encInt 3 (.slice q9 ((A++e::B).map En.fi).length d9) ((A++e.up wp::B).map En.fi)::rowA encInt 3 (.slice (some ⟨b8,0,none⟩) c.sides.length c.sides.length) (dL m old now pa)::pt b3 (.cells #[vi c.id,vi c.dim,.slice rp c.sides.length rcap] 78 (0,0))::s)
      (fun m=>m≤i+1) (fun m=>i+1 - m) 0 sB rfl rfl (zf3 _) ?_
     rintro m hm;have hrel:=lP m old now pa;refine sQ (sW I (lM I (lU (SU.leq I I) (tZ ?_))));refine iP I (fun hlt3=>?_) (fun hlt3=>?_)
     ·have hmp:m<pa.length:=oM;have gm:(dL m old now pa)[((m:Nat):Int).toNat]?=some pa[m]:=zB hmp;have hsuc:=wq (old:=old) (now:=now) hmp;refine kP (tN (sQ (bK (sW I (lM I (lU (iA ak zT3 I I I oM sL) (lK (eB iT3 I (zb5 5 I) gm I) (lM I (yE I (tZ ?_))))))))));refine iP I (fun hcm=>?_) (fun hcm=>?_)
      ·refine rG (lM I (lM I (lM I (lU (iA ak zT3 I I I oM sL) (oZ (sT (a:=old) 5 zT3 I I I (by rw[hrel]; omega) I) ?_)))));refine nL (bN (tN (rG (lM I (yD I (lA I (nL ?_)))))));refine ST.to (fun w hw=>?_) (g':=g) (s':=pt b11 (.cells #[vi yc.id,vi yc.dim,.slice yp yc.sides.length ycap] 78 (0,0))::rowA encInt 3 u5 ((A++e.up wp::B).map En.id)::rowA encInt 3 (.slice q6 ((A++e::B).map En.sum).length d6) ((A++e.up wp::B).map En.sum)::rowA encInt 3 (.slice q7 ((A++e::B).map En.many).length d7) ((A++e.up wp::B).map En.many)::rowA encInt 3 (.slice q9 ((A++e::B).map En.fi).length d9) ((A++e.up wp::B).map En.fi)::rowA encInt 3 (.slice (some ⟨b8,0,none⟩) c.sides.length c.sides.length) (dL (m+1) old now pa)::pt b3 (.cells #[vi c.id,vi c.dim,.slice rp c.sides.length rcap] 78 (0,0))::s) ?_
       ·rw[hsuc,zf7 hcm]; exact hw
       exact gA (m+1) sB I I oM oM
      ·refine kP (bN (tN (rG (lM I (yD I (lA I (nL ?_)))))));refine ST.to (fun w hw=>?_) (g':=g) (s':=pt b11 (.cells #[vi yc.id,vi yc.dim,.slice yp yc.sides.length ycap] 78 (0,0))::rowA encInt 3 u5 ((A++e.up wp::B).map En.id)::rowA encInt 3 (.slice q6 ((A++e::B).map En.sum).length d6) ((A++e.up wp::B).map En.sum)::rowA encInt 3 (.slice q7 ((A++e::B).map En.many).length d7) ((A++e.up wp::B).map En.many)::rowA encInt 3 (.slice q9 ((A++e::B).map En.fi).length d9) ((A++e.up wp::B).map En.fi)::rowA encInt 3 (.slice (some ⟨b8,0,none⟩) c.sides.length c.sides.length) (dL (m+1) old now pa)::pt b3 (.cells #[vi c.id,vi c.dim,.slice rp c.sides.length rcap] 78 (0,0))::s) ?_
       ·rw[hsuc,zf6 hcm]; exact hw
       exact gA (m+1) sB I I oM oM
     ·have hmm:m=i+1:=oM;subst hmm;refine xI (tX (tX (bX (bN (tN (rG (lM I (yD I (lA I (nL ?_))))))))));have hnext:lX i x.sign (fs,pa) z=(A++e.up wp::B,dL (i+1) old now pa):=by
       unfold lX;dsimp only;rw[hfst,hold,hnow,hwp,hbump]
      refine gA ((u5,_,_,_),(A++e.up wp::B,dL (i+1) old now pa),j+1) sB I I ⟨lN,by dsimp only; rw[htk2,hnext],by dsimp only; rw[hrel]; exact hpl2,lN,fun q hq=>?_⟩ lN;have h9:=yy (c:=z.cell) (p:=wp) hil hef2 q (by rw[hbump]; exact hq);exact h9
  ·have hjj:yc.sides.take j=yc.sides:=tL oM;rw[hjj] at hst2;have hnext:om tl (es,part) (x,i)=(fs,pa):=by unfold om; rw[hsx]; exact hst2.symm
   refine xI (tX (tX (bX (bN (tN (rG (lM I (yD I (lA I (nL (dR (s':=rowA encInt 3 (.slice p5 (fs.map En.id).length c5) (fs.map En.id)::rowA encInt 3 (.slice p6 (fs.map En.sum).length c6) (fs.map En.sum)::rowA encInt 3 (.slice p7 (fs.map En.many).length c7) (fs.map En.many)::rowA encInt 3 (.slice p9 (fs.map En.fi).length c9) (fs.map En.fi)::rowA encInt 3 (.slice (some ⟨b8,0,none⟩) c.sides.length c.sides.length) (pa)::pt b3 (.cells #[vi c.id,vi c.dim,.slice rp c.sides.length rcap] 78 (0,0))::s) (.cons _ (.refl _)) ?_)))))))))));exact gA ((_,_,_,_),(fs,pa),i+1) sB I I ⟨lN,by dsimp only; rw[htk,← hst,hnext],hpl2,lN,hef2⟩ lN
 ·have hii:c.sides.take i=c.sides:=tL oM;rw[hii] at hst;have hfin:m4 tl c.sides c.sides.length=(es,part):=hst.symm;refine SC.facts fun ⟨w0,hw0⟩=>?_;obtain ⟨p6,c6,rfl⟩:=ah (i:=1) hw0 rfl;obtain ⟨p7,c7,rfl⟩:=ah (i:=2) hw0 rfl;have hb6:0<es.length→based (.slice p6 (es.map En.sum).length c6)=true:=fun h=>by obtain ⟨b0,c0,he⟩:=ck (i:=1) hw0 rfl (by simpa using h); rw[he]; rfl
  have hb7:0<es.length→based (.slice p7 (es.map En.many).length c7)=true:=fun h=>by obtain ⟨b0,c0,he⟩:=ck (i:=2) hw0 rfl (by simpa using h); rw[he]; rfl
  clear hw0 w0;have hl6:(es.map En.sum).length=es.length:=by simp
  have hl7:(es.map En.many).length=es.length:=by simp
  refine xI (tX (tX (bX (tN (sQ (rZ (aT I (bK ?_))))))));refine oP (ι:=Nat) (fun k=>[(6,.slice p6 (es.map En.sum).length c6),(7,.slice p7 (es.map En.many).length c7),(8,.slice (some ⟨b8,0,none⟩) c.sides.length c.sides.length),(17,vi (k:Nat))]) (fun _=>g)
   (fun _=>rowA encInt 3 v5 (es.map En.id)::rowA encInt 3 (.slice p6 (es.map En.sum).length c6) (es.map En.sum)::rowA encInt 3 (.slice p7 (es.map En.many).length c7) (es.map En.many)::rowA encInt 3 v9 (es.map En.fi)::rowA encInt 3 (.slice (some ⟨b8,0,none⟩) c.sides.length c.sides.length) (part)::pt b3 (.cells #[vi c.id,vi c.dim,.slice rp c.sides.length rcap] 78 (0,0))::s)
   (fun k=>k≤es.length∧(es.take k).any (fun e=>decide (e.sum≠0))=false) (fun k=>es.length - k) 0 sB rfl rfl ⟨zf3 _,by simp⟩ ?_
  rintro k ⟨hk,hno⟩;refine sQ (sW I (lM I (lU (eN ak I) (yL I (tZ ?_)))));refine iP I (fun hltA=>?_) (fun hltA=>?_)
  ·have hkl:k<es.length:=oM;have gk:(es.map En.sum)[((k:Nat):Int).toNat]?=some es[k].sum:=by simp[hkl]
   refine kP (tN (sQ (bK (sW I (lM I (lU (iA ak zT3 I I (hb6 oM) oM sL) (lK (eB iT3 I (zb5 1 I) gk I) (lU (nQ I I) (tZ ?_)))))))));refine iP I (fun hz=>?_) (fun hz=>?_)
   ·refine rZ (aT I (rE (bR (tR (tR (bR (tR ?_)))))));refine dR (s':=s) (by repeat (first | exact zb9 _ | refine List.Sublist.cons _ ?_)) ?_;exact za6 (.inl I) results195 I ⟨by unfold iD; rw[hfin,zf7 (zj5.2 ⟨es[k],gM hkl,by simpa using hz⟩)],I,I⟩
   ·refine kP (bN (tN (rG (lM I (yD I (lA I (nL ?_)))))));exact gA (k+1) sB I I ⟨oM,by rw[tS hkl,List.any_append,hno]; simpa using hz⟩ oM
  ·have hkk:es.take k=es:=tL oM;rw[hkk] at hno;refine xI (tX (tX (bX (tN (sQ (rZ (aT I (bK ?_))))))));refine oP (ι:=Nat) (fun k=>[(7,.slice p7 (es.map En.many).length c7),(8,.slice (some ⟨b8,0,none⟩) c.sides.length c.sides.length),(18,vi (k:Nat))]) (fun _=>g)
    (fun _=>rowA encInt 3 v5 (es.map En.id)::rowA encInt 3 (.slice p6 (es.map En.sum).length c6) (es.map En.sum)::rowA encInt 3 (.slice p7 (es.map En.many).length c7) (es.map En.many)::rowA encInt 3 v9 (es.map En.fi)::rowA encInt 3 (.slice (some ⟨b8,0,none⟩) c.sides.length c.sides.length) (part)::pt b3 (.cells #[vi c.id,vi c.dim,.slice rp c.sides.length rcap] 78 (0,0))::s)
    (fun k=>k≤es.length∧(es.take k).any (fun e=>decide (e.many≠2))=false) (fun k=>es.length - k) 0 sB rfl rfl ⟨zf3 _,by simp⟩ ?_
   rintro k2 ⟨hk2,hno2⟩;refine sQ (sW I (lM I (lU (eN ak I) (yL I (tZ ?_)))));refine iP I (fun hltB=>?_) (fun hltB=>?_)
   ·have hkl:k2<es.length:=oM;have gk:(es.map En.many)[((k2:Nat):Int).toNat]?=some es[k2].many:=by simp[hkl]
    refine kP (tN (sQ (bK (sW I (lM I (lU (iA ak zT3 I I (hb7 oM) oM sL) (lK (eB iT3 I (zb5 2 I) gk I) (lU (nQ I I) (tZ ?_)))))))));refine iP I (fun hz=>?_) (fun hz=>?_)
    ·refine rZ (aT I (rE (bR (tR (tR (bR (tR ?_)))))));refine dR (s':=s) (by repeat (first | exact zb9 _ | refine List.Sublist.cons _ ?_)) ?_;exact za6 (.inl I) results195 I ⟨by unfold iD; rw[hfin,zf6 (by rw[hno]; simp),zf7 (zj5.2 ⟨es[k2],gM hkl,by simpa using hz⟩)],I,I⟩
    ·refine kP (bN (tN (rG (lM I (yD I (lA I (nL ?_)))))));exact gA (k2+1) sB I I ⟨oM,by rw[tS hkl,List.any_append,hno2]; simpa using hz⟩ oM
   ·have hkk2:es.take k2=es:=tL oM;rw[hkk2] at hno2;refine xI (tX (tX (bX (tN (sQ (rZ (aT I (bK ?_))))))));refine oP (ι:=Nat) (fun k=>[(8,.slice (some ⟨b8,0,none⟩) c.sides.length c.sides.length),(19,vi (k:Nat))]) (fun _=>g)
     (fun _=>rowA encInt 3 v5 (es.map En.id)::rowA encInt 3 (.slice p6 (es.map En.sum).length c6) (es.map En.sum)::rowA encInt 3 (.slice p7 (es.map En.many).length c7) (es.map En.many)::rowA encInt 3 v9 (es.map En.fi)::rowA encInt 3 (.slice (some ⟨b8,0,none⟩) c.sides.length c.sides.length) (part)::pt b3 (.cells #[vi c.id,vi c.dim,.slice rp c.sides.length rcap] 78 (0,0))::s)
     (fun k=>k≤c.sides.length∧(part.take k).any (fun q=>decide (q≠part.getD 0 0))=false) (fun k=>c.sides.length - k) 0 sB rfl rfl ⟨zf3 _,by simp⟩ ?_
    rintro k3 ⟨hk3,hno3⟩;refine sQ (sW I (lM I (lU (eN ak I) (yL I (tZ ?_)))));refine iP I (fun hltC=>?_) (fun hltC=>?_)
    ·have hkl:k3<part.length:=oM;have gk:part[((k3:Nat):Int).toNat]?=some part[k3]:=gE hkl;have g0:part[((0:Nat):Int).toNat]?=some (part.getD 0 0):=by
      have h:0<part.length:=oM;rw[show ((0:Nat):Int).toNat=0 from rfl,gE h,zg7,gE h]; rfl
     generalize hp0:part.getD 0 0=p0 at *;refine kP (tN (sQ (bK (sQ ?_))));refine dW [] [(0,2),(1,2),(2,2),(3,1),(4,2),(5,2),(6,1),(7,2)] zd9 kR ?_;refine yM I (yM I (pU I (iA ak zT3 I I I oM sL) (pK I (eB iT3 I (zb5 4 I) gk I) (yM I (pU I (iA ak zT3 I I I dC sL) (pK I (eB iT3 I (zb5 4 I) g0 I) (pU I (nQ I I) (pN (tN ?_)))))))));refine iP I (fun hz=>?_) (fun hz=>?_)
     ·refine rZ (aT I (rE (bR (tR (tR (bR (tR ?_)))))));refine dR (s':=s) (by repeat (first | exact zb9 _ | refine List.Sublist.cons _ ?_)) ?_;exact za6 (.inl I) results195 I ⟨by unfold iD; rw[hfin,zf6 (by rw[hno]; simp),zf6 (by rw[hno2]; simp),zf7 (zj5.2 ⟨part[k3],gM hkl,by rw[hp0]; simpa using hz⟩)],I,I⟩
     ·refine kP (bN (tN (rG (lM I (yD I (lA I (nL ?_)))))));exact gA (k3+1) sB I I ⟨oM,by rw[tS hkl,List.any_append,hno3]; simpa using hz⟩ oM
    ·have hkk3:part.take k3=part:=tL oM;rw[hkk3] at hno3;refine xI (tX (tX (bX (tN (rZ (aT I (rE ?_)))))));refine dR (s':=s) (by repeat (first | exact zb9 _ | refine List.Sublist.cons _ ?_)) ?_;exact za6 (.inl I) results195 I ⟨by unfold iD; rw[hfin,zf6 (by rw[hno]; simp),zf6 (by rw[hno2]; simp),zf6 (by rw[hno3]; simp)],I,I⟩
theorem mM {tl:List Cl}{c:Cl}(h:ct tl c=0):∀ x∈c.sides,(az tl x.cell).isSome=true:=by
 intro x hx;unfold ct at h;split at h
 ·cases h
 split at h
 ·cases h
 split at h
 ·cases h
 rename_i hno;have hno':(List.range c.sides.length).any (iY tl c)=false:=by simpa using hno
 obtain ⟨k,hk,rfl⟩:=zc4 hx;have h1:=zk2.1 hno' k (List.mem_range.2 hk);cases hf:(az tl c.sides[k].cell).isSome with
 | true=>rfl
 | false =>
  exfalso;apply h1;unfold iY;rw[gE hk];exact o8 (by rw[hf]; simp)
theorem kX {tl:List Cl}:∀ {L:List Cl} {last:Int},gK tl L last=none→(∀ x∈L,last<x.id)∧L.Pairwise fun a b=>a.id<b.id
 | [],_,_=>⟨by simp,List.Pairwise.nil⟩
 | x::r,last,h=>by
  unfold gK at h;split at h
  ·cases h
  ·rename_i h1;split at h
   ·cases h
   ·obtain ⟨h2,h3⟩:=kX h;refine⟨fun y hy=>?_,zj9.2 ⟨h2,h3⟩⟩
    rcases ze7.1 hy with rfl | hy
    ·omega
    ·have:=h2 y hy; omega
theorem ni:∀ {L acc:List Cl},(acc++L).Pairwise (fun a b=>a.id<b.id)→L.foldl gC acc=acc++L
 | [],acc,_=>by simp
 | x::r,acc,h=>by
  have h1:acc.any (fun y=>y.id == x.id)=false:=by
   rw[zk2];intro y hy;have:=(List.pairwise_append.1 h).2.2 y hy x (by simp);simp;omega
  rw[zi5,lq h1,ni (by simpa using h)];simp
theorem bA {l:List Cl}(h:(aa l).Pairwise fun a b=>a.id<b.id):ab l=aa l:=by
 unfold ab;rw[ni (by simpa using h)];rfl
def m8 (tl:List Cl):List Cl→Option (Int×Int)
 | []=>none
 | x::r=>if x.dim>1∧iD tl x≠0 then some (x.id,iD tl x) else m8 tl r
def aC (l:List Cl):Int×Int:=if (l.length:Int)>4000 then (0,2) else (gK (ab l) (aa l) 0).getD ((m8 (aa l) (aa l)).getD (0,0))
def gB (L:List Cl)(i:Nat):Int:=if i=0 then 0 else (L.getD (i - 1) gt).id
theorem wK {L:List Cl}{i:Nat}(h:i<L.length):gB L (i+1)=L[i].id:=by
 unfold gB;rw[zf6 oM];simp[h]
theorem s9 (E:World)(g:PH)(s:Own)(v:Value)(l:List Cl)(hv:am g v l)(hf:cZ l) :
  Ctr Tryz.prog E 143 #[.agg #[v]] g s (fun r g' s'=>r = .tuple #[vi (aC l).1,vi (aC l).2]∧s=s'∧Le g g'):=by
 obtain ⟨p,c,rfl⟩:=hv.form;have hsrt:=iu l;have hcl:=aq l;have hfc:=cJ hf;have hft:=e6 hf;have hts:=eV l;have hcs:=fV l;refine za9 (args:=[.agg #[.slice p l.length c]]) func143 I ntmps143 (bE I) ?_;refine rZ (bW (bO I) fun b1=>?_);refine lA I (aT I (sQ (rZ (lU (fA fq I ek I) (lK (qL ii I (cO 0 I I)) (lU (eN aO I) (lU (gR I I) (tZ ?_))))))));refine iP I (fun hmany=>?_) (fun hmany=>?_)
 ·refine rZ (lA I (aT I (rE (tR (dR (s':=s) uR ?_)))));exact ST.ret2 (.inl I) results143 I I ⟨by unfold aC; rw[zf7 oM],I,zb7 g⟩
 ·refine kP (tN (rZ (lU (fA fq I ek I) (lK (qL ii I (cO 0 I I)) (lW (cL call111 I (jR E l.length g _ _ l (lR _) hv hf)) ?_)))));rintro v16 g1 _ ⟨rfl,hle1,hL⟩;obtain ⟨rs,hrs,hall⟩:=hL;have hrl:=hall.length;obtain ⟨q,d,rfl⟩:=hrs.form;refine aT I (rZ (lK (qV 0 bq aw I I I) (lW (cL call65 I (fM E g1 _ _ l (hv.mono hle1) hf)) ?_)));rintro v18 g2 _ ⟨rfl,hle2,hO⟩;have hrs2:=hrs.mono hle2;have hall2:=hall.mono fun _ _=>au.mono hle2;obtain ⟨q2,d2,rfl⟩:=hO.form;refine aT I (sQ (rZ (aT I (bK ?_))));have hLc:am g2 (.slice q rs.length d) (aa l):=⟨rs,hrs2,hall2⟩;have hchk:aC l=(gK (ab l) (aa l) 0).getD ((m8 (aa l) (aa l)).getD (0,0)):=by unfold aC; rw[zf6 oM]
  refine oP (ι:=Nat) (fun i=>[(1,pp b1 0),(4,.slice q rs.length d),(5,.slice q2 (ab l).length d2),(6,vi i)]) (fun _=>g2) (fun _=>pt b1 (.cells #[.slice p l.length c] 30 (0,0))::s)
   (fun i=>i≤rs.length∧gK (ab l) (aa l) 0=gK (ab l) ((aa l).drop i) (gB (aa l) i)∧(0<i→1≤gB (aa l) i)) (fun i=>rs.length - i) 0
   sB rfl rfl ⟨zf3 _,rfl,fun h=>absurd h oM⟩ ?_
  rintro i ⟨hi,hc1,hl1⟩;refine sQ (sW I (lM I (lU (eN aO I) (yL I (tZ ?_)))));refine iP I (fun hlt=>?_) (fun hlt=>?_)
  ·have hil:i<(aa l).length:=oM;have hir:i<rs.length:=oM;have hb1:=hrs2.based oM;have hcr:=hall2.get (gE hil) (gE hir);have hgx:rs[((i:Nat):Int).toNat]?=some rs[i]:=gE hir;have hdrop:(aa l).drop i=(aa l)[i]::(aa l).drop (i+1):=zg3 hil;have hxl:=hfc.2 _ (gM hil);have hls:=wK hil;rw[hdrop] at hc1;have hprev:0<i→∃ (r:Rc),rs[((i:Int) - 1).toNat]?=some r∧r.id=gB (aa l) i∧gB (aa l) i≤(aa l)[i].id:=fun h=>by
    have h2:i - 1<rs.length:=oM;have h3:i - 1<(aa l).length:=oM;refine⟨rs[i - 1],by rw[show ((i:Int) - 1).toNat=i - 1 by omega]; exact gE h2,?_,?_⟩
    ·have:=(hall2.get (gE h3) (gE h2)).1;rw[this];unfold gB;rw[zf6 oM];simp[h3]
    ·have:=zc6.1 hsrt (i - 1) i h3 hil oM;unfold gB;rw[zf6 oM];simpa [h3] using this
   generalize (aa l)[i]=x at *;generalize rs[i]=rx at *;obtain ⟨hx1,hx2,hx3⟩:=hcr;have hcr:au g2 x rx:=⟨hx1,hx2,hx3⟩;have hbad:x.id≤gB (aa l) i→aC l=(x.id,20):=fun h=>by rw[hchk,hc1,gK,zf7 h]; rfl
   by_cases hx0:x.id<1
   ·have hle0:x.id≤gB (aa l) i:=by
     by_cases h0:0<i
     ·have:=hl1 h0; omega
     ·have:i=0:=oM;subst this;show x.id≤0;omega
    refine kP (tN (sQ (bK (sQ (sQ ?_)))));refine dW [] [(0,2),(1,2),(2,2),(3,2),(4,1),(5,2),(6,2),(7,2),(8,2),(9,2),(10,2),(11,2),(12,2),(13,2),(14,1),(15,2),(16,2),(17,2),(18,2),(19,2),(20,1),(21,2),(22,2),(23,2)] zd9 kR ?_;refine yM I (yM I (pU I (iA aO aK I I hb1 oM sL) (pU I (fC ar I zT3 I hb1) (pK I (aZ (e:=encCell) (o:=0) (u:=vi x.id) iT3 I hrs2.rd hgx (by rw[← hx1]; rfl)) ?_))));refine pU I (SU.eq (v':=vb true) (lS I I) (zd8 vb (zf5 hx0))) (yM I (yG I (yG I (yG I (yH I (yH I (yH I (yH I (SP.off1 I (zb2 I I I dC) dC (yH I (yH I (yH I (yH I (yH I (SP.off1 I (zb2 I I I dC) dC (yH I (yG I (pU I (wT I I) (pN (tN (cT I (sW I (lM I (lU (iA aO aK I I hb1 oM sL) (lU (fC ar I zT3 I hb1) (lK (aZ (e:=encCell) (o:=0) (u:=vi x.id) iT3 I hrs2.rd hgx (by rw[← hx1]; rfl)) ?_))))))))))))))))))))))))));refine lA I (aT I (rE (tR (bR (tR (tR (bR (tR (dR (s':=s) uR ?_)))))))));exact ST.ret2 (.inl I) results143 I I ⟨by rw[hbad hle0],I,hle1.trans hle2⟩
   ·have hgo:gB (aa l) i<x.id→gK (ab l) (aa l) 0=if ct (ab l) x≠0 then some (x.id,ct (ab l) x) else gK (ab l) ((aa l).drop (i+1)) (gB (aa l) (i+1)):=fun h=>by
     rw[hc1,gK,zf6 oM,hls]
    by_cases hi0:(i:Int)>0
    ·obtain ⟨rp,hrp,hrpi,hrple⟩:=hprev oM;refine kP (tN (sQ (bK (sQ (sQ ?_)))));refine dW [] [(0,2),(1,2),(2,2),(3,2),(4,1),(5,2),(6,2),(7,2),(8,2),(9,2),(10,2),(11,2),(12,2),(13,2),(14,1),(15,2),(16,2),(17,2),(18,2),(19,2),(20,1),(21,2),(22,2),(23,2)] zd9 kR ?_;refine yM I (yM I (pU I (iA aO aK I I hb1 oM sL) (pU I (fC ar I zT3 I hb1) (pK I (aZ (e:=encCell) (o:=0) (u:=vi x.id) iT3 I hrs2.rd hgx (by rw[← hx1]; rfl)) ?_))));refine pU I (SU.eq (v':=vb false) (lS I I) (zd8 vb (zf4 hx0))) (yM I (yJ I (zb1 I (gT I I I dC) (SU.eq (v':=vb true) (gR I I) (zd8 vb (zf5 hi0))) dC (yJ I (yJ I (yJ I (zb1 I (gT I I I dC) (iA aO aK I I hb1 oM sL) dC (zb1 I (gT I I I dC) (fC ar I zT3 I hb1) dC (SP.gq I (gT I I I dC) (aZ (e:=encCell) (o:=0) (u:=vi x.id) iT3 I hrs2.rd hgx (by rw[← hx1]; rfl)) dC ?_)))))))));refine yJ I (yJ I (zb1 I (gT I I I dC) (sU I I oM) dC (zb1 I (gT I I I dC) (iA aO aK I I hb1 oM sL) dC (zb1 I (gT I I I dC) (fC ar I zT3 I hb1) dC (SP.gq I (gT I I I dC) (aZ (e:=encCell) (o:=0) (u:=vi (gB (aa l) i)) iT3 I hrs2.rd hrp (by rw[← hrpi]; rfl)) dC ?_)))));refine zb1 I (gT I I I dC) (eQ I I) dC (zb1 I (gT I I I dC) (wT I I) dC (pU I (wF I I) (pN (tN ?_))));refine iP I (fun heq=>?_) (fun heq=>?_)
     ·refine sW I (lM I (lU (iA aO aK I I hb1 oM sL) (lU (fC ar I zT3 I hb1) (lK (aZ (e:=encCell) (o:=0) (u:=vi x.id) iT3 I hrs2.rd hgx (by rw[← hx1]; rfl)) ?_))));refine lA I (aT I (rE (tR (bR (tR (tR (bR (tR (dR (s':=s) uR ?_)))))))));exact ST.ret2 (.inl I) results143 I I ⟨by rw[hbad oM],I,hle1.trans hle2⟩
     ·refine kP (tN (sW I (lM I (lM I (lU (iA aO aK I I hb1 oM sL) (lK (eA (e:=encCell) gJ aK I hrs2.rd hgx) (lW (cL call194 I (ru E g2 _ _ (ab l) x rx hO hft.1 hts hcr hxl)) ?_)))))));rintro _ _ _ ⟨rfl,rfl,rfl⟩;refine aT I (sW I (lU (nQ I I) (tZ ?_)));have hg:=hgo oM;refine iP I (fun he=>?_) (fun he=>?_)
      ·rw[zf7 he] at hg;refine sW I (lM I (lU (iA aO aK I I hb1 oM sL) (lU (fC ar I zT3 I hb1) (lK (aZ (e:=encCell) (o:=0) (u:=vi x.id) iT3 I hrs2.rd hgx (by rw[← hx1]; rfl)) ?_))));refine lM I (lA I (aT I (rE (bR (tR (tR (bR (tR (dR (s':=s) uR ?_)))))))));exact ST.ret2 (.inl I) results143 I I ⟨by rw[hchk,hg]; rfl,rfl,hle1.trans hle2⟩
      ·rw[zf6 he] at hg;refine kP (bN (tN (rG (lM I (yD I (lA I (nL ?_)))))));exact gA (i+1) sB I I ⟨oM,hg,fun _=>by rw[hls]; omega⟩ oM
    ·have hi00:i=0:=oM;have hg:=hgo (by rw[hi00]; show (0:Int)<x.id; omega);refine kP (tN (sQ (bK (sQ (sQ ?_)))));refine dW [] [(0,2),(1,2),(2,2),(3,2),(4,1),(5,2),(6,2),(7,2),(8,2),(9,2),(10,2),(11,2),(12,2),(13,2),(14,1),(15,2),(16,2),(17,2),(18,2),(19,2),(20,1),(21,2),(22,2),(23,2)] zd9 kR ?_;refine yM I (yM I (pU I (iA aO aK I I hb1 oM sL) (pU I (fC ar I zT3 I hb1) (pK I (aZ (e:=encCell) (o:=0) (u:=vi x.id) iT3 I hrs2.rd hgx (by rw[← hx1]; rfl)) ?_))));refine pU I (SU.eq (v':=vb false) (lS I I) (zd8 vb (zf4 hx0))) (yM I (yJ I (zb1 I (gT I I I dC) (SU.eq (v':=vb false) (gR I I) (zd8 vb (zf4 hi0))) dC (yJ I (yG I (yG I (yG I (yG I (yI I (yG I (yG I (yG I (yG I (yG I (yI I (yG I (zb1 I (gT I I I dC) (wF I I) dC (pU I (wF I I) (pN (tN (cF I (kP (tN (sW I (lM I (lM I (lU (iA aO aK I I hb1 oM sL) ?_)))))))))))))))))))))))))));refine lK (eA (e:=encCell) gJ aK I hrs2.rd hgx) (lW (cL call194 I (ru E g2 _ _ (ab l) x rx hO hft.1 hts hcr hxl)) ?_);rintro _ _ _ ⟨rfl,rfl,rfl⟩;refine aT I (sW I (lU (nQ I I) (tZ ?_)));refine iP I (fun he=>?_) (fun he=>?_)
     ·rw[zf7 he] at hg;refine sW I (lM I (lU (iA aO aK I I hb1 oM sL) (lU (fC ar I zT3 I hb1) (lK (aZ (e:=encCell) (o:=0) (u:=vi x.id) iT3 I hrs2.rd hgx (by rw[← hx1]; rfl)) ?_))));refine lM I (lA I (aT I (rE (bR (tR (tR (bR (tR (dR (s':=s) uR ?_)))))))));exact ST.ret2 (.inl I) results143 I I ⟨by rw[hchk,hg]; rfl,rfl,hle1.trans hle2⟩
     ·rw[zf6 he] at hg;refine kP (bN (tN (rG (lM I (yD I (lA I (nL ?_)))))));exact gA (i+1) sB I I ⟨oM,hg,fun _=>by rw[hls]; omega⟩ oM
  ·have hid:(aa l).drop i=[]:=List.drop_eq_nil_of_le oM;rw[hid] at hc1;have hnone:gK (ab l) (aa l) 0=none:=hc1;have hst:=(kX hnone).2;have htab:=bA hst;have hform:=lI hnone;rw[hnone] at hchk;have hchk2:aC l=(m8 (aa l) (aa l)).getD (0,0):=hchk;refine xI (tX (tX (bX (tN (sQ (rZ (aT I (bK ?_))))))));refine oP (ι:=Nat) (fun i=>[(1,pp b1 0),(4,.slice q rs.length d),(8,vi i)]) (fun _=>g2) (fun _=>pt b1 (.cells #[.slice p l.length c] 30 (0,0))::s)
    (fun i=>i≤rs.length∧m8 (aa l) (aa l)=m8 (aa l) ((aa l).drop i)) (fun i=>rs.length - i) 0
    sB rfl rfl ⟨zf3 _,rfl⟩ ?_
   rintro j ⟨hj,hc2⟩;refine sQ (sW I (lM I (lU (eN aO I) (yL I (tZ ?_)))));refine iP I (fun hlt2=>?_) (fun hlt2=>?_)
   ·have hjl:j<(aa l).length:=oM;have hjr:j<rs.length:=oM;have hb1:=hrs2.based oM;have hcr:=hall2.get (gE hjl) (gE hjr);have hgx:rs[((j:Nat):Int).toNat]?=some rs[j]:=gE hjr;have hdrop:(aa l).drop j=(aa l)[j]::(aa l).drop (j+1):=zg3 hjl;have hxm:(aa l)[j]∈aa l:=gM hjl;rw[hdrop] at hc2;generalize (aa l)[j]=x at *;generalize rs[j]=rx at *;obtain ⟨hx1,hx2,hx3⟩:=hcr;have hcr:au g2 x rx:=⟨hx1,hx2,hx3⟩;have haok:=AI hform hxm;have hfound:=mM (hform x hxm);rw[htab] at haok hfound;refine kP (tN (sQ (bK (sQ (sW I (lM I (lU (iA aO aK I I hb1 oM sL) (lU (fC ar I zT3 I hb1) (lK (aZ (e:=encCell) (o:=1) (u:=vi x.dim) iT3 I hrs2.rd hgx (by rw[← hx2]; rfl)) ?_)))))))));refine yL I (tZ ?_);refine iP I (fun hdm=>?_) (fun hdm=>?_)
    ·refine xI (tX (bX (tN (rG (lM I (yD I (lA I (nL ?_))))))));exact gA (j+1) sB I I ⟨oM,by rw[hc2,m8,zf6 (fun h=>by omega)]⟩ oM
    ·refine kP (tN (sW I (lM I (lM I (lU (iA aO aK I I hb1 oM sL) (lK (eA (e:=encCell) gJ aK I hrs2.rd hgx) (lW (cL call195 I (wm E g2 _ _ (aa l) x rx hLc hfc.1 hcs hcr haok.1 hfound (fun y hy=>(haok.2.2 y hy).1))) ?_)))))));rintro _ _ _ ⟨rfl,rfl,rfl⟩;refine aT I (sW I (lU (nQ I I) (tZ ?_)));refine iP I (fun he=>?_) (fun he=>?_)
     ·refine sW I (lM I (lU (iA aO aK I I hb1 oM sL) (lU (fC ar I zT3 I hb1) (lK (aZ (e:=encCell) (o:=0) (u:=vi x.id) iT3 I hrs2.rd hgx (by rw[← hx1]; rfl)) ?_))));refine lM I (lA I (aT I (rE (bR (tR (tR (bR (tR (dR (s':=s) uR ?_)))))))));exact ST.ret2 (.inl I) results143 I I ⟨by rw[hchk2,hc2,m8,zf7 ⟨oM,he⟩]; rfl,rfl,hle1.trans hle2⟩
     ·refine kP (bN (tN (rG (lM I (yD I (lA I (nL ?_)))))));exact gA (j+1) sB I I ⟨oM,by rw[hc2,m8,zf6 (fun h=>he h.2)]⟩ oM
   ·have hjd:(aa l).drop j=[]:=List.drop_eq_nil_of_le oM;rw[hjd] at hc2;refine xI (tX (tX (bX (tN (rZ (lA I (aT I (rE (dR (s':=s) uR ?_)))))))));exact ST.ret2 (.inl I) results143 I I ⟨by rw[hchk2,hc2]; rfl,rfl,hle1.trans hle2⟩
theorem jd (E:World)(g:PH)(s:Own)(v:Value)(l:List Cl)(hv:am g v l)(hf:cZ l) :
  Ctr Tryz.prog E 106 #[.agg #[v]] g s (fun r g' s'=>r=vb (decide ((aC l).2=0))∧s=s'∧Le g g'):=by
 refine za9 (args:=[.agg #[v]]) func106 I ntmps106 (bE I) ?_;refine rZ (bW (bO I) fun b1=>?_);refine aT I (rZ (lK (qV 0 bq aw I I I) (lW (cL call143 I (s9 E g _ _ l hv hf)) ?_)));rintro _ g1 _ ⟨rfl,rfl,hle⟩;refine lM I (yX I (yX I (lA I (aT I (sW I (yE I (aT I (rE (dR (s':=s) uR ?_)))))))));exact za6 (.inl I) results106 I ⟨I,I,hle⟩
theorem vu {a b:List Int}(h:a.length≠b.length):decide (aj a b<0)=decide ((a.length:Int)<b.length):=by
 unfold aj
 rcases bB a.length b.length with ⟨h1,e⟩ | ⟨h1,e⟩ | ⟨h1,e⟩
 ·rw[e]; simp; omega
 ·omega
 ·rw[e]; simp; omega
theorem fU {a b:List Int}(h:a.length=b.length):aj a b=gx a b:=by
 unfold aj
 rcases bB a.length b.length with ⟨h1,e⟩ | ⟨h1,e⟩ | ⟨h1,e⟩
 ·omega
 ·rw[e]; simp
 ·omega
theorem vv {x y:Int}{a b:List Int}(h:x≠y):decide (gx (x::a) (y::b)<0)=decide (x<y):=by
 rw[decide_eq_decide];simp only[gx]
 rcases bB x y with ⟨h1,e⟩ | ⟨h1,e⟩ | ⟨h1,e⟩
 ·rw[e]; simp; omega
 ·omega
 ·rw[e]; simp; omega
theorem vw {x y:Int}{a b:List Int}(h:x=y):gx (x::a) (y::b)=gx a b:=by
 simp only[gx]
 rcases bB x y with ⟨h1,e⟩ | ⟨h1,e⟩ | ⟨h1,e⟩
 ·omega
 ·rw[e]; simp
 ·omega
theorem pW (E:World)(g:PH)(s:Own)(v u:Value)(a b:List Int)(hv:bT g v a)(hu:bT g u b)(hl:a.length<1099511627776) :
  Ctr Tryz.prog E 110 #[v,u] g s (fun r g' s'=>r=vb (decide (aj a b<0))∧g=g'∧s=s'):=by
 obtain ⟨p,c,rfl⟩:=za2 hv;obtain ⟨q,d,rfl⟩:=za2 hu;refine za9 (args:=[.slice p a.length c,.slice q b.length d]) func110 I ntmps110 (bE I) ?_;refine rZ (aT I (sQ (sW I (lU (eN ak I) (lM I (lU (eN ak I) (lU (nQ I I) (tZ ?_))))))));refine iP I (fun hne=>?_) (fun hne=>?_)
 ·refine sW I (lU (eN ak I) (lM I (lU (eN ak I) (yL I (aT I (rE (tR ?_)))))));exact za6 (.inl I) results110 I ⟨by rw[vu oM],I,I⟩
 ·have hlen:a.length=b.length:=oM;have hcc:=fU hlen;refine kP (tN (sQ (rZ (aT I (bK ?_)))));refine oP (ι:=Nat) (fun k=>[(0,.slice p a.length c),(1,.slice q b.length d),(5,vi k)]) (fun _=>g) (fun _=>s) (fun k=>k≤a.length∧gx a b=gx (a.drop k) (b.drop k)) (fun k=>a.length - k) 0
   sB rfl rfl ⟨zf3 _,by simp⟩ ?_
  rintro k ⟨hk,heq⟩;refine sQ (sW I (lM I (lU (eN ak I) (yL I (tZ ?_)))));refine iP I (fun hlt=>?_) (fun hlt=>?_)
  ·have hka:k<a.length:=oM;have hkb:k<b.length:=oM;have hb1:=za4 hv oM;have hb2:=za4 hu oM;rw[zg3 hka,zg3 hkb] at heq;refine kP (tN (sQ (bK (sQ ?_))));refine dW [] [(0,2),(1,2),(2,2),(3,1),(4,2),(5,2),(6,2),(7,1),(8,2)] zd9 kR ?_;refine yM I (yM I (pU I (iA ak zT3 I I (by assumption) oM (by (simp[slen]; omega))) ?_));refine pQ I (eB iT3 I (za5 hv) (gE hka) I) dC ?_;refine yM I (yM I (pU I (iA ak zT3 I I (by assumption) oM (by (simp[slen]; omega))) ?_));refine pQ I (eB iT3 I (za5 hu) (gE hkb) I) dC ?_;refine pU I (nQ I I) (pN (tN ?_));refine iP I (fun hd=>?_) (fun hd=>?_)
   ·refine sQ ?_;refine dW [] [(0,2),(1,2),(2,2),(3,1),(4,2),(5,2),(6,2),(7,1),(8,2),(9,2)] zd9 kR ?_;refine yM I (yM I (pU I (iA ak zT3 I I (by assumption) oM (by (simp[slen]; omega))) ?_));refine pQ I (eB iT3 I (za5 hv) (gE hka) I) dC ?_;refine yM I (yM I (pU I (iA ak zT3 I I (by assumption) oM (by (simp[slen]; omega))) ?_));refine pQ I (eB iT3 I (za5 hu) (gE hkb) I) dC ?_;refine pU I (lS I I) (pU I (aS I) (pN (tN (rE (bR (tR (tR (bR (tR ?_)))))))));exact za6 (.inl I) results110 I ⟨by rw[hcc,heq,vv hd],I,I⟩
   ·refine kP (bN (tN (rG (lM I (yD I (lA I (nL ?_)))))));exact gA (k+1) sB I I ⟨oM,by rw[heq,vw (zg6 hd)]⟩ oM
  ·rw[List.drop_eq_nil_of_le oM,List.drop_eq_nil_of_le oM] at heq;refine xI (tX (tX (bX (tN (rZ (aT I (rE ?_)))))));exact za6 (.inl I) results110 I ⟨by rw[hcc,heq]; rfl,rfl,rfl⟩
theorem qX (E:World)(g:PH)(s:Own)(v u:Value)(ls:List (List Int))(t:List Int)(hv:aF g v ls)(hu:bT g u t)(hl:ls.length<1099511627776)(hll:∀ x∈ls,x.length<1099511627776)(htl:t.length<1099511627776)(hs:sZ ls) :
  Ctr Tryz.prog E 63 #[v,u] g s (fun r g' s'=>r = .tuple #[vi (lbL ls t),vb (ls.contains t)]∧g=g'∧s=s'):=by
 obtain ⟨rs,hrs,hall⟩:=hv;have hlen:=hall.length;have hmono:=xF hs t;obtain ⟨p,c,rfl⟩:=za2 hrs;refine za9 (args:=[.slice p rs.length c,u]) func63 I ntmps63 (bE I) ?_;refine rZ (lA I (aT I (rZ (aT I (sW I (lU (eN bH I) (aT I (sQ (bK ?_)))))))));refine oP (ι:=Nat×Nat) (fun q=>[(0,.slice p rs.length c),(1,u),(6,vi q.1),(7,vi q.2)]) (fun _=>g) (fun _=>s)
  (fun q=>q.1≤q.2∧q.2≤ls.length∧(∀ k (h:k<ls.length),k<q.1→aj ls[k] t<0)∧∀ k (h:k<ls.length),q.2≤k→¬ aj ls[k] t<0) (fun q=>q.2 - q.1) (0,ls.length)
  ⟨rfl,rfl,rfl,bP oM,trivial⟩ rfl rfl ⟨zf3 _,lR _,fun k _ h=>absurd h oM,fun k h1 h2=>absurd h1 (by dsimp only at h2; omega)⟩ ?_
 rintro ⟨i,j⟩ ⟨hij,hj,hlo,hhi⟩;dsimp only at hij hj hlo hhi ⊢;refine sQ (sW I (lM I (yL I (tZ ?_))));refine iP I (fun hlt=>?_) (fun hlt=>?_)
 ·have hb1:=hrs.based oM;have hml:(i+j) / 2<ls.length:=oM;have hmr:(i+j) / 2<rs.length:=oM;have hmx:rs[((((i+j) / 2:Nat):Int)).toNat]?=some rs[(i+j) / 2]:=gE hmr;have hR:=hall.get (gE hml) (gE hmr);have hxl:=hll _ (gM hml);refine kP (tN (bK (sW I (lM I (yD I (lU (SU.eq (v':=vi (((i+j) / 2:Nat):Int)) (SU.quo I I dC) (zd8 vi (by rw[← Int.natCast_add]; exact lG _ oM))) ?_))))));refine aT I (sW I (lM I (lU (iA bH bZ I I hb1 oM sL) (lK (eB dx I hrs.rd hmx I) (lM I (lW (cL call110 I (pW E g _ _ _ ls[(i+j) / 2] t hR hu hxl)) ?_))))));rintro _ _ _ ⟨rfl,rfl,rfl⟩;refine tZ ?_;refine iP I (fun hc=>?_) (fun hc=>?_)
  ·refine rG (lM I (yD I (lA I (nL (bN ?_)))));refine gA ((i+j) / 2+1,j) sB I I ⟨lN,hj,fun k hk h=>?_,hhi⟩ lN;dsimp only at h
   rcases Nat.eq_or_lt_of_le (show k≤(i+j) / 2 by omega) with rfl | h'
   ·exact hc
   ·exact hmono k ((i+j) / 2) hk hml h' hc
  ·refine rG (lM I (lA I (nL (bN ?_))));refine gA (i,(i+j) / 2) sB I I ⟨lN,lN,hlo,fun k hk h=>?_⟩ lN;dsimp only at h
   rcases Nat.eq_or_lt_of_le (show (i+j) / 2≤k by omega) with h' | h'
   ·subst h'; exact hc
   ·exact fun hx=>hc (hmono ((i+j) / 2) k hml hk h' hx)
 ·have hie:i=j:=oM;subst hie;have hlb:lbL ls t=i:=Fi hj (fun k h h'=>by simpa using hlo k h h') (fun k h h'=>by simpa using hhi k h h');by_cases hin:(i:Int)<(rs.length:Int)
  ·have hil:i<ls.length:=oM;have hir:i<rs.length:=oM;have hb1:=hrs.based oM;have hmx:rs[((i:Nat):Int).toNat]?=some rs[i]:=gE hir;have hR:=hall.get (gE hil) (gE hir);have hfound:(!decide (aj t ls[i]<0))=ls.contains t:=by
    have h1:=hhi i hil (lR _);by_cases h2:aj t ls[i]<0
    ·rw[zf5 h2];symm;rw[Bool.not_true,← zj4];intro hm;have hm':t∈ls:=by simpa using hm
     obtain ⟨k,hk,rfl⟩:=zc4 hm'
     rcases Nat.lt_trichotomy k i with h3 | h3 | h3
     ·have:=hlo k hk h3; rw[cj] at this; omega
     ·subst h3; rw[cj] at h2; omega
     ·exact zc6.1 hs i k hil hk h3 h2
    ·rw[zf4 h2];have h3:t=ls[i]:=by
      rcases dn t ls[i] with h | h | h
      ·exact absurd h h2
      ·exact h
      ·exact absurd h h1
     symm;rw[Bool.not_false];have:t∈ls:=by rw[h3]; exact gM hil
     simpa using this
   refine xI (tX (tX (bX (tN (sW I (lM I (lM I (lU (eN bH I) (lU (SU.eq (v':=vb true) (lS I I) (zd8 vb (zf5 hin))) (lM I (yC I (yC I (yC I (lY I I I (iA bH bZ I I hb1 oM sL) (SL.gq (gT I I I dC) (eB dx I hrs.rd hmx I) dC (zd7 (gT I I I dC) (cL call110 I (pW E g _ _ _ t ls[i] hu hR htl)) dC ?_))))))))))))))));rintro _ _ _ ⟨rfl,rfl,rfl⟩;refine lY I I I (SU.not I) (yP I (lA I (aT I (rE ?_))));exact ST.ret2 (.inl I) results63 I I ⟨by rw[hlb,← hfound],I,I⟩
  ·have hnf:ls.contains t=false:=by
    rw[← zj4];intro hm;have hm':t∈ls:=by simpa using hm
    obtain ⟨k,hk,rfl⟩:=zc4 hm';have:=hlo k hk oM;rw[cj] at this;omega
   refine xI (tX (tX (bX (tN (sW I (lM I (lM I (lU (eN bH I) (lU (SU.eq (v':=vb false) (lS I I) (zd8 vb (zf4 hin))) (lM I (yA I (yA I (yA I (yA I (yA I (yA I (yA I (yF I (lA I (aT I (rE ?_)))))))))))))))))))));exact ST.ret2 (.inl I) results63 I I ⟨by rw[hlb,hnf],I,I⟩
abbrev dw (l:List Int):Prop:=l.Pairwise (· < ·)
theorem i9:∀ {l m:List Int},dw l→dw m→(∀ x,x∈l↔x∈m)→l=m
 | [],[],_,_,_=>rfl
 | [],y::m,_,_,h=>by have:=(h y).2 (by simp); simp at this
 | x::l,[],_,_,h=>by have:=(h x).1 (by simp); simp at this
 | x::l,y::m,hl,hm,h=>by
  obtain ⟨h1,h2⟩:=zj9.1 hl;obtain ⟨h3,h4⟩:=zj9.1 hm;have hxy:x=y:=by
   rcases ze7.1 ((h x).1 (by simp)) with e | hx
   ·exact e
   ·rcases ze7.1 ((h y).2 (by simp)) with e | hy
    ·exact e.symm
    ·have:=h3 x hx; have:=h1 y hy; omega
  subst hxy;rw[i9 h2 h4 fun z=>?_];constructor
  ·intro hz
   rcases ze7.1 ((h z).1 (by simp[hz])) with e | hz'
   ·have:=h1 z hz; omega
   ·exact hz'
  ·intro hz
   rcases ze7.1 ((h z).2 (by simp[hz])) with e | hz'
   ·have:=h3 z hz; omega
   ·exact hz'
theorem i7:∀ {x:Int} {l:List Int},(x::l).Pairwise (· ≤ ·)→dw (aX (fun a b:Int=>decide (a=b)) x l)∧(∀ y∈aX (fun a b:Int=>decide (a=b)) x l,x<y)∧∀ y,y∈l→y=x∨y∈aX (fun a b:Int=>decide (a=b)) x l
 | x,[],_=>⟨List.Pairwise.nil,by simp[aX],by simp⟩
 | x,y::r,h=>by
  obtain ⟨h1,h2⟩:=zj9.1 h;obtain ⟨i1,i2,i3⟩:=i7 h2;have hxy:=h1 y (by simp);unfold aX;by_cases e:y=x
  ·subst e;simp only[decide_true,if_true];refine⟨i1,i2,fun z hz=>?_⟩
   rcases ze7.1 hz with rfl | hz
   ·exact .inl I
   ·exact i3 z hz
  ·simp only[e,decide_false];refine⟨zj9.2 ⟨i2,i1⟩,fun z hz=>?_,fun z hz=>?_⟩
   ·rcases ze7.1 hz with rfl | hz
    ·omega
    ·have:=i2 z hz; omega
   ·rcases ze7.1 hz with rfl | hz
    ·exact .inr (by simp)
    ·rcases i3 z hz with rfl | h
     ·exact .inr (by simp)
     ·exact .inr (by simp[h])
theorem jO (l:List Int):(dZ l).Pairwise (· ≤ ·):=by
 have:=List.pairwise_mergeSort (le:=fun x y:Int=>decide (x≤y)) (fun a b c h1 h2=>by simp at *; omega) (fun a b=>by simp; omega) l;exact this.imp fun h=>by simpa using h
theorem kI (l:List Int):dw (ce l):=by
 have hs:=jO l;unfold ce;cases h:dZ l with
 | nil=>exact List.Pairwise.nil
 | cons x r =>
  rw[h] at hs;obtain ⟨h1,h2,_⟩:=i7 hs;exact zj9.2 ⟨h2,h1⟩
theorem nx (l:List Int)(y:Int):y∈ce l↔y∈l:=by
 have hs:=jO l;have hp:=mw l;rw[← hp.mem_iff];unfold ce;refine⟨fun h=>(rW _ _).subset h,fun h=>?_⟩;cases hc:dZ l with
 | nil=>rw[hc] at h; simp at h
 | cons x r =>
  rw[hc] at hs h
  rcases ze7.1 h with rfl | h
  ·simp[ig]
  ·rcases (i7 hs).2.2 y h with rfl | h
   ·simp[ig]
   ·simp[ig,h]
theorem F2 {l out:List Int}(hs:dw out)(hm:∀ x,x∈out↔x∈l):out=ce l:=i9 hs (kI l) fun x=>by rw[hm,nx]
theorem BP {a b:List Int}(ha:dw a)(h:∀ x∈a,x∈b):a.length≤b.length:=nE (ha.imp fun h=>by omega) h
def okS (l:List Int):Bool:=!(l.any fun x=>decide (x<0))&&decide ((ce l).length≤9)
theorem Gj {l:List Int}(h:okS l=false):jk (ce l)=true:=by
 unfold okS at h;rw[Bool.and_eq_false_iff] at h;cases hc:ce l with
 | nil=>rfl
 | cons a r =>
  unfold jk
  rcases h with h | h
  ·simp only[Bool.not_eq_false',zj5,zj2] at h;obtain ⟨x,hx,hx0⟩:=h;have h1:=(nx l x).2 hx;rw[hc] at h1;have hs:=kI l;rw[hc] at hs;have:a≤x:=by
    rcases ze7.1 h1 with rfl | h2
    ·omega
    ·have:=(zj9.1 hs).1 x h2; omega
   simp;omega
  ·rw[hc] at h;simp at h ⊢;omega
theorem D3 {l:List Int}(h:okS l=true):(ce l).length≤9∧(jk (ce l)=true→ce l=[]):=by
 unfold okS at h;simp only[zi9,Bool.not_eq_true',zj2] at h;refine⟨h.2,fun hb=>?_⟩;cases hc:ce l with
 | nil=>rfl
 | cons a r =>
  rw[hc] at hb;unfold jk at hb;rw[hc] at h;simp at hb;have ha:a∈l:=(nx l a).1 (by rw[hc]; simp);have h3:=zk2.1 h.1 a ha;simp at h3;have h4:=h.2;simp at h4;omega
theorem zQ {out:List Int}{x:Int}{k:Nat}(hs:dw out)(h1:∀ y∈out.take k,y<x)(h2:∀ y∈out.drop k,x<y):dw (out.take k++x::out.drop k):=by
 have hs':dw (out.take k++out.drop k):=by rw[zi8]; exact hs
 have h3:=List.pairwise_append.1 hs';refine List.pairwise_append.2 ⟨h3.1,zj9.2 ⟨h2,h3.2.1⟩,fun y hy z hz=>?_⟩
 rcases ze7.1 hz with rfl | hz
 ·exact h1 y hy
 ·exact h3.2.2 y hy z hz
theorem Bb {α:Type}{out:List α}{x y:α}{k:Nat}:y∈out.take k++x::out.drop k↔y=x∨y∈out:=by
 rw[ze9,ze7];constructor
 ·rintro (h | h | h)
  ·exact .inr (List.mem_of_mem_take h)
  ·exact .inl h
  ·exact .inr (List.mem_of_mem_drop h)
 ·rintro (h | h)
  ·exact .inr (.inl h)
  ·rw[← zi8 k out] at h
   rcases ze9.1 h with h | h
   ·exact .inl h
   ·exact .inr (.inr h)
theorem pu {out:List Int}{c:Int}{k:Nat}(hs:dw out)(hk:k<out.length)(h:c≤out[k]):∀ y∈out.drop k,c≤y:=by
 rw[zg3 hk];intro y hy;have h1:dw (out.drop k):=List.Pairwise.sublist (List.drop_sublist k out) hs;rw[zg3 hk] at h1
 rcases ze7.1 hy with rfl | hy
 ·exact h
 ·have:=(zj9.1 h1).1 y hy;omega
theorem DG (E:World)(g:PH)(s:Own)(v:Value)(l:List Int)(hv:bT g v l)(hl:l.length<17592186044416) :
  Ctr Tryz.prog E 62 #[v] g s (fun r g' s'=>s=s'∧Le g g'∧((okS l=true∧∃ u,r = .tuple #[u,vb true]∧bT g' u (ce l))∨(okS l=false∧r = .tuple #[.slice none 0 0,vb false]))):=by
 obtain ⟨p,c,rfl⟩:=za2 hv;refine za9 (args:=[.slice p l.length c]) func62 I ntmps62 (bE I) ?_;refine rZ (lA I (aT I (rZ (aT I (sQ (rZ (aT I (bK ?_))))))));refine oP (ι:=PH×Value×List Int×Nat) (fun i=>[(0,.slice p l.length c),(4,i.2.1),(5,vi i.2.2.2)]) (fun i=>i.1) (fun _=>s)
  (fun i=>Le g i.1∧bT i.1 i.2.1 i.2.2.1∧i.2.2.2≤l.length∧dw i.2.2.1∧(∀ x,x∈i.2.2.1↔x∈l.take i.2.2.2)∧((l.take i.2.2.2).any (fun x=>decide (x<0))=false∧i.2.2.1.length≤9)) (fun i=>l.length - i.2.2.2)
  (g,.slice none 0 0,[],0) sB rfl rfl ⟨zb7 g,zb8 g _,zf3 _,List.Pairwise.nil,by simp,by simp,by simp⟩ ?_
 rintro ⟨g1,ov,out,i⟩ ⟨hle,hov,hi,hstr,hmem,hneg,h9⟩;dsimp only at hle hov hi hstr hmem hneg h9 ⊢;obtain ⟨q,d,rfl⟩:=za2 hov;have hqc:=(SlA.cap hov).2;refine sQ (sW I (lM I (lU (eN ak I) (yL I (tZ ?_)))));refine iP I (fun hlt=>?_) (fun hlt=>?_)
 ·have hil:i<l.length:=oM;have hb1:=za4 (hv.mono hle) oM;have hgi:l[((i:Nat):Int).toNat]?=some l[i]:=gE hil;have htk:l.take (i+1)=l.take i++[l[i]]:=tS hil;have hxm:l[i]∈l:=gM hil;generalize l[i]=x at *;refine kP (tN (sQ (bK (rZ (aT I ?_)))));refine SC.cut (ι:=Nat) (fun k=>[(0,.slice p l.length c),(4,.slice q out.length d),(5,vi i),(6,vi k)]) (fun _=>g1) (fun _=>s) (fun k=>k≤out.length∧(∀ y∈out.take k,y<x)∧∀ y∈out.drop k,x≤y) ?_ ?_
  ·refine bK ?_;refine oP (ι:=Nat) (fun k=>[(0,.slice p l.length c),(4,.slice q out.length d),(5,vi i),(6,vi k)]) (fun _=>g1) (fun _=>s) (fun k=>k≤out.length∧∀ y∈out.take k,y<x) (fun k=>out.length - k) 0
    sB rfl rfl ⟨zf3 _,by simp⟩ ?_
   rintro k ⟨hk,htake⟩;by_cases hin:(k:Int)<(out.length:Int)
   ·have hkl:k<out.length:=oM;have hb2:=za4 hov oM;refine sQ (sQ ?_);refine dW [] [(0,2),(1,2),(2,2),(3,2),(4,2),(5,2),(6,2),(7,2),(8,1),(9,2),(10,2),(11,2),(12,1),(13,2),(14,2)] zd9 kR ?_;refine yM I (yM I (pU I (eN ak I) (pU I (SU.eq (v':=vb true) (lS I I) (zd8 vb (zf5 hin))) (yM I (yJ I (yJ I (zb1 I (gT I I I dC) (iA ak zT3 I I hb2 oM sL) dC ?_)))))));refine SP.gq I (gT I I I dC) (eB iT3 I (za5 hov) (gE hkl) I) dC ?_;refine yJ I (yJ I (zb1 I (gT I I I dC) (iA ak zT3 I I hb1 oM sL) dC (SP.gq I (gT I I I dC) (eB iT3 I (za5 (hv.mono hle)) hgi I) dC (zb1 I (gT I I I dC) (lS I I) dC (pU I (wT I I) (pN (tN ?_)))))));refine iP I (fun hc=>?_) (fun hc=>?_)
    ·refine kP (tN (bK (rG (lM I (yD I (lA I (nL (bN ?_))))))));exact gA (k+1) sB I I ⟨oM,by
      rw[tS hkl];intro y hy
      rcases ze9.1 hy with h | h
      ·exact htake y h
      ·simp at h; subst h; exact hc⟩ oM
    ·refine xI (tX (tX (bX ?_)));exact za7 k sB I I ⟨hk,htake,pu hstr hkl oM⟩
   ·refine sQ (sQ ?_);refine dW [] [(0,2),(1,2),(2,2),(3,2),(4,2),(5,2),(6,2),(7,2),(8,1),(9,2),(10,2),(11,2),(12,1),(13,2),(14,2)] zd9 kR ?_;refine yM I (yM I (pU I (eN ak I) (pU I (SU.eq (v':=vb false) (lS I I) (zd8 vb (zf4 hin))) (yM I (yG I (yG I (yG I (yI I (yG I (yG I (yG I (yI I (yG I (pU I (wF I I) (pN (tN (cF I (xI (tX (tX (bX ?_)))))))))))))))))))));exact za7 k sB I I ⟨hk,htake,by rw[List.drop_eq_nil_of_le oM]; simp⟩
  ·rintro k ⟨hk,hk1,hk2⟩;have hskip:x∈out→∀ y,y∈out↔y∈l.take (i+1):=fun h y=>by
    rw[htk,ze9,← hmem];constructor
    ·exact .inl
    ·rintro (h' | h')
     ·exact h'
     ·simp at h'; rw[h']; exact h
   have hxneg:x∈out→(l.take (i+1)).any (fun x=>decide (x<0))=false:=fun h=>by
    have h1:=zk2.1 hneg x ((hmem x).1 h);rw[htk,List.any_append,hneg];simpa using h1
   have hins:(∀ y∈out.drop k,x<y)→dw (out.take k++x::out.drop k)∧∀ y,y∈out.take k++x::out.drop k↔y∈l.take (i+1):=fun h=>⟨zQ hstr hk1 h,fun y=>by
    rw[Bb,htk,ze9,← hmem];simp;exact or_comm⟩
   have hc1:=SlA.cut hov (l:=k) (m:=out.length) hk (lR _);have hc2:=SlA.cut hov (l:=0) (m:=k) (zf3 _) hk;rw[tL (by rw[ze6]; exact lR _)] at hc1;rw[List.drop_zero,Nat.sub_zero] at hc2;have hnl:(out.take k++x::out.drop k).length=out.length+1:=lN;obtain ⟨nw,hnw⟩:∃ nw,nw=out.take k++x::out.drop k:=⟨_,rfl⟩;have hbad1:x<0→okS l=false:=fun h=>by
    unfold okS;have:l.any (fun x=>decide (x<0))=true:=zj5.2 ⟨x,hxm,by simpa using h⟩;rw[this]; rfl
   have hbad2:(∀ y∈out.drop k,x<y)→9<(out.take k++x::out.drop k).length→okS l=false:=fun h h'=>by
    obtain ⟨h1,h2⟩:=hins h;have h3:=BP h1 (b:=ce l) (fun y hy=>by rw[nx]; exact List.mem_of_mem_take ((h2 y).1 hy));unfold okS;have:decide ((ce l).length≤9)=false:=zf4 oM;rw[this]; simp
   have hgo:∀ g3 q3 d3,(∀ y∈out.drop k,x<y)→Le g g3→bT g3 (.slice q3 (out.take k++x::out.drop k).length d3) (out.take k++x::out.drop k)→¬ x<0→(out.take k++x::out.drop k).length≤9 →
     Le g g3∧bT g3 (.slice q3 (out.take k++x::out.drop k).length d3) (out.take k++x::out.drop k)∧i+1≤l.length∧dw (out.take k++x::out.drop k)∧(∀ y,y∈out.take k++x::out.drop k↔y∈l.take (i+1))∧((l.take (i+1)).any (fun x=>decide (x<0))=false∧(out.take k++x::out.drop k).length≤9):=fun g3 q3 d3 h1 h2 h3 h4 h5 =>
    ⟨h2,h3,oM,(hins h1).1,(hins h1).2,by rw[htk,List.any_append,hneg]; simpa using h4,h5⟩
   have hgt:out.contains x=false→∀ y∈out.drop k,x<y:=fun h y hy=>by
    have h1:=hk2 y hy;have h2:y≠x:=fun e=>by
     have:out.contains x=true:=by rw[← e]; simpa using List.mem_of_mem_drop hy
     rw[h] at this; cases this
    omega
   have hgetk:(k:Int)<(out.length:Int)→out[((k:Nat):Int).toNat]?=some (out.getD k 0):=fun h=>by
    have h2:k<out.length:=oM;rw[show ((k:Nat):Int).toNat=k by omega,gE h2,zg7,gE h2]; rfl
   have hA:(k:Int)<(out.length:Int)→out.contains x=decide (out.getD k 0=x):=fun h=>by
    have h2:k<out.length:=oM;rw[zg7,gE h2,Option.getD_some,Bool.eq_iff_iff,zj3];constructor
    ·intro hm;have hm':x∈out:=by simpa using hm
     rw[← zi8 k out] at hm'
     rcases ze9.1 hm' with h3 | h3
     ·have:=hk1 x h3; omega
     ·have h4:=hk2 _ (by rw[zg3 h2]; exact List.mem_cons_self:out[k]∈out.drop k);have h5:=pu hstr h2 (Int.le_refl out[k]) x h3;omega
    ·intro e;rw[← e];simp
   have hB:¬ (k:Int)<(out.length:Int)→out.contains x=false:=fun h=>by
    rw[← zj4];intro hm;have hm':x∈out:=by simpa using hm
    rw[← zi8 k out,List.drop_eq_nil_of_le oM,zc3] at hm';have:=hk1 x hm';omega
   have hb2:=fun h=>za4 hov h;generalize out.getD k 0=yk at hgetk hA;obtain ⟨nl,hnl2⟩:∃ nl,nl=(out.take k++x::out.drop k).length:=⟨_,rfl⟩;have f1:x<0→(decide (x<0)||decide ((((out.take k++x::out.drop k).length:Nat):Int)>9))=true:=fun h=>by simp[h]
   have f2:¬ x<0→(decide (x<0)||decide ((((out.take k++x::out.drop k).length:Nat):Int)>9))=decide ((((out.take k++x::out.drop k).length:Nat):Int)>9):=fun h=>by simp only[h,decide_false,Bool.false_or]
   refine sQ ?_;refine SC.cutB 45 ((out.contains x)) ?_ ?_
   ·refine dW [] [(0,2),(1,2),(2,2),(3,2),(4,2),(5,2),(6,2),(7,2),(8,1),(9,2),(10,2),(11,2),(12,1),(13,2),(14,2)] zd9 kR ?_;refine yM I (yM I (pU I (eN ak I) (pU I (lS I I) (yM I ?_))));refine SP.split ?_ ?_
    ·intro h35;refine yJ I (yJ I (zb1 I (gT I I I dC) (iA ak zT3 I I (hb2 oM) oM sL) dC (SP.gq I (gT I I I dC) (eB iT3 I (za5 hov) (hgetk h35) I) dC (yJ I (yJ I (zb1 I (gT I I I dC) (iA ak zT3 I I hb1 oM sL) dC (SP.gq I (gT I I I dC) (eB iT3 I (za5 (hv.mono hle)) hgi I) dC (zb1 I (gT I I I dC) (eQ I I) dC (pU I (wT I I) (pN ?_))))))))));exact za8 (by (rw[hA h35]; rfl)) mI
    ·intro h35;refine yG I (yG I (yG I (yI I (yG I (yG I (yG I (yI I (yG I (pU I (wF I I) (pN ?_))))))))));exact za8 (by (rw[hB h35]; rfl)) mI
   refine iQ I (fun hthere=>?_) (fun hthere=>?_)
   ·have hxo:x∈out:=by simpa using hthere
    refine xI (tX (bX (tN (rG (lM I (yD I (lA I (nL ?_))))))));exact gA (g1,_,out,i+1) sB I I ⟨hle,hov,lN,hstr,hskip hxo,hxneg hxo,h9⟩ lN
   ·have hg:=hgt hthere;refine kP (tN (sQ ?_));refine dW [8] [(0,2),(1,2),(2,2),(3,1),(5,2),(6,2),(7,2),(4,0),(8,0),(9,2)] zd9 kR ?_;refine yM I (yM I (pU I (iA ak zT3 I I hb1 oM sL) (pK I (eB iT3 I (za5 (hv.mono hle)) hgi I) (yM I (yM I (pU I (SU.sliceL ak zT3 I I oM oM) (SP.o I (bS sty25 I I I (ae ⟨I,trivial⟩) dC) dC (.inr iR) ?_)))))));rintro _ _ _ ⟨b50,rfl,rfl,rfl⟩;refine SP.to (fun w hw=>At.litRow (e:=encInt) (l:=[x]) (n:=0) hw I I dC) ?_;refine SP.o I (aQ (e:=encInt) 0 sty25 I I I hc1 (by rw[ze6]; (first | with_reducible rfl | ((try dsimp only); (try simp only[ze2,ze5,zc1,ze4,ze1,ze6])<;>omega))) (by rw[ze6]; (first | with_reducible rfl | ((try dsimp only); (try simp only[ze2,ze5,zc1,ze4,ze1,ze6])<;>omega)))) dC (.inl dC) ?_;rintro v54 _ _ ⟨rfl,rfl⟩;refine pU I (aS I) (pN (tN (sQ (fS fun g2 hle2 hs2=>?_))));have hrest:bT g2 v54 ([x]++out.drop k):=hs2;refine rG (lW (bS sty25 I I I (ae trivial) dC) ?_);rintro _ _ _ ⟨b55,rfl,rfl,rfl⟩;refine SL.emptyRow 3 1 (some ⟨b55,0,none⟩) (lM I (lM I (lU (SU.sliceH ak zT3 I I oM oM) (lW (aQ (e:=encInt) (l:=[]) 0 sty25 I I I (hc2.mono hle2) (by rw[ze1]; (first | with_reducible rfl | ((try dsimp only); (try simp only[ze2,ze5,zc1,ze4,ze1,ze6])<;>omega))) (by rw[ze1]; (first | with_reducible rfl | ((try dsimp only); (try simp only[ze2,ze5,zc1,ze4,ze1,ze6])<;>omega)))) ?_))));rintro v59 _ _ ⟨rfl,rfl⟩;refine lM I (lW (aQ (e:=encInt) 0 sty25 I I I hrest lN lN) ?_);rintro v61 _ _ ⟨rfl,rfl⟩;refine aT I (fS fun g3 hle3 hs3=>?_);have hres:bT g3 v61 (out.take k++x::out.drop k):=(by have h:bT g3 v61 ([]++out.take k++([x]++out.drop k)):=hs3; simpa using h);refine SC.drop (s':=s) (.cons _ (.refl _)) ?_;obtain ⟨q3,d3,rfl⟩:=za2 hres;refine SC.sub (f':=[(0,.slice p l.length c),(4,.slice q3 (out.take k++x::out.drop k).length d3),(5,vi i)]) sB ?_;refine SC.cutB 71 ((decide (x<0)||decide ((((out.take k++x::out.drop k).length:Nat):Int)>9))) ?_ ?_
    ·refine rG (lM I (lM I (lU (iA ak zT3 I I hb1 oM sL) (lK (eB iT3 I (za5 (hv.mono (hle.trans (hle2.trans hle3)))) hgi I) (yL I (lM I ?_))))));refine sP ?_ ?_
     ·intro h67;refine yA I (yA I (yA I (yP I (nL ?_))));exact za8 (by (rw[f1 h67]; rfl)) mI
     ·intro h67;refine yC I (lY I I I (eN ak I) (lY I I I (gR I I) (yF I (nL ?_))));exact za8 (by (rw[f2 h67]; rfl)) mI
    refine iQ I (fun hbad=>?_) (fun hbad=>?_)
    ·have hko:okS l=false:=by
      rw[zj1,zj3,zj3] at hbad
      rcases hbad with h | h
      ·exact hbad1 h
      ·exact hbad2 hg oM
     refine rZ (lA I (aT I (rE (bR (tR (tR (bR (tR ?_))))))));exact ST.ret2 (.inl I) results62 I I ⟨I,hle.trans (hle2.trans hle3),.inr ⟨hko,I⟩⟩
    ·rw[Bool.or_eq_false_iff,decide_eq_false_iff_not,decide_eq_false_iff_not] at hbad;refine kP (bN (tN (rG (lM I (yD I (lA I (nL ?_)))))));exact gA (g3,_,out.take k++x::out.drop k,i+1) sB I I (hgo g3 q3 d3 hg (hle.trans (hle2.trans hle3)) hres hbad.1 oM) lN
 ·have hii:l.take i=l:=tL oM;rw[hii] at hmem hneg;have hset:=F2 hstr hmem;have hok:okS l=true:=by unfold okS; rw[hneg,← hset]; simpa using h9
  refine xI (tX (tX (bX (tN (sW I (lA I (aT I (rE ?_))))))));exact ST.ret2 (.inl I) results62 I I ⟨I,hle,.inl ⟨hok,_,I,by rw[← hset]; exact hov⟩⟩
abbrev ep (l:List (List Int)):Prop:=l.Pairwise fun a b=>aj a b<0
theorem gW {a b:List Int}(h:aj a b<0):¬ aj b a<0:=by have:=iS a b; omega
theorem ep.srt {l:List (List Int)}(h:ep l):sZ l:=h.imp fun h=>gW h
theorem gV:∀ {l m:List (List Int)},ep l→ep m→(∀ x,x∈l↔x∈m)→l=m
 | [],[],_,_,_=>rfl
 | [],y::m,_,_,h=>by have:=(h y).2 (by simp); simp at this
 | x::l,[],_,_,h=>by have:=(h x).1 (by simp); simp at this
 | x::l,y::m,hl,hm,h=>by
  obtain ⟨h1,h2⟩:=zj9.1 hl;obtain ⟨h3,h4⟩:=zj9.1 hm;have hxy:x=y:=by
   rcases ze7.1 ((h x).1 (by simp)) with e | hx
   ·exact e
   ·rcases ze7.1 ((h y).2 (by simp)) with e | hy
    ·exact e.symm
    ·exact absurd (h1 y hy) (gW (h3 x hx))
  subst hxy;have hself:¬ aj x x<0:=by rw[cj]; decide
  rw[gV h2 h4 fun z=>?_];constructor
  ·intro hz
   rcases ze7.1 ((h z).1 (by simp[hz])) with e | hz'
   ·subst e; exact absurd (h1 z hz) hself
   ·exact hz'
  ·intro hz
   rcases ze7.1 ((h z).2 (by simp[hz])) with e | hz'
   ·subst e; exact absurd (h3 z hz) hself
   ·exact hz'
theorem gP:∀ {x:List Int} {l:List (List Int)},sZ (x::l)→ep (aX eqL x l)∧(∀ y∈aX eqL x l,aj x y<0)∧∀ y,y∈l→y=x∨y∈aX eqL x l
 | x,[],_=>⟨List.Pairwise.nil,by simp[aX],by simp⟩
 | x,y::r,h=>by
  obtain ⟨h1,h2⟩:=zj9.1 h;obtain ⟨i1,i2,i3⟩:=gP h2;have hxy:=h1 y (by simp);unfold aX;by_cases e:y=x
  ·subst e;simp only[eqL,decide_true,if_true];refine⟨i1,i2,fun z hz=>?_⟩
   rcases ze7.1 hz with rfl | hz
   ·exact .inl I
   ·exact i3 z hz
  ·have hlt:aj x y<0:=by
    rcases dn x y with h | h | h
    ·exact h
    ·exact absurd h.symm e
    ·exact absurd h hxy
   simp only[eqL,e,decide_false];refine⟨zj9.2 ⟨i2,i1⟩,fun z hz=>?_,fun z hz=>?_⟩
   ·rcases ze7.1 hz with rfl | hz
    ·exact hlt
    ·exact ed _ _ _ hlt (i2 z hz)
   ·rcases ze7.1 hz with rfl | hz
    ·exact .inr (by simp)
    ·rcases i3 z hz with rfl | h
     ·exact .inr (by simp)
     ·refine .inr ?_;simp;exact .inr h
theorem kA (all:List (List Int))(t:List Int):ep (dT all t):=by
 have hs:=jw (all++bI t);unfold dT;cases h:ot (all++bI t) with
 | nil=>exact List.Pairwise.nil
 | cons x r =>
  rw[h] at hs;obtain ⟨h1,h2,_⟩:=gP hs;exact zj9.2 ⟨h2,h1⟩
theorem gr (all:List (List Int))(t x:List Int):x∈dT all t↔x∈all∨x∈bI t:=by
 refine⟨kY,fun h=>?_⟩;have hs:=jw (all++bI t);have hm:x∈ot (all++bI t):=(im _).symm.subset (ze9.2 h);unfold dT;cases hc:ot (all++bI t) with
 | nil=>rw[hc] at hm; simp at hm
 | cons y r =>
  rw[hc] at hs hm
  rcases ze7.1 hm with rfl | hm
  ·simp[ig]
  ·rcases (gP hs).2.2 x hm with rfl | h
   ·simp[ig]
   ·simp[ig,h]
theorem oL:∀ {l:List (List Int)} (t:List Int),sZ l→(∀ y∈l.take (lbL l t),aj y t<0)∧∀ y∈l.drop (lbL l t),¬ aj y t<0
 | [],t,_=>⟨by simp,by simp⟩
 | a::r,t,hs=>by
  obtain ⟨h1,h2⟩:=zj9.1 hs;obtain ⟨i1,i2⟩:=oL t h2;by_cases ha:aj a t<0
  ·have hl:lbL (a::r) t=lbL r t+1:=by simp[lbL,ha]
   rw[hl,List.take_succ_cons,List.drop_succ_cons];refine⟨fun y hy=>?_,i2⟩
   rcases ze7.1 hy with rfl | hy
   ·exact ha
   ·exact i1 y hy
  ·have hall:∀ y∈a::r,¬ aj y t<0:=fun y hy=>by
    rcases ze7.1 hy with rfl | hy
    ·exact ha
    ·exact gy y a t (h1 y hy) ha
   have hz:lbL (a::r) t=0:=by
    unfold lbL;rw[List.length_eq_zero_iff,List.filter_eq_nil_iff];intro y hy;simpa using hall y hy
   rw[hz];exact⟨by simp,by simpa using hall⟩
theorem wM {l:List (List Int)}{t:List Int}(hs:ep l)(hn:l.contains t=false):ep (l.take (lbL l t)++t::l.drop (lbL l t)):=by
 obtain ⟨h1,h2⟩:=oL t hs.srt;have hs':ep (l.take (lbL l t)++l.drop (lbL l t)):=by rw[zi8]; exact hs
 have h3:=List.pairwise_append.1 hs';refine List.pairwise_append.2 ⟨h3.1,zj9.2 ⟨fun y hy=>?_,h3.2.1⟩,fun y hy z hz=>?_⟩
 ·rcases dn t y with h | h | h
  ·exact h
  ·have:l.contains t=true:=by rw[h]; simpa using List.mem_of_mem_drop hy
   rw[hn] at this; cases this
  ·exact absurd h (h2 y hy)
 ·rcases ze7.1 hz with rfl | hz
  ·exact h1 y hy
  ·exact h3.2.2 y hy z hz
theorem DC (all:List (List Int)):Srt Cl.id (aU all):=by
 unfold Srt;rw[zc6];intro i j hi hj hij;simp[aU,nt];omega
theorem rF (all:List (List Int)):aa (aU all)=(aU all).map ay:=by
 unfold aa;rw[← dS (DC all) (aJ.refl _)]
theorem Dv (k:Nat):((k:Nat):Int).tmod 2=((k:Nat):Int) % 2:=Int.tmod_eq_emod_of_nonneg oM
theorem aI (E:World)(g:PH)(s:Own)(v:Value)(ls:List (List Int))(hv:aF g v ls)(hn:ls.length<1099511627776)(hl:∀ x∈ls,x.length<17592186044416) :
  Ctr Tryz.prog E 24 #[v] g s (fun r g' s'=>s=s'∧Le g g'∧∃ u,r = .agg #[u]∧am g' u (bQ ls)):=by
 obtain ⟨rs0,hrs0,hall0⟩:=hv;have hlen0:=hall0.length;obtain ⟨p,c,rfl⟩:=za2 hrs0;refine za9 (args:=[.slice p rs0.length c]) func24 I ntmps24 (bE I) ?_;refine rZ (bW (aL zl4) fun b2=>?_);refine tZ (rZ (aT I (sQ (rZ (aT I (bK ?_))))));refine oP (ι:=PH×Value×List (List Int)×Nat) (fun i=>[(0,.slice p rs0.length c),(2,pp b2 0),(3,i.2.1),(4,vi i.2.2.2)]) (fun i=>i.1)
  (fun _=>pt b2 (.cells #[.slice none 0 0] 30 (0,0))::s)
  (fun i=>Le g i.1∧i.2.2.2≤rs0.length∧aF i.1 i.2.1 i.2.2.1∧(i.2.2.1.length≤4000∧∀ x∈i.2.2.1,x.length≤9)∧ep i.2.2.1∧aG [] ls=aG i.2.2.1 (ls.drop i.2.2.2)) (fun i=>rs0.length - i.2.2.2)
  (g,.slice none 0 0,[],0) sB rfl rfl ⟨zb7 g,zf3 _,⟨[],zb8 g _,trivial⟩,⟨zf3 _,by simp⟩,List.Pairwise.nil,rfl⟩ ?_
 rintro ⟨g1,av,all,i⟩ ⟨hle,hi,hav,⟨hal,has⟩,hstr,hsa⟩;dsimp only at hle hi hav hal has hstr hsa ⊢;refine sQ (sW I (lM I (lU (eN bH I) (yL I (tZ ?_)))));refine iP I (fun hlt=>?_) (fun hlt=>?_)
 ·have hkl:i<ls.length:=oM;have hkr:i<rs0.length:=oM;have hR:=(hall0.get (gE hkl) (gE hkr)).mono hle;have hxl:=hl _ (gM hkl);have hb1:=hrs0.based oM;have hdrop:ls.drop i=ls[i]::ls.drop (i+1):=zg3 hkl;rw[hdrop] at hsa;generalize hx:ls[i]=x at *;generalize hr:rs0[i]=r at *;have hgr:rs0[((i:Nat):Int).toNat]?=some r:=by rw[← hr]; exact gE hkr
  refine kP (tN (sQ (bK (sW I (lM I (lU (iA bH bZ I I hb1 oM sL) (lK (eB dx I (hrs0.mono hle).rd hgr I) (lW (cL call62 I (DG E g1 _ _ x hR hxl)) ?_))))))));rintro v31 g2 _ ⟨rfl,hle2,hset⟩;have hav2:=hav.mono hle2
  rcases hset with ⟨hok,u,rfl,hu⟩ | ⟨hok,rfl⟩
  ·obtain ⟨hs9,hsb⟩:=D3 hok;obtain ⟨q,d,rfl⟩:=za2 hu;have hpow:=AC (ce x).length hs9;refine lM I (yX I (yX I (lA I (aT I ?_))));refine SC.cut (ι:=PH×Value×List (List Int)) (fun j=>[(0,.slice p rs0.length c),(2,pp b2 0),(3,j.2.1),(4,vi i)]) (fun j=>j.1) (fun _=>pt b2 (.cells #[.slice none 0 0] 30 (0,0))::s)
    (fun j=>Le g j.1∧aF j.1 j.2.1 j.2.2∧ep j.2.2∧(∀ y,y∈j.2.2↔y∈all∨y∈bI (ce x))∧j.2.2.length≤4600) ?_ ?_
   ·refine rZ (aT I (bK ?_));refine oP (ι:=PH×Value×List (List Int)×Nat) (fun j=>[(0,.slice p rs0.length c),(2,pp b2 0),(3,j.2.1),(4,vi i),(5,.slice q (ce x).length d),(6,vb true),(7,vi (j.2.2.2+1:Nat))]) (fun j=>j.1) (fun _=>pt b2 (.cells #[.slice none 0 0] 30 (0,0))::s)
     (fun j=>Le g2 j.1∧j.2.2.2+1≤2 ^ (ce x).length∧aF j.1 j.2.1 j.2.2.1∧ep j.2.2.1∧(∀ y,y∈j.2.2.1↔y∈all∨y∈(List.range j.2.2.2).map fun m=>ef (m+1) (ce x))∧j.2.2.1.length≤4000+j.2.2.2) (fun j=>2 ^ (ce x).length - j.2.2.2)
     (g2,av,all,0) sB rfl rfl ⟨zb7 g2,Nat.one_le_two_pow,hav2,hstr,by simp,lN⟩ ?_
    rintro ⟨g3,bv,al,b⟩ ⟨hle3,hb,hbv,hbs,hbm,hbl⟩;dsimp only at hle3 hb hbv hbs hbm hbl ⊢;have hals:∀ y∈al,y.length≤9:=fun y hy=>by
     rcases (hbm y).1 hy with h | h
     ·exact has y h
     ·obtain ⟨m,_,rfl⟩:=ze8.1 h;exact zk6 (fk _ _) hs9
    refine sQ (sW I (lM I (yC I (yC I (lY I I I (eN ak I) (lY I I I (SU.eq (v':=vi ((2 ^ (ce x).length:Nat):Int)) (SU.shl I I oM) (zd8 vi (AU (ce x).length oM))) (lY I I I (lS I I) (yP I (tZ ?_)))))))));refine iP I (fun hlt2=>?_) (fun hlt2=>?_)
    ·have hbl2:b+1<2 ^ (ce x).length:=oM;refine kP (tN (sQ (bK (rZ (aT I (sQ (sQ (zb4 3 1 (rG (aT I (bK ?_)))))))))));refine oP (ι:=Value×Nat) (fun k=>[(0,.slice p rs0.length c),(2,pp b2 0),(3,bv),(4,vi i),(5,.slice q (ce x).length d),(6,vb true),(7,vi (b+1:Nat)),(8,k.1),(9,vi k.2)]) (fun _=>g3)
      (fun k=>rowA encInt 3 k.1 (ef (b+1) ((ce x).take k.2))::pt b2 (.cells #[.slice none 0 0] 30 (0,0))::s) (fun k=>k.2≤(ce x).length) (fun k=>(ce x).length - k.2) (.slice none 0 0,0)
      sB rfl rfl (zf3 _) ?_
     rintro ⟨cv,k⟩ hk;dsimp only at hk ⊢;have hpl:=fk (b+1) ((ce x).take k);rw[ze1] at hpl;refine sQ (sW I (lM I (lU (eN ak I) (yL I (tZ ?_)))));refine iP I (fun hlt3=>?_) (fun hlt3=>?_)
     ·have hkl:k<(ce x).length:=oM;have hbu:=za4 (hu.mono hle3) oM;have hsucc:=qY (bits:=b+1) hkl;refine kP (tN (sQ (bK (sW I (lM I (lU (SU.shr I I oM) (lU (SU.eq (v':=vi (((b+1) / 2 ^ k % 2:Nat):Int)) (SU.and I I) (zd8 vi ((rV _).trans (AS (b+1) k oM)))) (yE I (tZ ?_)))))))));refine iP I (fun hbit=>?_) (fun hbit=>?_)
      ·refine rG (lM I (lM I (lM I (lU (iA ak zT3 I I hbu oM sL) ?_))));refine SL.q (eB iT3 I (za5 (hu.mono hle3)) (gE hkl) I) dC ?_;refine lW (bS sty25 I I I (ae sB) dC) ?_;rintro _ _ _ ⟨b60,rfl,rfl,rfl⟩;refine lW (aP (e:=encInt) 0 (ce x)[k] sty25 I I I I I oM oM) ?_;rintro cv' _ _ ⟨rfl,rfl⟩;refine lA I (nL (bN (tN (rG (lM I (yD I (lA I (nL ?_))))))));refine ST.to (fun w hw=>?_) (g':=g3) (s':=rowA encInt 3 cv' (ef (b+1) ((ce x).take (k+1)))::pt b2 (.cells #[.slice none 0 0] 30 (0,0))::s) ?_
       ·rw[hsucc,zf7 oM]; exact hw
       exact gA (cv',k+1) sB I I lN lN
      ·refine kP (bN (tN (rG (lM I (yD I (lA I (nL ?_)))))));refine ST.to (fun w hw=>?_) (g':=g3) (s':=rowA encInt 3 cv (ef (b+1) ((ce x).take (k+1)))::pt b2 (.cells #[.slice none 0 0] 30 (0,0))::s) ?_
       ·rw[hsucc,zf6 oM]; exact hw
       exact gA (cv,k+1) sB I I lN lN
     ·have hkk:(ce x).take k=ce x:=tL oM;have htl:=fk (b+1) (ce x);have hmem2:∀ nw:List (List Int),(∀ y,y∈nw↔y=ef (b+1) (ce x)∨y∈al)→∀ y,y∈nw↔y∈all∨y∈(List.range (b+1)).map fun m=>ef (m+1) (ce x):=fun nw h y=>by
       rw[h,hbm,List.range_succ,zg2,ze9];simp;constructor
       ·rintro (h | h | h)
        ·exact .inr (.inr h)
        ·exact .inl h
        ·exact .inr (.inl h)
       ·rintro (h | h | h)
        ·exact .inr (.inl h)
        ·exact .inr (.inr h)
        ·exact .inl h
      generalize hpk:ef (b+1) (ce x)=t at *;refine xI (tX (tX (bX (tN (sQ (fS fun g4 hle4 hs4=>?_))))));rw[hkk,hpk] at hs4;have ht:bT g4 cv t:=hs4;have hbv4:=hbv.mono hle4;refine rG (lM I (lM I (lW (cL call63 I (qX E g4 _ _ _ al t hbv4 ht oM (fun y hy=>by have:=hals y hy; omega) oM hbs.srt)) ?_)));rintro _ _ _ ⟨rfl,rfl,rfl⟩;refine lM I (yX I (yX I (lA I (aT I (sW I (lU (SU.not I) (tZ ?_)))))));refine iQ I (fun hthere=>?_) (fun hthere=>?_)
      ·have hth:al.contains t=false:=by simpa using hthere
       have hlb:=AF al t;obtain ⟨ra,hra,halr⟩:=hbv4;have hral:=halr.length;obtain ⟨qa,da,rfl⟩:=za2 hra;have hcapa:=(SlA.cap hra).2;obtain ⟨qt,dt,rfl⟩:=za2 ht;have hca:=SlA.cut hra (l:=lbL al t) (m:=ra.length) oM (lR _);have hcb:=SlA.cut hra (l:=0) (m:=lbL al t) (zf3 _) oM;rw[tL (by rw[ze6]; exact lR _)] at hca;rw[List.drop_zero,Nat.sub_zero] at hcb;refine sW I (lW (bS sty22 I I I (ae ⟨I,trivial⟩) dC) ?_);rintro _ _ _ ⟨b71,rfl,rfl,rfl⟩;refine SL.to (fun w hw=>At.litRow (e:=encSv) (l:=[⟨qt,t.length,dt⟩]) (n:=0) hw I I dC) ?_;refine lM I (lM I (lU (SU.sliceL bH bZ I I oM oM) (lW (aQ (e:=encSv) 0 sty22 I I I hca (by rw[ze6]; (first | with_reducible rfl | ((try dsimp only); (try simp only[ze2,ze5,zc1,ze4,ze1,ze6])<;>omega))) (by rw[ze6]; (first | with_reducible rfl | ((try dsimp only); (try simp only[ze2,ze5,zc1,ze4,ze1,ze6])<;>omega)))) ?_)));rintro v75 _ _ ⟨rfl,rfl⟩;refine aT I (fS fun g5 hle5 hs5=>?_);have hrest:SlA encSv g5 v75 ([⟨qt,t.length,dt⟩]++ra.drop (lbL al t)):=hs5;refine rG (lW (bS sty22 I I I (ae trivial) dC) ?_);rintro _ _ _ ⟨b76,rfl,rfl,rfl⟩;refine SL.emptyRow 25 1 (some ⟨b76,0,none⟩) (lM I (lM I (lU (SU.sliceH bH bZ I I oM oM) (lW (aQ (e:=encSv) (l:=[]) 0 sty22 I I I (hcb.mono hle5) (by rw[ze1]; (first | with_reducible rfl | ((try dsimp only); (try simp only[ze2,ze5,zc1,ze4,ze1,ze6])<;>omega))) (by rw[ze1]; (first | with_reducible rfl | ((try dsimp only); (try simp only[ze2,ze5,zc1,ze4,ze1,ze6])<;>omega)))) ?_))));rintro v80 _ _ ⟨rfl,rfl⟩;refine lM I (lW (aQ (e:=encSv) 0 sty22 I I I hrest lN lN) ?_);rintro v82 _ _ ⟨rfl,rfl⟩;refine lA I (nL (bN (tN (rG (lM I (yD I (lA I (nL (fT fun g6 hle6 hs6=>?_)))))))));refine dR (s':=pt b2 (.cells #[.slice none 0 0] 30 (0,0))::s) (.cons _ (.refl _)) ?_;have hres:aF g6 v82 (al.take (lbL al t)++t::al.drop (lbL al t)):=by
        refine⟨ra.take (lbL al t)++⟨qt,t.length,dt⟩::ra.drop (lbL al t),?_,?_⟩
        ·have h:SlA encSv g6 v82 ([]++ra.take (lbL al t)++([⟨qt,t.length,dt⟩]++ra.drop (lbL al t))):=hs6;simpa using h
        ·exact ((aB.take _ halr).mono fun _ _=>bJ.mono (hle5.trans hle6)).append ⟨ht.mono (hle5.trans hle6),(aB.drop _ halr).mono fun _ _=>bJ.mono (hle5.trans hle6)⟩
       exact gA (g6,v82,al.take (lbL al t)++t::al.drop (lbL al t),b+1) ⟨I,I,I,I,I,I,bP (by simp),trivial⟩ I I ⟨hle3.trans (hle4.trans (hle5.trans hle6)),hbl2,hres,wM hbs hth,hmem2 _ (fun y=>Bb),lN⟩ lN
      ·have hth:t∈al:=by simpa using hthere
       refine kP (bN (tN (rG (lM I (yD I (lA I (nL ?_)))))));exact gA (g4,bv,al,b+1) ⟨I,I,I,I,I,I,bP (by simp),trivial⟩ I I ⟨hle3.trans hle4,hbl2,hbv4,hbs,hmem2 _ (fun y=>⟨.inr,fun h=>h.elim (fun e=>by rw[e]; exact hth) id⟩),lN⟩ lN
    ·have hbb:b=2 ^ (ce x).length - 1:=oM;refine xI (tX (tX (bX ?_)));exact za7 (g3,bv,al) sB I I ⟨hle.trans (hle2.trans hle3),hbv,hbs,fun y=>by dsimp only; rw[hbm]; unfold bI; rw[hbb],lN⟩
   ·rintro ⟨g3,bv,al⟩ ⟨hle3,hbv,hbs,hbm,hbl⟩;dsimp only at hle3 hbv hbs hbm hbl ⊢;have hals:∀ y∈al,y.length≤9:=fun y hy=>by
     rcases (hbm y).1 hy with h | h
     ·exact has y h
     ·exact gU hs9 y h
    have key:((al.length:Int)>4000→aG [] ls=none)∧(¬ (al.length:Int)>4000→aG [] ls=aG al (ls.drop (i+1))):=by
     by_cases hb:jk (ce x)=true
     ·have he:=hsb hb;have hal2:al=all:=gV hbs hstr fun y=>by rw[hbm,he]; simp[bI]
      refine⟨fun h=>by rw[hal2] at h; omega,fun _=>by rw[hsa,aG,zf7 hb,hal2]⟩
     ·have hal2:al=dT all (ce x):=gV hbs (kA _ _) fun y=>by rw[hbm,gr]
      refine⟨fun h=>by rw[hsa,aG,zf6 hb,zf7 (by rw[← hal2]; exact h)],fun h=>by rw[hsa,aG,zf6 hb,zf6 (by rw[← hal2]; exact h),← hal2]⟩
    obtain ⟨ra,hra,halr⟩:=hbv;have hbv:aF g3 bv al:=⟨ra,hra,halr⟩;have hral:=halr.length;obtain ⟨qa,da,rfl⟩:=za2 hra;refine sW I (lU (eN bH I) (lU (gR I I) (tZ ?_)));refine iP I (fun hmany=>?_) (fun hmany=>?_)
    ·refine rZ (lU (za1 I (buildE30)) (oZ (sK 0 aw I I I I I sB) ?_));refine tZ (rE (bR (tR (tR (bR (tR ?_))))));exact ST.retCD 0 s (.inl I) results24 I bq aw I I uR ⟨I,hle3,_,I,by simp only[bQ,key.1 oM]; exact⟨[],zb8 _ _,trivial⟩⟩
    ·refine kP (bN (tN (rG (lM I (yD I (lA I (nL ?_)))))));exact gA (g3,_,al,i+1) sB I I ⟨hle3,lN,hbv,⟨lN,hals⟩,hbs,key.2 oM⟩ lN
  ·have hb:=Gj hok;obtain ⟨ra,hra,halr⟩:=hav2;have hav2:aF g2 av all:=⟨ra,hra,halr⟩;have hral:=halr.length;obtain ⟨qa,da,rfl⟩:=za2 hra;refine lM I (yX I (yX I (lA I (aT I (sQ (rZ (aT I (bK ?_))))))));refine oP (ι:=Unit) (fun _=>[(0,.slice p rs0.length c),(2,pp b2 0),(3,.slice qa ra.length da),(4,vi i),(5,.slice none 0 0),(6,vb false),(7,vi 1)]) (fun _=>g2) (fun _=>pt b2 (.cells #[.slice none 0 0] 30 (0,0))::s) (fun _=>True) (fun _=>0) () sB I I trivial ?_;rintro ⟨⟩ -;refine sQ (sW I (lM I (yA I (yA I (yA I (yA I (yA I (yF I (tZ (cF I (xI (tX (tX (bX (tN (sW I (lU (eN bH I) (lU (gR I I) (tZ ?_)))))))))))))))))));refine iP I (fun hmany=>?_) (fun hmany=>?_)
   ·exfalso;omega
   ·refine kP (bN (tN (rG (lM I (yD I (lA I (nL ?_)))))));exact gA (g2,_,all,i+1) sB I I ⟨hle.trans hle2,lN,hav2,⟨hal,has⟩,hstr,by dsimp only; rw[hsa,aG,zf7 hb]⟩ lN
 ·have hk0:i=rs0.length:=oM;have hsome:aG [] ls=some all:=by rw[hsa,hk0,← hlen0,List.drop_length]; rfl
  obtain ⟨rs,hrs,hall⟩:=hav;have hav:aF g1 av all:=⟨rs,hrs,hall⟩;have hrl:=hall.length;obtain ⟨q,d,rfl⟩:=za2 hrs;refine xI (tX (tX (bX (tN (rZ (bW (aL zl4) fun b13=>?_))))));refine tZ (sQ (rZ (aT I (bK (zb4 78 3 ?_)))));refine oP (ι:=PH×Value×List Rc×Nat) (fun i=>[(2,pp b2 0),(3,.slice q rs.length d),(13,pp b13 0),(14,vi i.2.2.2)]) (fun i=>i.1)
   (fun i=>rowA encCell 78 i.2.1 i.2.2.1::pt b13 (.cells #[i.2.1] 30 (0,0))::pt b2 (.cells #[.slice none 0 0] 30 (0,0))::s)
   (fun i=>Le g1 i.1∧i.2.2.2≤rs.length∧aB (au i.1) (((aU all).take i.2.2.2).map ay) i.2.2.1) (fun i=>rs.length - i.2.2.2)
   (g1,.slice none 0 0,[],0) sB rfl rfl ⟨zb7 g1,zf3 _,trivial⟩ ?_
  rintro ⟨g3,ov,rcs,n⟩ ⟨hle3,hn3,hrcs⟩;dsimp only at hle3 hn3 hrcs ⊢;have hrcl:=hrcs.length;rw[ze3,ze1,bG] at hrcl;refine sQ (sW I (lM I (lU (eN bH I) (yL I (tZ ?_)))));refine iP I (fun hlt2=>?_) (fun hlt2=>?_)
  ·have hnl:n<all.length:=oM;have hnr:n<rs.length:=oM;have hb1:=hrs.based oM;have hR:=(hall.get (gE hnl) (gE hnr)).mono hle3;have hRl:=hR.len;have hx9:=has _ (gM hnl);have hget:=ja hnl;generalize hx:all[n]=x at *;generalize hr:rs[n]=r at *;obtain ⟨rp,rn,rc⟩:=r;dsimp only at hRl;subst hRl;have hxs:bT g3 (.slice rp x.length rc) x:=hR;have hgr:rs[((n:Nat):Int).toNat]?=some ⟨rp,x.length,rc⟩:=by rw[← hr]; exact gE hnr
   refine kP (tN (sQ (bK (sW I (yD I (lM I (lM I (lU (iA bH bZ I I hb1 oM sL) (lK (eB (u:=.slice rp x.length rc) dx I (hrs.mono hle3).rd hgr I) (lU (eN ak I) (lU (sU I I oM) (lU (za1 I (buildC78 _ _)) (bW (aL zl1) fun b15=>?_)))))))))))));refine oZ (sK 0 aK I I I I I sB) ?_;refine tZ ?_;refine SC.cut (ι:=PH×Value) (fun i=>[(2,pp b2 0),(3,.slice q rs.length d),(13,pp b13 0),(14,vi n),(15,pp b15 0)]) (fun i=>i.1)
    (fun i=>rowA encSide 94 i.2 (aM all x x.length)::pt b15 (.cells #[vi ((n:Int)+1),vi ((x.length:Int) - 1),i.2] 78 (0,0))::rowA encCell 78 ov rcs::pt b13 (.cells #[ov] 30 (0,0))::pt b2 (.cells #[.slice none 0 0] 30 (0,0))::s)
    (fun i=>Le g3 i.1) ?_ ?_
   ·refine sQ (zb4 94 2 (rG (aT I (bK ?_))));refine oP (ι:=PH×Value×Nat) (fun i=>[(2,pp b2 0),(3,.slice q rs.length d),(13,pp b13 0),(14,vi n),(15,pp b15 0),(16,vi i.2.2)]) (fun i=>i.1)
     (fun i=>rowA encSide 94 i.2.1 (aM all x i.2.2)::pt b15 (.cells #[vi ((n:Int)+1),vi ((x.length:Int) - 1),i.2.1] 78 (0,0))::rowA encCell 78 ov rcs::pt b13 (.cells #[ov] 30 (0,0))::pt b2 (.cells #[.slice none 0 0] 30 (0,0))::s)
     (fun i=>Le g3 i.1∧i.2.2≤x.length) (fun i=>x.length - i.2.2)
     (g3,.slice none 0 0,0) sB rfl rfl ⟨zb7 g3,zf3 _⟩ ?_
    rintro ⟨g4,sv,j⟩ ⟨hle4,hj⟩;dsimp only at hle4 hj ⊢;have hssl:=em all x j;have hsucc:=ff all x j;have hxs4:bT g4 (.slice rp x.length rc) x:=hxs.mono hle4;by_cases hjl:j<x.length
    ·have hjd:((j:Nat):Int)<((x.length:Nat):Int):=oM;by_cases hdim:((x.length:Int) - 1)>0
     ·have hel:(x.eraseIdx j).length=x.length - 1:=by rw[List.length_eraseIdx]; simp[hjl]
      have hside:eX all x j=[⟨lbL all (x.eraseIdx j)+1,cH j⟩]:=by unfold eX; rw[zf7 oM]
      have hlb:=AF all (x.eraseIdx j);rw[hside] at hsucc;have hcap:=(SlA.cap hxs4).2;have hc1:=SlA.cut hxs4 (l:=0) (m:=j) oM oM;have hc2:=SlA.cut hxs4 (l:=j+1) (m:=x.length) oM oM;have he1:(x.drop 0).take (j - 0)=x.take j:=by simp
      have he2:(x.drop (j+1)).take (x.length - (j+1))=x.drop (j+1):=tL (by rw[ze6]; omega);rw[he1] at hc1;rw[he2] at hc2;have her:[]++x.take j++x.drop (j+1)=x.eraseIdx j:=by rw[List.eraseIdx_eq_take_drop_succ]; simp
      have hcl1:([]++x.take j).length=j:=by simp; omega
      refine sQ (sW I (lM I (lM I (lU (iA bH bZ I I hb1 oM sL) (lK (eB (u:=.slice rp x.length rc) dx I (hrs.mono (hle3.trans hle4)).rd hgr I) (lU (eN ak I) (lU (SU.eq (v':=vb true) (lS I I) (zd8 vb (zf5 hjd))) (lM I (lY I I I (fA ar I zT3 I) (SL.gq (gT I I I dC) (qL (v:=vi ((x.length:Int) - 1)) iT3 I (cO 1 I I)) dC (lY I I I (SU.eq (v':=vb true) (gR I I) (zd8 vb (zf5 hdim))) (yP I (tZ (cT I (kP (tN (sQ (bK (sQ ?_)))))))))))))))))));refine dW [15] [(1,2),(2,2),(3,2),(4,1),(5,2),(6,2),(8,2),(9,2),(10,2),(11,1),(12,2),(13,2),(14,2),(0,0),(7,0),(15,0),(16,2)] zd9 kR ?_;refine yM I (yM I (pU I (iA bH bZ I I hb1 oM sL) (pK I (eB (u:=.slice rp x.length rc) dx I (hrs.mono (hle3.trans hle4)).rd hgr I) (yM I (pU I (SU.sliceH ak zT3 I I oM oM) (yM I (yM I (pU I (iA bH bZ I I hb1 oM sL) (pK I (eB (u:=.slice rp x.length rc) dx I (hrs.mono (hle3.trans hle4)).rd hgr I) (yM I (pU I (aD I I oM) (pU I (SU.eq (v':=sliced rp (j+1) x.length rc 1) (SU.sliceL ak zT3 I I oM oM) (by rw[show ((j:Int)+1).toNat=j+1 by omega])) ?_))))))))))));refine SP.o I (bS sty25 I I I (ae trivial) dC) dC (.inr iR) ?_;rintro _ _ _ ⟨b116,rfl,rfl,rfl⟩;refine SP.to (fun w hw=>hw.emptyRow 3 1 (some ⟨b116,0,none⟩)) ?_;refine SP.o I (aQ (e:=encInt) (l:=[]) 0 sty25 I I I hc1 (by rw[ze1]; (first | with_reducible rfl | ((try dsimp only); (try simp only[ze2,ze5,zc1,ze4,ze1,ze6])<;>omega))) (by rw[ze1]; (first | with_reducible rfl | ((try dsimp only); (try simp only[ze2,ze5,zc1,ze4,ze1,ze6])<;>omega)))) dC (.inr iR) ?_;rintro v123 _ _ ⟨rfl,rfl⟩;refine SP.o I (aQ (e:=encInt) 0 sty25 I I I hc2 (by rw[ze6,hcl1]; omega) (by rw[ze6,hcl1]; omega)) dC (.inl dC) ?_;rintro v131 _ _ ⟨rfl,rfl⟩;refine pU I (aS I) (pN (tN (sQ (fS fun g6 hle6 hs6=>?_))));have hrest:bT g6 v131 (x.eraseIdx j):=(by rw[← her]; exact hs6);refine SC.drop (s':=rowA encSide 94 sv (aM all x j)::pt b15 (.cells #[vi ((n:Int)+1),vi ((x.length:Int) - 1),sv] 78 (0,0))::rowA encCell 78 ov rcs::pt b13 (.cells #[ov] 30 (0,0))::pt b2 (.cells #[.slice none 0 0] 30 (0,0))::s) (.cons _ (.refl _)) (rG (lM I (lM I (lW (cL call63 I (qX E g6 _ _ _ all (x.eraseIdx j) (hav.mono (hle3.trans (hle4.trans hle6))) hrest oM (fun y hy=>by have:=has y hy; omega) oM hstr.srt)) ?_))));rintro _ _ _ ⟨rfl,rfl,rfl⟩;refine lM I (yX I (yX I (lA I (aT I (rG (lU (fA ar I cA I) (lK (qL (v:=sv) dE I (cO 1 I I)) (lM I (yD I (lM I (lU (SU.eq (v':=vi ((j:Int) % 2)) (zd4 I I dC) (zd8 vi (Dv j))) (lU (SU.mul I I oM) (lU (SU.eq (v':=vi (cH j)) (sU I I oM) I) (lU (za1 I (buildS94 _ _)) (lW (bS sty76 I I I (ae sB) dC) ?_)))))))))))))));rintro _ _ _ ⟨b147,rfl,rfl,rfl⟩;refine lW (aP (e:=encSide) 0 ⟨lbL all (x.eraseIdx j)+1,cH j⟩ sty76 I I I I I oM oM) ?_;rintro v148 _ _ ⟨rfl,rfl⟩;rw[← hsucc];refine zc9 fun ⟨w0,hw0⟩=>?_;obtain ⟨q148,d148,rfl⟩:=ah (i:=0) hw0 rfl;clear hw0 w0;refine lU (fA ar rfl cA rfl) (oZ (SO.store1 1 cA rfl rfl rfl rfl (bE rfl) (by rfl)) ?_);refine nL (bN (tN (rG (lM I (yD I (lA I (nL ?_)))))));exact gA (g6,_,j+1) sB I I ⟨hle4.trans hle6,lN⟩ lN
     ·have hx1:x.length=1:=oM;have hj0:j=0:=oM;have hempty:aM all x x.length=aM all x j:=by
       rw[hx1,hj0];have h0:=ff all x 0;have hs0:eX all x 0=[]:=by
        unfold eX;rw[zf6];rw[List.length_eraseIdx];simp[hx1]
       rw[h0,hs0,zc3]
      rw[← hempty];refine sQ (sW I (lM I (lM I (lU (iA bH bZ I I hb1 oM sL) (lK (eB (u:=.slice rp x.length rc) dx I (hrs.mono (hle3.trans hle4)).rd hgr I) (lU (eN ak I) (lU (SU.eq (v':=vb true) (lS I I) (zd8 vb (zf5 hjd))) (lM I (lY I I I (fA ar I zT3 I) (SL.gq (gT I I I dC) (qL (v:=vi ((x.length:Int) - 1)) iT3 I (cO 1 I I)) dC (lY I I I (SU.eq (v':=vb false) (gR I I) (zd8 vb (zf4 hdim))) (yP I (tZ (cF I (xI (tX (tX (bX ?_))))))))))))))))));exact za7 (g4,sv) sB I I hle4
    ·have hjd:¬ ((j:Nat):Int)<((x.length:Nat):Int):=oM;have hjj:j=x.length:=oM;subst hjj;refine sQ (sW I (lM I (lM I (lU (iA bH bZ I I hb1 oM sL) (lK (eB (u:=.slice rp x.length rc) dx I (hrs.mono (hle3.trans hle4)).rd hgr I) (lU (eN ak I) (lU (SU.eq (v':=vb false) (lS I I) (zd8 vb (zf4 hjd))) (lM I (yA I (yA I (yA I (yF I (tZ (cF I (xI (tX (tX (bX ?_))))))))))))))))));exact za7 (g4,sv) sB I I hle4
   ·rintro ⟨g4,sv⟩ hle4;dsimp only at hle4 ⊢;have hssl:=em all x x.length;refine rZ (fR fun g5 hle5 hs5=>?_);have hsd:SlA encSide g5 sv (aM all x x.length):=hs5;refine lU (fA ar I cA I) (lK (qL (v:=sv) dE I (cO 0 I I)) (lW (cL call64 I (qP E g5 _ _ (aM all x x.length) hsd oM)) ?_));rintro v152 g6 _ ⟨rfl,hle6,hs6⟩;obtain ⟨q6,d6,rfl⟩:=za2 hs6;obtain ⟨nc,hnc⟩:∃ nc:Rc,nc=⟨(n:Int)+1,(x.length:Int) - 1,⟨q6,(sortBy ai.cell (aM all x x.length)).length,d6⟩⟩:=⟨_,rfl⟩;refine lU (fA ar rfl cA rfl) (oZ (SO.store1 0 cA rfl rfl rfl rfl (bE rfl) (by rfl)) ?_);refine tZ (rG (lU (fA fq I ek I) (lK (qL ii I (cO 2 I I)) (lK (qV 0 gJ aK I I I) (lW (bS sty28 I I I (ae sB) dC) ?_)))));rintro _ _ _ ⟨b157,rfl,rfl,rfl⟩;refine lW (aP (e:=encCell) 1 nc sty28 I I I I (by rw[hnc]; rfl) oM oM) ?_;rintro v158 _ _ ⟨rfl,rfl⟩;refine zc9 fun ⟨w0,hw0⟩=>?_;obtain ⟨q158,d158,rfl⟩:=ah (i:=1) hw0 rfl;clear hw0 w0;refine lU (fA fq I ek I) (oZ (sK 2 ek I I I I I sB) ?_);refine nL (bN (tN (rG (lM I (yD I (lA I (nL (dR (s':=rowA encCell 78 (.slice q158 (rcs++[nc]).length d158) (rcs++[nc])::pt b13 (.cells #[.slice q158 (rcs++[nc]).length d158] 30 (0,0))::pt b2 (.cells #[.slice none 0 0] 30 (0,0))::s) (.cons _ (.refl _)) ?_))))))));refine gA (g6,_,rcs++[nc],n+1) sB I I ⟨hle3.trans (hle4.trans (hle5.trans hle6)),lN,?_⟩ lN;dsimp only;rw[fg hget,zg2];exact (hrcs.mono fun _ _=>au.mono (hle4.trans (hle5.trans hle6))).append ⟨(by rw[hnc]; exact⟨I,I,hs6⟩),trivial⟩
  ·have hnn:n=rs.length:=oM;have htk:(aU all).take n=aU all:=tL (by rw[bG]; omega);rw[htk] at hrcs;refine xI (tX (tX (bX (tN (sQ (fS fun g4 hle4 hs4=>?_))))));have hov:am g4 ov (bQ ls):=(by simp only[bQ,hsome,rF]; exact⟨rcs,hs4,hrcs.mono fun _ _=>au.mono hle4⟩);obtain ⟨q9,d9,rfl⟩:=hov.form;refine rG (lK (qV 0 bq aw I I I) (oZ (sK 1 aw I I I I I sB) ?_));refine tZ (rE ?_);exact ST.retCD 1 s (.inl I) results24 I bq aw I I uR ⟨I,hle.trans (hle3.trans hle4),_,I,hov⟩
end Go.Proofs.YtkbagdedfdfjhaaGreatDoor
