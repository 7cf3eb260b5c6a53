/- 10 -/
import Derived.Test.YtcfkpajlakidbaaGreatDoorTb07
import Derived.Test.YtcfkpajlakidbaaGreatDoorTb09
import Derived.Test.YtcfkpajlakidbaaGreatDoorTb05
import Derived.Test.YtcfkpajlakidbaaGreatDoorTb08
import Derived.Test.YtcfkpajlakidbaaGreatDoorTb06
import Derived.Test.YtcfkpajlakidbaaGreatDoorTb04
import Derived.RangeFuncLeaves
import Derived.RangeFuncRecord
import Derived.RangeFuncSeq
import Derived.OrdersIn
import Derived.TacticsIn
import Derived.Laws.BytesString
import Derived.Laws.Strings
import Derived.Test.YtcfkpajlakidbaaGreatDoorTb02
import Derived.Shelf.Strings.Trim
set_option linter.unusedSimpArgs false
set_option linter.unusedVariables false
namespace Go.Proofs.YtcfkpajlakidbaaGreatDoor
open _root_.Go.Proofs.Tryz _root_.Go.Proofs.YtcfkpajlakidbaaGreatDoor.Tryz
open Go Go.Sy Go.Pl Go.Proofs
inductive Cn (E:Int→Int→Prop):Int→Int→Prop
 | refl (a:Int):Cn E a a
 | step {a b c:Int} (h:E a b∨E b a) (r:Cn E b c):Cn E a c
theorem Cn.trans {E:Int→Int→Prop}{a b c:Int}(h:Cn E a b)(k:Cn E b c):Cn E a c:=by
 induction h with
 | refl _=>exact k
 | step h _ ih=>exact .step h (ih k)
theorem Cn.one {E:Int→Int→Prop}{a b:Int}(h:E a b):Cn E a b:=.step (.inl h) (.refl b)
theorem Cn.symm {E:Int→Int→Prop}{a b:Int}(h:Cn E a b):Cn E b a:=by
 induction h with
 | refl _=>exact .refl _
 | step h _ ih=>exact ih.trans (.step h.symm (.refl _))
theorem Cn.mono {E E':Int→Int→Prop}(h:∀ a b,E a b→Cn E' a b){a b:Int}(hc:Cn E a b):Cn E' a b:=by
 induction hc with
 | refl _=>exact .refl _
 | step e _ ih =>
  rcases e with e | e
  ·exact (h _ _ e).trans ih
  ·exact (h _ _ e).symm.trans ih
theorem Cn.iso {E:Int→Int→Prop}{a b:Int}(h:∀ b,¬ E a b∧¬ E b a)(hc:Cn E a b):a=b:=by
 cases hc with
 | refl _=>rfl
 | step e _ =>
  rcases e with e | e
  ·exact absurd e (h _).1
  ·exact absurd e (h _).2
theorem Cn.add {E E':Int→Int→Prop}{x y:Int}(h:∀ a b,E' a b↔E a b∨(a=x∧b=y))(a b:Int):Cn E' a b↔Cn E a b∨(Cn E a x∧Cn E y b)∨(Cn E a y∧Cn E x b):=by
 have hxy:Cn E' x y:=.one ((h x y).2 (.inr ⟨rfl,rfl⟩));have hm:∀ {a b:Int},Cn E a b→Cn E' a b:=fun hc=>hc.mono fun a b e=>.one ((h a b).2 (.inl e));constructor
 ·intro hc;induction hc with
  | refl _=>exact .inl (.refl _)
  | step e _ ih =>
   have key:∀ {p q r:Int},Cn E p q→(Cn E q r∨(Cn E q x∧Cn E y r)∨(Cn E q y∧Cn E x r))→Cn E p r∨(Cn E p x∧Cn E y r)∨(Cn E p y∧Cn E x r):=by
    rintro p q r h1 (h2 | ⟨h2,h3⟩ | ⟨h2,h3⟩)
    ·exact .inl (h1.trans h2)
    ·exact .inr (.inl ⟨h1.trans h2,h3⟩)
    ·exact .inr (.inr ⟨h1.trans h2,h3⟩)
   rcases e with e | e
   ·rcases (h _ _).1 e with e | ⟨rfl,rfl⟩
    ·exact key (.one e) ih
    ·rcases ih with h2 | ⟨_,h3⟩ | ⟨_,h3⟩
     ·exact .inr (.inl ⟨.refl _,h2⟩)
     ·exact .inr (.inl ⟨.refl _,h3⟩)
     ·exact .inl h3
   ·rcases (h _ _).1 e with e | ⟨rfl,rfl⟩
    ·exact key (Cn.one e).symm ih
    ·rcases ih with h2 | ⟨_,h3⟩ | ⟨_,h3⟩
     ·exact .inr (.inr ⟨.refl _,h2⟩)
     ·exact .inl h3
     ·exact .inr (.inr ⟨.refl _,h3⟩)
 ·rintro (h1 | ⟨h1,h2⟩ | ⟨h1,h2⟩)
  ·exact hm h1
  ·exact (hm h1).trans (hxy.trans (hm h2))
  ·exact (hm h1).trans (hxy.symm.trans (hm h2))
def dQ (ml:List (Int×List Int))(a b:Int):Prop:=∃ p∈ml,p.2.head?=some a∧b∈p.2
def RZ (e:En)(z:Int×Int):Prop:=e.id=z.1∧e.sum=z.2
def RM (e:En)(p:Int×List Int):Prop:=e.id=p.1∧e.many=p.2.length∧p.2.head?=some (e.fst:Int)
theorem qP {x:Int}(h : -9223372036854775808≤x∧x<9223372036854775808):wr x=x:=zk5 _ oM
theorem CE {i:Nat}{c p:Int}:∀ {es:List En} {zl:List (Int×Int)},au RZ es zl→(∀ e∈es,wr (e.sum+p)=e.sum+p)→wr (0+p)=p→au RZ (kh i c p es) (gh zl c p)
 | [],[],_,_,hp=>⟨⟨rfl,hp⟩,trivial⟩
 | e::es,(a,z)::zl,h,hb,hp=>by
  obtain ⟨⟨h1,h2⟩,h3⟩:=h;have h1:e.id=a:=h1;have h2:e.sum=z:=h2;simp only[kh,gh];by_cases hc:e.id=c
  ·rw[zf8 hc,zf8 (by rw[← h1,hc])];exact⟨⟨h1,by show wr (e.sum+p)=z+p; rw[hb e (by simp),h2]⟩,h3⟩
  ·rw[zf7 hc,zf7 (by rw[← h1]; exact fun e=>hc e.symm)];exact⟨⟨h1,h2⟩,CE h3 (fun x hx=>hb x (by simp[hx])) hp⟩
 | [],_::_,h,_,_=>h.elim
 | _::_,[],h,_,_=>h.elim
theorem CF {i:Nat}{c p:Int}:∀ {es:List En} {ml:List (Int×List Int)},au RM es ml→(∀ e∈es,wr (e.many+1)=e.many+1)→au RM (kh i c p es) (fo ml c i) ∧
  ∀ a b,dQ (fo ml c i) a b↔dQ ml a b∨(a=i5 i c es∧b=i)
 | [],[],_,_=>by
  refine⟨⟨⟨rfl,by rfl,rfl⟩,trivial⟩,fun a b=>?_⟩;constructor
  ·rintro ⟨q,hq,h1,h2⟩;simp[fo] at hq;subst hq;simp at h1 h2;exact .inr ⟨h1.symm,h2⟩
  ·rintro (⟨q,hq,_⟩ | ⟨rfl,rfl⟩)
   ·simp at hq
   ·exact⟨(c,[(i:Int)]),by simp[fo],I,by simp⟩
 | e::es,(k,l)::ml,h,hb=>by
  obtain ⟨⟨h1,h2,h4⟩,h3⟩:=h;have h1:e.id=k:=h1;have h2:e.many=l.length:=h2;have h4:l.head?=some (e.fst:Int):=h4;simp only[kh,fo,i5];by_cases hc:e.id=c
  ·rw[zf8 hc,zf8 (by rw[← h1,hc]),zf8 hc];have hh:(l++[(i:Int)]).head?=some (e.fst:Int):=by
    cases l with
    | nil=>simp at h4
    | cons x r=>simpa using h4
   refine⟨⟨⟨h1,by show wr (e.many+1)=_; rw[hb e (by simp),h2]; simp,hh⟩,h3⟩,fun a b=>?_⟩;constructor
   ·rintro ⟨q,hq,h5,h6⟩
    rcases ze8.1 hq with rfl | hq
    ·dsimp only at h5 h6;rw[hh] at h5
     rcases zf1.1 h6 with h6 | h6
     ·exact .inl ⟨(k,l),by simp,by rw[h4,h5],h6⟩
     ·simp at h6;injection h5 with h5
      exact .inr ⟨h5.symm,h6⟩
    ·exact .inl ⟨q,by simp[hq],h5,h6⟩
   ·rintro (⟨q,hq,h5,h6⟩ | ⟨rfl,rfl⟩)
    ·rcases ze8.1 hq with rfl | hq
     ·exact⟨(k,l++[(i:Int)]),by simp,by rw[hh,← h4,h5],by simp[h6]⟩
     ·exact⟨q,by simp[hq],h5,h6⟩
    ·exact⟨(k,l++[(i:Int)]),by simp,hh,by simp⟩
  ·rw[zf7 hc,zf7 (by rw[← h1]; exact fun e=>hc e.symm),zf7 hc];obtain ⟨i1,i2⟩:=CF (i:=i) (c:=c) (p:=p) h3 fun x hx=>hb x (by simp[hx]);refine⟨⟨⟨h1,h2,h4⟩,i1⟩,fun a b=>?_⟩;have e1:∀ L,dQ ((k,l)::L) a b↔(l.head?=some a∧b∈l)∨dQ L a b:=fun L=>by
    unfold dQ;simp
   rw[e1,e1,i2,or_assoc]
 | [],_::_,h,_=>h.elim
 | _::_,[],h,_=>h.elim
structure Sd (n t k:Nat)(es:List En)(part:List Int)(zl:List (Int×Int))(ml:List (Int×List Int)):Prop where
 z:au RZ es zl
 m:au RM es ml
 bz:∀ e∈es,-(t:Int)≤e.sum∧e.sum≤t∧0≤e.many∧e.many≤t
 bf:∀ e∈es,e.fst<k
 bm:∀ p∈ml,∀ x∈p.2,0≤x∧x<k
 len:part.length=n
 bp:∀ a,a<k→0≤part.getD a 0∧part.getD a 0<k
 cn:∀ a b:Nat,a<k→b<k→(part.getD a 0=part.getD b 0↔Cn (dQ ml) a b)
theorem gz {ml:List (Int×List Int)}{k:Nat}(h:∀ p∈ml,∀ x∈p.2,0≤x∧x<(k:Int)){a b:Int}(hl:dQ ml a b):(0≤a∧a<k)∧(0≤b∧b<k):=by
 obtain ⟨p,hp,h1,h2⟩:=hl;exact⟨h p hp a (List.mem_of_head? h1),h p hp b h2⟩
theorem Sd.open {n t k:Nat}{es:List En}{part:List Int}{zl:List (Int×Int)}{ml:List (Int×List Int)}(h:Sd n t k es part zl ml)(hk:k<n):Sd n t (k+1) es (part.set k k) zl ml:=by
 have hl:=h.len;have g1:(part.set k (k:Int)).getD k 0=k:=by rw[zg8,List.getElem?_set]; simp[hl,hk]
 have g2:∀ a,a≠k→(part.set k (k:Int)).getD a 0=part.getD a 0:=fun a ha=>by
  rw[zg8,zg8,List.getElem?_set,zf7 fun e=>ha e.symm]
 have iso:∀ b,¬ dQ ml k b∧¬ dQ ml b k:=fun b=>⟨fun e=>by have:=gz h.bm e; omega,fun e=>by have:=gz h.bm e; omega⟩;refine⟨h.z,h.m,h.bz,fun e he=>by have:=h.bf e he; omega,fun p hp x hx=>by have:=h.bm p hp x hx; omega,by simp[hl],fun a ha=>?_,fun a b ha hb=>?_⟩
 ·by_cases e:a=k
  ·subst e; rw[g1]; omega
  ·rw[g2 a e]; have:=h.bp a oM; omega
 ·by_cases e:a=k <;> by_cases e2:b=k
  ·subst e; subst e2; exact⟨fun _=>.refl _,fun _=>I⟩
  ·subst e;rw[g1,g2 b e2];have:=h.bp b oM;exact⟨fun h=>by omega,fun hc=>by have:=hc.iso iso; omega⟩
  ·subst e2;rw[g1,g2 a e];have:=h.bp a oM;exact⟨fun h=>by omega,fun hc=>by have:=hc.symm.iso iso; omega⟩
  ·rw[g2 a e,g2 b e2];exact h.cn a b oM oM
theorem jT {m:Nat}{old now:Int}{p:List Int}{a:Nat}(h:a<p.length)(hm:a<m):(dP m old now p).getD a 0=if p.getD a 0=now then old else p.getD a 0:=by
 rw[zg8,zg8];simp only[dP,List.getElem?_mapIdx,gE h,Option.map_some,Option.getD_some,hm,true_and]
theorem BO {i:Nat}{c:Int}{es:List En}(h:∀ e∈es,e.fst<i+1):i5 i c es<i+1:=by
 induction es with
 | nil=>exact Nat.lt_succ_self i
 | cons e r ih =>
  unfold i5;split
  ·exact h e (by simp)
  ·exact ih fun x hx=>h x (by simp[hx])
theorem wD {P:En→Prop}{i:Nat}{c p:Int}(hn:P (En.up ⟨c,0,0,i⟩ p))(hu:∀ e,P e→P (e.up p))(ho:∀ e,P e→P e):∀ {es:List En},(∀ e∈es,P e)→∀ e∈kh i c p es,P e
 | [],_,e,he=>by simp[kh] at he; subst he; exact hn
 | x::r,h,e,he=>by
  unfold kh at he;split at he
  ·rcases ze8.1 he with rfl | he
   ·exact hu x (h x (by simp))
   ·exact h e (by simp[he])
  ·rcases ze8.1 he with rfl | he
   ·exact h e (by simp)
   ·exact wD hn hu ho (fun y hy=>h y (by simp[hy])) e he
theorem wK {P:Int→Prop}{c:Int}{i:Int}(hi:P i):∀ {ml:List (Int×List Int)},(∀ p∈ml,∀ x∈p.2,P x)→∀ p∈fo ml c i,∀ x∈p.2,P x
 | [],_,p,hp,x,hx=>by simp[fo] at hp; subst hp; simp at hx; subst hx; exact hi
 | (k,l)::r,h,p,hp,x,hx=>by
  unfold fo at hp;split at hp
  ·rcases ze8.1 hp with rfl | hp
   ·rcases zf1.1 hx with hx | hx
    ·exact h (k,l) (by simp) x hx
    ·simp at hx; subst hx; exact hi
   ·exact h p (by simp[hp]) x hx
  ·rcases ze8.1 hp with rfl | hp
   ·exact h (k,l) (by simp) x hx
   ·exact wK hi (fun q hq=>h q (by simp[hq])) p hp x hx
theorem Sd.next {n t i:Nat}{es:List En}{part:List Int}{zl:List (Int×Int)}{ml:List (Int×List Int)}{x r:aj}(h:Sd n t (i+1) es part zl ml)(hi:i<n)(ht:t<1000000)(hx:x.sign=1∨x.sign = -1)(hr:r.sign=1∨r.sign = -1) :
  Sd n (t+1) (i+1) (la i x.sign (es,part) r).1 (la i x.sign (es,part) r).2 (kZ x zl r) (ez i ml r):=by
 have hp:=vV hx hr;have hw:wr (x.sign * r.sign)=x.sign * r.sign:=qP oM;unfold la kZ ez;dsimp only;rw[hw];generalize x.sign * r.sign=p at *;have hl:=h.len;have hbm:=CF (i:=i) (c:=r.cell) (p:=p) h.m fun e he=>by have:=h.bz e he; exact qP oM
 have hf:=BO (c:=r.cell) h.bf;refine⟨CE h.z (fun e he=>by have:=h.bz e he; exact qP oM) (by rw[Int.zero_add]; exact qP oM),hbm.1,?_,?_,?_,by rw[kT]; exact hl,fun a ha=>?_,fun a b ha hb=>?_⟩
 ·have:∀ e∈kh i r.cell p es,(-(t:Int)≤e.sum∧e.sum≤t∧0≤e.many∧e.many≤t)∨(-((t+1:Nat):Int)≤e.sum∧e.sum≤((t+1:Nat):Int)∧0≤e.many∧e.many≤((t+1:Nat):Int)):=by
   have h0:=h.bz;clear h hbm hf hl;generalize hes:kh i r.cell p es=fs;intro e he;subst hes;induction es with
   | nil =>
    simp[kh] at he;subst he;right;simp only[En.up];rw[qP oM,qP oM];omega
   | cons y q ih =>
    unfold kh at he;split at he
    ·rcases ze8.1 he with rfl | he
     ·right;have:=h0 y (by simp);simp only[En.up];rw[qP oM,qP oM];omega
     ·exact .inl (h0 e (by simp[he]))
    ·rcases ze8.1 he with rfl | he
     ·exact .inl (h0 e (by simp))
     ·exact ih (fun z hz=>h0 z (by simp[hz])) he
  intro e he
  rcases this e he with h1 | h1 <;> omega
 ·exact wD (P:=fun e=>e.fst<i+1) (Nat.lt_succ_self i) (fun e he=>he) (fun e he=>he) h.bf
 ·exact wK (P:=fun x=>0≤x∧x<((i+1:Nat):Int)) oM h.bm
 ·rw[jT oM ha];split
  ·exact h.bp _ hf
  ·exact h.bp a ha
 ·rw[jT oM ha,jT oM hb,Cn.add (x:=(i5 i r.cell es:Int)) (y:=(i:Int)) hbm.2 a b];rw[← h.cn a b ha hb,← h.cn a _ ha hf,← h.cn i b oM hb,← h.cn a i ha oM,← h.cn _ b hf hb];generalize part.getD a 0=pa;generalize part.getD b 0=pb;generalize part.getD i 0=pi;generalize part.getD (i5 i r.cell es) 0=pf;by_cases h1:pa=pi <;> by_cases h2:pb=pi <;> simp[h1,h2] <;> omega
theorem Sd.inner {n i:Nat}{x:aj}(hi:i<n)(hx:x.sign=1∨x.sign = -1):∀ (l:List aj) {t:Nat} {es:List En} {part:List Int} {zl:List (Int×Int)} {ml:List (Int×List Int)},Sd n t (i+1) es part zl ml→t+l.length<1000000→(∀ r∈l,r.sign=1∨r.sign = -1) →
  Sd n (t+l.length) (i+1) (l.foldl (la i x.sign) (es,part)).1 (l.foldl (la i x.sign) (es,part)).2 (l.foldl (kZ x) zl) (l.foldl (ez i) ml)
 | [],_,_,_,_,_,h,_,_=>h
 | r::l,t,es,part,zl,ml,h,ht,hr=>by
  simp only[ze6] at ht;have h1:=h.next (x:=x) (r:=r) hi oM hx (hr r (by simp));have:=Sd.inner hi hx l h1 oM (fun q hq=>hr q (by simp[hq]));simp only[zi5,ze6];rw[show t+(l.length+1)=t+1+l.length by omega];exact this
theorem Sd.outer {tl:List Cl}{n:Nat}:∀ (l:List aj) {t k:Nat} {es:List En} {part:List Int} {zl:List (Int×Int)} {ml:List (Int×List Int)},Sd n t k es part zl ml→k+l.length≤n→t+64 * l.length<1000000→(∀ x∈l,x.sign=1∨x.sign = -1)→(∀ x∈l,(aC tl x).length≤64∧∀ r∈aC tl x,r.sign=1∨r.sign = -1) →
  ∃ t',Sd n t' (k+l.length) ((l.zipIdx k).foldl (nh tl) (es,part)).1 ((l.zipIdx k).foldl (nh tl) (es,part)).2 (l.foldl (fun zl x=>(aC tl x).foldl (kZ x) zl) zl) ((l.zipIdx k).foldl (fun ml p=>(aC tl p.1).foldl (ez p.2) ml) ml)
 | [],t,_,_,_,_,_,h,_,_,_,_=>⟨t,h⟩
 | x::l,t,k,es,part,zl,ml,h,hk,ht,hs,hq=>by
  simp only[ze6] at hk ht;have h0:=hq x (by simp);have h1:=(h.open oM).inner (x:=x) oM (hs x (by simp)) (aC tl x) oM h0.2;obtain ⟨t',h2⟩:=Sd.outer l h1 oM oM (fun y hy=>hs y (by simp[hy])) (fun y hy=>hq y (by simp[hy]));refine⟨t',?_⟩;simp only[List.zipIdx_cons,zi5,ze6];rw[show k+(l.length+1)=k+1+l.length by omega];exact h2
theorem nO {α β:Type}{R:α→β→Prop}{p:α→Bool}{q:β→Bool}(h:∀ a b,R a b→p a=q b):∀ {l:List α} {m:List β},au R l m→l.any p=m.any q
 | [],[],_=>rfl
 | a::l,b::m,hr=>by simp only[List.any_cons,h a b hr.1,nO h hr.2]
 | [],_::_,hr=>hr.elim
 | _::_,[],hr=>hr.elim
theorem rI {ml:List (Int×List Int)}(h2:∀ p∈ml,p.2.length=2)(a b:Int):Rch (jd (cX ml)) a b↔Cn (dQ ml) a b:=by
 have hstep:∀ x y,y∈eE (cX ml) x→Cn (dQ ml) x y:=fun x y hy=>by
  obtain ⟨p,hp,h⟩:=(kx ml x y).1 hy
  rcases h with h | h
  ·exact .one ⟨p,hp,by rw[h]; rfl,by rw[h]; simp⟩
  ·exact (Cn.one (E:=dQ ml) ⟨p,hp,by rw[h]; rfl,by rw[h]; simp⟩).symm
 have hadj:∀ x,jd (cX ml) x≠none:=fun x=>by simp[jd]
 constructor
 ·intro h;induction h with
  | refl _ _=>exact .refl _
  | step x y _ l hl hy _ ih =>
   simp only[jd,zg5] at hl;subst hl;exact (hstep x y hy).trans ih
 ·intro h;induction h with
  | refl a=>exact .refl a (hadj a)
  | @step x y z e _ ih =>
   have key:∀ u v,dQ ml u v→v=u∨v∈eE (cX ml) u:=fun u v ⟨p,hp,h3,h4⟩=>by
    have:=h2 p hp
    match hq:p.2,this with
    | [c,d],_ =>
     rw[hq] at h3 h4;simp at h3 h4;subst h3
     rcases h4 with h4 | h4
     ·exact .inl h4
     ·exact .inr ((kx ml c v).2 ⟨p,hp,.inl (by rw[hq,h4])⟩)
   rcases e with e | e
   ·rcases key x y e with rfl | h5
    ·exact ih
    ·exact .step x y z _ I h5 ih
   ·rcases key y x e with rfl | h5
    ·exact ih
    ·refine .step x y z _ I ?_ ih;obtain ⟨p,hp,h6⟩:=(kx ml y x).1 h5;exact (kx ml x y).2 ⟨p,hp,h6.symm⟩
theorem nr {l:List Int}(hn:l.Nodup)(hb:∀ x∈l,0≤x):(l.map Int.toNat).Nodup:=by
 rw[List.Nodup,zj8];refine List.Pairwise.imp_of_mem ?_ hn;intro a b ha hb' hne e;have:=hb a ha;have:=hb b hb';omega
theorem kK {l:List Int}{n:Nat}(hn:l.Nodup)(hb:∀ x∈l,0≤x∧x<(n:Int)):l.length≤n:=by
 have h1:=nr hn fun x hx=>(hb x hx).1;have:=dF (l:=List.range n) h1 List.nodup_range fun x hx=>by
  obtain ⟨y,hy,rfl⟩:=ze9.1 hx;have:=hb y hy;exact List.mem_range.2 oM
 simpa using this
theorem rm {tl:List Cl}{c:Cl}(hok:AOk tl c)(h0:0<c.sides.length):gL tl c=cM tl c:=by
 obtain ⟨h64,hs,hq⟩:=hok;have start:Sd c.sides.length 0 0 [] (List.replicate c.sides.length 0) [] []:=⟨trivial,trivial,by simp,by simp,by simp,by simp,by simp,fun a b ha=>by omega⟩;obtain ⟨t,hd⟩:=start.outer c.sides (tl:=tl) oM oM hs hq;have e1:((c.sides.zipIdx 0).foldl (nh tl) ([],List.replicate c.sides.length 0))=l6 tl c.sides c.sides.length:=rfl;rw[e1] at hd;have hz:au RZ (l6 tl c.sides c.sides.length).1 (gv tl c.sides):=hd.z;have hm:au RM (l6 tl c.sides c.sides.length).1 (ex tl c.sides):=hd.m;unfold gL cM;rw[nO (p:=fun e=>decide (e.sum≠0)) (q:=fun p:Int×Int=>decide (p.2≠0)) (fun a b h=>by rw[h.2]) hz];rw[nO (p:=fun e=>decide (e.many≠2)) (q:=fun p:Int×List Int=>decide ((p.2.length:Int)≠2)) (fun a b h=>by rw[h.2.1]) hm];split
 ·rfl
 ·split
  ·rfl
  ·rename_i hno;have h2:∀ p∈ex tl c.sides,p.2.length=2:=fun p hp=>by
    have:=zj9.1 ((zj3 _).mp hno) p hp;simp at this;omega
   have hbm:∀ p∈ex tl c.sides,∀ x∈p.2,0≤x∧x<((0+c.sides.length:Nat):Int):=hd.bm;rw[Nat.zero_add] at hbm;have hcn:∀ a b:Nat,a<c.sides.length→b<c.sides.length→((l6 tl c.sides c.sides.length).2.getD a 0=(l6 tl c.sides c.sides.length).2.getD b 0↔Rch (jd (cX (ex tl c.sides))) a b):=fun a b ha hb=>by
    rw[rI h2];exact hd.cn a b oM oM
   have hln:=hd.len;have hmem:∀ x:Int,x∈iG (cX (ex tl c.sides))↔Rch (jd (cX (ex tl c.sides))) 0 x:=fun x=>uh (cnt:=m5 (cX (ex tl c.sides))) (fun v v' h=>iY h) (j2 _) (zk4 (zc3 _ _)) (by simp[jd]) x;have hnd:(iG (cX (ex tl c.sides))).Nodup:=iX _ _ _ _ (by simp);have hin:∀ x∈iG (cX (ex tl c.sides)),0≤x∧x<(c.sides.length:Int):=fun x hx=>by
    have hr:=(rI h2 0 x).1 ((hmem x).1 hx);have:∀ a b,Cn (dQ (ex tl c.sides)) a b→(0≤a∧a<(c.sides.length:Int))→(0≤b∧b<(c.sides.length:Int)):=by
     intro a b h;induction h with
     | refl _=>exact fun h=>h
     | step e _ ih =>
      intro _
      rcases e with e | e
      ·exact ih (gz hbm e).2
      ·exact ih (gz hbm e).1
    exact this 0 x hr oM
   generalize (l6 tl c.sides c.sides.length).2=part at *;generalize iG (cX (ex tl c.sides))=seen at *;by_cases hall:∀ a,a<c.sides.length→part.getD a 0=part.getD 0 0
   ·have hf:part.any (fun x=>decide (x≠part.getD 0 0))=false:=by
     rw[zj9];intro x hx;obtain ⟨i,hi,rfl⟩:=zc5 hx;have:=hall i oM;rw[zg8,gE hi] at this;simpa using this
    have hlen:seen.length=c.sides.length:=by
     refine Nat.le_antisymm (kK hnd hin) ?_;have h3:=dF (m:=List.range c.sides.length) (l:=seen.map Int.toNat) List.nodup_range (nr hnd fun x hx=>(hin x hx).1) fun i hi=>by
      have hi:=List.mem_range.1 hi;exact ze9.2 ⟨(i:Int),(hmem i).2 ((hcn 0 i h0 hi).1 (hall i hi).symm),by simp⟩
     simpa using h3
    rw[hf,hlen];simp
   ·have ht:part.any (fun x=>decide (x≠part.getD 0 0))=true:=by
     simp only[Classical.not_forall] at hall;obtain ⟨a,ha,hne⟩:=hall;rw[zj4];refine⟨part.getD a 0,?_,by simpa using hne⟩;rw[zg8,gE oM];exact gM _
    have hlen:(seen.length:Int)≠c.sides.length:=by
     simp only[Classical.not_forall] at hall;obtain ⟨a,ha,hne⟩:=hall;have hna:(a:Int) ∉ seen:=fun h=>hne ((hcn 0 a h0 ha).2 ((hmem a).1 h)).symm;have:=kK (l:=(a:Int)::seen) (n:=c.sides.length) (zj6.2 ⟨hna,hnd⟩) fun x hx=>by
      rcases ze8.1 hx with rfl | hx
      ·omega
      ·exact hin x hx
     simp at this;omega
    rw[ht,zf8 rfl,zf8 hlen]
theorem cR {tl:List Cl}:∀ {l:List Cl} {n:Int},gg tl l n=none→l.Pairwise (fun a b=>a.id<b.id)∧(∀ x∈l,n<x.id)∧∀ x∈l,cz tl x=0
 | [],_,_=>⟨List.Pairwise.nil,by simp,by simp⟩
 | x::r,n,h=>by
  unfold gg at h;split at h
  ·cases h
  ·rename_i hid;split at h
   ·cases h
   ·rename_i hf;obtain ⟨h1,h2,h3⟩:=cR h;refine⟨zj7.2 ⟨h2,h1⟩,fun y hy=>?_,fun y hy=>?_⟩
    ·rcases ze8.1 hy with rfl | hy
     ·omega
     ·have:=h2 y hy; omega
    ·rcases ze8.1 hy with rfl | hy
     ·exact zg7 hf
     ·exact h3 y hy
theorem fg (l:List Cl):aK l=aU l:=by
 unfold aK aU;split
 ·rfl
 ·cases h:gg (ae l) (aa l) 0 with
  | some p=>rfl
  | none =>
   obtain ⟨h1,_,h3⟩:=cR h;have ht:=aJ h1;have key:∀ m:List Cl,(∀ x∈m,x∈aa l)→l9 (aa l) m=m6 (ae l) m:=by
    intro m;induction m with
    | nil=>intro _; rfl
    | cons x r ih =>
     intro hm;have hx:=hm x (by simp);unfold l9 m6;rw[ih fun y hy=>hm y (by simp[hy])];by_cases hd:x.dim>1
     ·have hok:=yu h3 hx;have hn:0<x.sides.length:=by
       have hf:=h3 x hx;unfold cz at hf;split at hf
       ·cases hf
       ·split at hf
        ·cases hf
        ·rename_i hc;simp[aW] at hc;have:=hc.2 hd;omega
      rw[ht] at hok ⊢;rw[rm hok hn]
     ·simp[hd]
   rw[key _ fun x hx=>hx]
set_option maxRecDepth 10000
theorem kB {l:List Cl}(h:(aU l).2=0):gg (ae l) (aa l) 0=none:=by
 unfold aU at h;split at h
 ·simp at h
 ·cases h1:gg (ae l) (aa l) 0 with
  | none=>rfl
  | some p=>rw[h1] at h; exact absurd h (uj h1)
theorem Bv (a b:List Cl):bM a b=CR a b:=by
 have hb:cw a b=m8 a b:=by
  unfold cw m8;rw[fg,fg];by_cases h1:(aU a).2=0
  ·by_cases h2:(aU b).2=0
   ·rw[aJ (cR (kB h1)).1,aJ (cR (kB h2)).1,ay,ay]
   ·simp[h2]
  ·simp[h1]
 unfold bM CR;rw[hb,fg]
def cd (A B:Nat):Int:=((A * 1000+B:Nat):Int)
section
variable {A:List (List Int)}(hA:gp A)
include hA
end
theorem DB {tl:List Cl}{c:Cl}(h1:0≤c.dim∧c.dim≤8)(h2:aW c=false)(h3:∀ x∈c.sides,∃ d,aG tl x.cell=some d∧d.dim=c.dim - 1)(h4:c.sides.Pairwise fun a b=>a.cell<b.cell)(h5:∀ x∈c.sides,x.sign=1∨x.sign = -1)(h6:c.dim=1→mC c.sides=0):cz tl c=0:=by
 have e1:eX c=false:=by unfold eX; simp; omega
 have e3:(List.range c.sides.length).any (hX tl c)=false:=by
  rw[zj9];intro i hi;have hi:=List.mem_range.1 hi;obtain ⟨d,hd1,hd2⟩:=h3 _ (gM hi);unfold hX;rw[gE hi];show ¬ cj _ _ i c.sides[i]=true;unfold cj;rw[hd1];simp only[Option.isSome_some,Bool.not_true,Bool.false_or,Option.getD_some,hd2,ne_eq,not_true_eq_false,decide_false];by_cases hi0:i>0
  ·have hlt:=zc7.1 h4 (i - 1) i oM hi oM;rw[gE oM];simp;omega
  ·simp[hi0]
 have e4:c.sides.any bL=false:=by
  rw[zj9];intro x hx
  rcases h5 x hx with h | h <;> simp[bL,h]
 have e5:(decide (c.dim=1)&&decide (mC c.sides≠0))=false:=by
  by_cases hd:c.dim=1
  ·rw[h6 hd]; simp
  ·simp[hd]
 unfold cz;rw[e1,h2,e3,e4,e5];rfl
section
variable {A B:List (List Int)}(hA:gp A)(hB:gp B)
include hA hB
end
section
variable {A B:List (List Int)}(hA:gp A)(hB:gp B)
include hA hB
end
structure Few (a:List Cl)(A:List (List Int)):Prop where
 good:gp A
 cells:a=A.map (gS A)
 small:∀ s∈A,s.length≤3
 few:A.length≤14
def wM (tl:List Cl)(l:List aj)(r:Int):Int:=(l.flatMap fun x=>(aC tl x).map fun q=>if q.cell=r then x.sign * q.sign else 0).sum
def oD (tl:List Cl)(x:aj)(r:Int):Nat:=((aC tl x).filter fun q=>decide (q.cell=r)).length
def vL (tl:List Cl)(l:List aj)(r:Int):Nat:=(l.map fun x=>oD tl x r).sum
def s6 (tl:List Cl)(l:List aj)(a b:Int):Prop:=∃ x∈l,∃ y∈l,x.cell=a∧y.cell=b∧∃ r,0<oD tl x r∧0<oD tl y r
theorem Al (zl:List (Int×Int))(k x r:Int):gP (gh zl k x) r=gP zl r+if r=k then x else 0:=by
 induction zl with
 | nil =>
  simp only[gh,gP];split <;> simp
 | cons p q ih =>
  obtain ⟨a,z⟩:=p;simp only[gh];by_cases h:k=a
  ·subst h;simp only[if_true,gP];split <;> simp
  ·rw[zf7 h];simp only[gP,ih];by_cases hr:r=a
   ·subst hr;rw[zf8 rfl,zf8 rfl,zf7 fun e=>h e.symm];omega
   ·rw[zf7 hr,zf7 hr]
theorem pO (x:aj)(r:Int):∀ (l:List aj) (zl:List (Int×Int)),gP (l.foldl (kZ x) zl) r=gP zl r+(l.map fun q=>if q.cell=r then x.sign * q.sign else 0).sum
 | [],zl=>by simp
 | q::l,zl=>by
  simp only[zi5,zg2,List.sum_cons];rw[pO x r l,kZ,Al];by_cases h:r=q.cell
  ·rw[zf8 h,zf8 h.symm]; omega
  ·rw[zf7 h,zf7 fun e=>h e.symm]; omega
theorem si (tl:List Cl)(l:List aj)(r:Int):gP (gv tl l) r=wM tl l r:=by
 have:∀ (l:List aj) (zl:List (Int×Int)),gP (l.foldl (fun zl x=>(aC tl x).foldl (kZ x) zl) zl) r=gP zl r+wM tl l r:=by
  intro l;induction l with
  | nil=>intro zl; simp[wM]
  | cons x q ih =>
   intro zl;simp only[zi5];rw[ih,pO];simp only[wM,zh3,List.sum_append];omega
 have h:=this l [];simpa [gv,gP] using h
theorem AK (ml:List (Int×Int))(k x:Int):(gh ml k x).map Prod.fst=if ml.any (fun p=>decide (p.1=k)) then ml.map Prod.fst else ml.map Prod.fst++[k]:=by
 induction ml with
 | nil=>simp[gh]
 | cons p r ih =>
  obtain ⟨a,l⟩:=p;simp only[gh];by_cases h:k=a
  ·subst h;simp
  ·have h2:¬ a=k:=fun e=>h e.symm;rw[zf7 h];simp only[zg2,ih,List.any_cons,h2,decide_false,Bool.false_or];split <;> simp
theorem xZ {ml:List (Int×Int)}(h:(ml.map Prod.fst).Nodup)(k x:Int):((gh ml k x).map Prod.fst).Nodup:=by
 rw[AK];split
 ·exact h
 ·rename_i hk;rw[List.nodup_append];refine⟨h,by simp,fun a ha b hb e=>hk ?_⟩;simp at hb;subst hb;obtain ⟨p,hp,hpe⟩:=ze9.1 ha;rw[zj4];exact⟨p,hp,by simp[hpe,e]⟩
theorem uA (tl:List Cl)(l:List aj):((gv tl l).map Prod.fst).Nodup:=by
 have h1:∀ (x:aj) (q:List aj) (zl:List (Int×Int)),(zl.map Prod.fst).Nodup→((q.foldl (kZ x) zl).map Prod.fst).Nodup:=by
  intro x q;induction q with
  | nil=>intro zl h; exact h
  | cons r t ih=>intro zl h; exact ih _ (xZ h _ _)
 have h2:∀ (q:List aj) (zl:List (Int×Int)),(zl.map Prod.fst).Nodup→((q.foldl (fun zl x=>(aC tl x).foldl (kZ x) zl) zl).map Prod.fst).Nodup:=by
  intro q;induction q with
  | nil=>intro zl h; exact h
  | cons x t ih=>intro zl h; exact ih _ (h1 _ _ _ h)
 exact h2 _ _ (by simp)
theorem wn:∀ {zl:List (Int×Int)},(zl.map Prod.fst).Nodup→∀ p∈zl,gP zl p.1=p.2
 | [],_,p,hp=>by simp at hp
 | (a,z)::r,h,p,hp=>by
  simp only[zg2,zj6] at h
  rcases ze8.1 hp with rfl | hp
  ·simp[gP]
  ·simp only[gP];rw[zf7 fun e=>h.1 (ze9.2 ⟨p,hp,e⟩)];exact wn h.2 p hp
theorem sj:∀ {zl:List (Int×Int)} {k:Int},gP zl k≠0→∃ p∈zl,p.1=k∧p.2=gP zl k
 | [],_,h=>by simp[gP] at h
 | (a,z)::r,k,h=>by
  simp only[gP] at h ⊢;split
  ·rename_i e;exact⟨(a,z),by simp,e.symm,I⟩
  ·rename_i e;rw[zf7 e] at h;obtain ⟨p,hp,h1,h2⟩:=sj h;exact⟨p,by simp[hp],h1,h2⟩
theorem rU (tl:List Cl)(l:List aj):(gv tl l).any (fun p=>decide (p.2≠0))=false↔∀ r,wM tl l r=0:=by
 rw[zj9];constructor
 ·intro h r;rw[← si];refine zg7 fun hne=>?_;obtain ⟨p,hp,_,h2⟩:=sj hne;exact h p hp (by simpa [h2] using hne)
 ·intro h p hp;have:=wn (uA tl l) p hp;rw[si,h] at this;simp[← this]
theorem pP (i r:Int):∀ (l:List aj) (ml:List (Int×List Int)),eE (l.foldl (ez i) ml) r=eE ml r++List.replicate (l.filter fun q=>decide (q.cell=r)).length i
 | [],ml=>by simp
 | q::l,ml=>by
  simp only[zi5];rw[pP i r l,ez,sr,zi4];by_cases h:r=q.cell
  ·rw[zf8 h,zf8 (by simp[h])];simp[List.replicate_succ]
  ·rw[zf7 h,zf7 (by simp; exact fun e=>h e.symm)]
theorem wo (tl:List Cl)(l:List aj)(r:Int):eE (ex tl l) r=l.zipIdx.flatMap fun p=>List.replicate (oD tl p.1 r) (p.2:Int):=by
 have:∀ (q:List (aj×Nat)) (ml:List (Int×List Int)),eE (q.foldl (fun ml p=>(aC tl p.1).foldl (ez p.2) ml) ml) r=eE ml r++q.flatMap fun p=>List.replicate (oD tl p.1 r) (p.2:Int):=by
  intro q;induction q with
  | nil=>intro ml; simp
  | cons p t ih =>
   intro ml;simp only[zi5];rw[ih,pP];simp[oD]
 have h:=this l.zipIdx [];simpa [ex,eE] using h
theorem yW (tl:List Cl)(l:List aj)(r:Int):(eE (ex tl l) r).length=vL tl l r:=by
 rw[wo];have:∀ (l:List aj) (k:Nat),((l.zipIdx k).flatMap fun p=>List.replicate (oD tl p.1 r) (p.2:Int)).length=vL tl l r:=by
  intro l;induction l with
  | nil=>intro k; rfl
  | cons x q ih=>intro k; simp only[List.zipIdx_cons,zh3,ze3,List.length_replicate,ih,vL,zg2,List.sum_cons]
 exact this l 0
theorem na (tl:List Cl)(l:List aj)(r i:Int):i∈eE (ex tl l) r↔∃ k:Nat,i=k∧∃ x,l[k]?=some x∧0<oD tl x r:=by
 rw[wo,List.mem_flatMap];constructor
 ·rintro ⟨⟨x,k⟩,hp,hi⟩;obtain ⟨h1,rfl⟩:=List.mem_replicate.1 hi;refine⟨k,I,x,?_,Nat.pos_of_ne_zero h1⟩;simpa using List.mem_zipIdx_iff_getElem?.1 hp
 ·rintro ⟨k,rfl,x,hx,hh⟩;exact⟨(x,k),List.mem_zipIdx_iff_getElem?.2 (by simpa using hx),List.mem_replicate.2 ⟨Nat.ne_of_gt hh,I⟩⟩
theorem mU:∀ {ml:List (Int×List Int)},(ml.map Prod.fst).Nodup→∀ p∈ml,eE ml p.1=p.2
 | [],_,p,hp=>by simp at hp
 | (a,z)::r,h,p,hp=>by
  simp only[zg2,zj6] at h
  rcases ze8.1 hp with rfl | hp
  ·simp[eE]
  ·simp only[eE];rw[zf7 fun e=>h.1 (ze9.2 ⟨p,hp,e⟩)];exact mU h.2 p hp
theorem ny:∀ {ml:List (Int×List Int)} {k:Int},eE ml k≠[]→∃ p∈ml,p.1=k∧p.2=eE ml k
 | [],_,h=>by simp[eE] at h
 | (a,z)::r,k,h=>by
  simp only[eE] at h ⊢;split
  ·rename_i e;exact⟨(a,z),by simp,e.symm,I⟩
  ·rename_i e;rw[zf7 e] at h;obtain ⟨p,hp,h1,h2⟩:=ny h;exact⟨p,by simp[hp],h1,h2⟩
theorem zA:∀ {ml:List (Int×List Int)} {k x:Int},(∀ p∈ml,p.2≠[])→∀ p∈fo ml k x,p.2≠[]
 | [],_,_,_,p,hp=>by simp[fo] at hp; subst hp; simp
 | (a,l)::r,k,x,h,p,hp=>by
  unfold fo at hp;split at hp
  ·rcases ze8.1 hp with rfl | hp
   ·simp
   ·exact h p (by simp[hp])
  ·rcases ze8.1 hp with rfl | hp
   ·exact h _ (by simp)
   ·exact zA (fun q hq=>h q (by simp[hq])) p hp
theorem Ej (tl:List Cl)(l:List aj):∀ p∈ex tl l,p.2≠[]:=by
 have h1:∀ (i:Int) (q:List aj) (ml:List (Int×List Int)),(∀ p∈ml,p.2≠[])→∀ p∈q.foldl (ez i) ml,p.2≠[]:=by
  intro i q;induction q with
  | nil=>intro ml h; exact h
  | cons r t ih=>intro ml h; exact ih _ (zA h)
 have h2:∀ (q:List (aj×Nat)) (ml:List (Int×List Int)),(∀ p∈ml,p.2≠[])→∀ p∈q.foldl (fun ml p=>(aC tl p.1).foldl (ez p.2) ml) ml,p.2≠[]:=by
  intro q;induction q with
  | nil=>intro ml h; exact h
  | cons x t ih=>intro ml h; exact ih _ (h1 _ _ _ h)
 exact h2 _ _ (by simp)
theorem wi (tl:List Cl)(l:List aj):(ex tl l).any (fun p=>decide ((p.2.length:Int)≠2))=false↔∀ r,vL tl l r=0∨vL tl l r=2:=by
 rw[zj9];constructor
 ·intro h r;rw[← yW];by_cases hne:eE (ex tl l) r=[]
  ·left; rw[hne]; rfl
  ·right;obtain ⟨p,hp,_,h2⟩:=ny hne;have:=h p hp;rw[h2] at this;simp at this;omega
 ·intro h p hp;have h1:=mU (ju tl l) p hp;have h2:=h p.1;rw[← yW,h1] at h2;have h3:=List.length_pos_iff.2 (Ej tl l p hp);simp;omega
theorem Ek (tl:List Cl)(l:List aj):∀ p∈ex tl l,∀ x∈p.2,0≤x∧x<(l.length:Int):=fun p hp x hx=>by
 rw[← mU (ju tl l) p hp] at hx;obtain ⟨k,rfl,y,hy,_⟩:=(na tl l p.1 x).1 hx;have:=(zf3.1 hy).1;omega
theorem Bm {ml:List (Int×List Int)}{n:Nat}(h2:∀ p∈ml,p.2.length=2)(hb:∀ p∈ml,∀ x∈p.2,0≤x∧x<(n:Int))(h0:0<n):(iG (cX ml)).length=n↔∀ a:Nat,a<n→Cn (dQ ml) 0 a:=by
 have hmem:∀ x:Int,x∈iG (cX ml)↔Rch (jd (cX ml)) 0 x:=fun x=>uh (cnt:=m5 (cX ml)) (fun v v' h=>iY h) (j2 _) (zk4 (zc3 _ _)) (by simp[jd]) x;have hnd:(iG (cX ml)).Nodup:=iX _ _ _ _ (by simp);have hin:∀ x∈iG (cX ml),0≤x∧x<(n:Int):=fun x hx=>by
  have hr:=(rI h2 0 x).1 ((hmem x).1 hx);have:∀ a b,Cn (dQ ml) a b→(0≤a∧a<(n:Int))→(0≤b∧b<(n:Int)):=by
   intro a b h;induction h with
   | refl _=>exact fun h=>h
   | step e _ ih =>
    intro _
    rcases e with e | e
    ·exact ih (gz hb e).2
    ·exact ih (gz hb e).1
  exact this 0 x hr oM
 generalize iG (cX ml)=seen at *;constructor
 ·intro hl a ha;refine Classical.byContradiction fun hne=>?_;have hna:(a:Int) ∉ seen:=fun h=>hne ((rI h2 0 a).1 ((hmem a).1 h));have:=kK (l:=(a:Int)::seen) (n:=n) (zj6.2 ⟨hna,hnd⟩) fun x hx=>by
   rcases ze8.1 hx with rfl | hx
   ·omega
   ·exact hin x hx
  simp at this;omega
 ·intro hall;refine Nat.le_antisymm (kK hnd hin) ?_;have h3:=dF (m:=List.range n) (l:=seen.map Int.toNat) List.nodup_range (nr hnd fun x hx=>(hin x hx).1) fun i hi=>by
   have hi:=List.mem_range.1 hi;exact ze9.2 ⟨(i:Int),(hmem i).2 ((rI h2 0 i).2 (hall i hi)),by simp⟩
  simpa using h3
theorem Cn.map {E E':Int→Int→Prop}{f:Int→Int}(h:∀ a b,E a b→Cn E' (f a) (f b)){a b:Int}(hc:Cn E a b):Cn E' (f a) (f b):=by
 induction hc with
 | refl _=>exact .refl _
 | step e _ ih =>
  rcases e with e | e
  ·exact (h _ _ e).trans ih
  ·exact (h _ _ e).symm.trans ih
theorem qd {tl:List Cl}{c:Cl}(h0:0<c.sides.length)(hnd:(c.sides.map aj.cell).Nodup) :
  cM tl c=0↔(∀ r,wM tl c.sides r=0)∧(∀ r,vL tl c.sides r=0∨vL tl c.sides r=2)∧∀ x∈c.sides,∀ y∈c.sides,Cn (s6 tl c.sides) x.cell y.cell:=by
 unfold cM;generalize c.sides=l at *;by_cases hs:(gv tl l).any (fun p=>decide (p.2≠0))=false
 ·rw[zf7 (by rw[hs]; simp)];by_cases hm:(ex tl l).any (fun p=>decide ((p.2.length:Int)≠2))=false
  ·rw[zf7 (by rw[hm]; simp)];have h2:∀ p∈ex tl l,p.2.length=2:=fun p hp=>by
    have:=zj9.1 hm p hp;simp at this;omega
   have hsa:=Bm h2 (Ek tl l) h0;have hinj:∀ {i j:Nat} {x y:aj},l[i]?=some x→l[j]?=some y→x.cell=y.cell→i=j:=fun {i j x y} hi hj e=>by
    obtain ⟨i1,e1⟩:=zf3.1 hi;obtain ⟨i2,e2⟩:=zf3.1 hj;have key:∀ {a b:Nat} (ha:a<l.length) (hb:b<l.length),a<b→l[a].cell≠l[b].cell:=fun {a b} ha hb h=>by
     have:=zc7.1 hnd a b (by simpa using ha) (by simpa using hb) h;simpa using this
    rcases Nat.lt_trichotomy i j with h | h | h
    ·exact absurd (by rw[e1,e2]; exact e) (key i1 i2 h)
    ·exact h
    ·exact absurd (by rw[e1,e2]; exact e.symm) (key i2 i1 h)
   have hconn:(∀ a:Nat,a<l.length→Cn (dQ (ex tl l)) 0 a)↔∀ x∈l,∀ y∈l,Cn (s6 tl l) x.cell y.cell:=by
    constructor
    ·intro hall x hx y hy;obtain ⟨i,hi,rfl⟩:=zc5 hx;obtain ⟨j,hj,rfl⟩:=zc5 hy;have hc:=(hall i hi).symm.trans (hall j hj);have:=hc.map (f:=fun a=>(l.getD a.toNat ⟨0,0⟩).cell) (E':=s6 tl l) fun a b hl=>by
      obtain ⟨p,hp,h3,h4⟩:=hl;rw[← mU (ju tl l) p hp] at h3 h4;obtain ⟨k,rfl,x,hx,hh⟩:=(na tl l p.1 a).1 (List.mem_of_head? h3);obtain ⟨m,rfl,y,hy,hh2⟩:=(na tl l p.1 b).1 h4;refine .one ⟨x,zf9 hx,y,zf9 hy,?_,?_,p.1,hh,hh2⟩
      ·simp[zg8,hx]
      ·simp[zg8,hy]
     simpa [zg8,hi,hj] using this
    ·intro hall;have key:∀ a b,Cn (s6 tl l) a b→∀ (i:Nat) (x:aj),l[i]?=some x→x.cell=a→∀ (j:Nat) (y:aj),l[j]?=some y→y.cell=b→Cn (dQ (ex tl l)) (i:Int) (j:Int):=by
      have one:∀ {a b:Int},s6 tl l a b→∀ (i:Nat) (x:aj),l[i]?=some x→x.cell=a→∃ (j:Nat) (y:aj),l[j]?=some y∧y.cell=b∧Cn (dQ (ex tl l)) (i:Int) (j:Int):=by
       rintro a b ⟨x',hx',y,hy,rfl,rfl,r,h3,h4⟩ i x hi he;obtain ⟨i',hi',rfl⟩:=zc5 hx';obtain ⟨j,hj,rfl⟩:=zc5 hy;have hii:=hinj hi (gE hi') he;subst hii;refine⟨j,l[j],gE hj,I,?_⟩;have m1:=(na tl l r i).2 ⟨i,rfl,l[i],gE hi',h3⟩;have m2:=(na tl l r j).2 ⟨j,rfl,l[j],gE hj,h4⟩;obtain ⟨p,hp,_,hp2⟩:=ny (ml:=ex tl l) (k:=r) fun e=>by rw[e] at m1; simp at m1
       rw[← hp2] at m1 m2;cases hh:p.2 with
       | nil=>rw[hh] at m1; simp at m1
       | cons u q =>
        have hu:∀ v∈p.2,dQ (ex tl l) u v:=fun v hv=>⟨p,hp,by rw[hh]; rfl,hv⟩;exact (Cn.one (hu _ m1)).symm.trans (Cn.one (hu _ m2))
      intro a b hc;induction hc with
      | refl a =>
       intro i x hi he j y hj he2;have:=hinj hi hj (he.trans he2.symm);subst this;exact .refl _
      | step e _ ih =>
       intro i x hi he j y hj he2;have e':s6 tl l _ _:=e.elim (fun e=>e) fun ⟨x,hx,y,hy,h1,h2,r,h3,h4⟩=>⟨y,hy,x,hx,h2,h1,r,h4,h3⟩;obtain ⟨k,z,hk,hz,hc⟩:=one e' i x hi he;exact hc.trans (ih k z hk hz j y hj he2)
     intro a ha;exact key _ _ (hall _ (gM h0) _ (gM ha)) 0 _ (gE h0) I a _ (gE ha) I
   rw[← hconn,← hsa];constructor
   ·intro h;refine⟨(rU tl l).1 hs,(wi tl l).1 hm,?_⟩;refine zg7 fun hne=>?_;rw[zf8 oM] at h;exact absurd h dC
   ·rintro ⟨_,_,h⟩;rw[zf7 oM]
  ·have hm':(ex tl l).any (fun p=>decide ((p.2.length:Int)≠2))=true:=by simpa using hm
   rw[zf8 hm'];exact⟨fun h=>absurd h dC,fun h=>absurd ((wi tl l).2 h.2.1) hm⟩
 ·have hs':(gv tl l).any (fun p=>decide (p.2≠0))=true:=by simpa using hs
  rw[zf8 hs'];exact⟨fun h=>absurd h dC,fun h=>absurd ((rU tl l).2 h.1) hs⟩
structure Fm (tl:List Cl)(c:Cl):Prop where
 dim:0≤c.dim∧c.dim≤8
 cnt:aW c=false
 found:∀ x∈c.sides,∃ d,aG tl x.cell=some d∧d.dim=c.dim - 1
 asc:c.sides.Pairwise fun a b=>a.cell<b.cell
 sg:∀ x∈c.sides,x.sign=1∨x.sign = -1
 one:c.dim=1→mC c.sides=0
theorem Fm.ok {tl:List Cl}{c:Cl}(h:Fm tl c):cz tl c=0:=DB h.dim h.cnt h.found h.asc h.sg h.one
theorem Ez {l:List aj}(hs:l.Pairwise fun a b=>a.cell≤b.cell)(hd:∀ i x y,l[i]?=some x→l[i+1]?=some y→x.cell≠y.cell):l.Pairwise fun a b=>a.cell<b.cell:=by
 induction l with
 | nil=>exact List.Pairwise.nil
 | cons a r ih =>
  obtain ⟨h1,h2⟩:=zj7.1 hs;have hr:=ih h2 fun i x y hx hy=>hd (i+1) x y (by simpa using hx) (by simpa using hy);refine zj7.2 ⟨fun b hb=>?_,hr⟩;cases r with
  | nil=>simp at hb
  | cons z q =>
   have hz:a.cell<z.cell:=by
    have:=h1 z (by simp);have:=hd 0 a z rfl rfl;omega
   rcases ze8.1 hb with rfl | hb
   ·exact hz
   ·have:=(zj7.1 hr).1 b hb;omega
theorem EL {tl:List Cl}{c:Cl}(h:cz tl c=0)(hs:c.sides.Pairwise fun a b=>a.cell≤b.cell):Fm tl c:=by
 unfold cz at h;split at h
 ·cases h
 ·rename_i h1;split at h
  ·cases h
  ·rename_i h2;split at h
   ·cases h
   ·rename_i h3;split at h
    ·cases h
    ·rename_i h4;split at h
     ·cases h
     ·rename_i h5;have hbad:∀ i x,c.sides[i]?=some x→cj tl c i x=false:=fun i x hx=>by
       have hi:=(zf3.1 hx).1;have:=zj9.1 ((zj3 _).mp h3) i (List.mem_range.2 hi);unfold hX at this;rw[hx] at this;simpa using this
      refine⟨?_,by simpa using h2,fun x hx=>?_,Ez hs fun i x y hx hy e=>?_,fun x hx=>?_,fun hd=>?_⟩
      ·simp[eX] at h1; omega
      ·obtain ⟨i,hi,rfl⟩:=zc5 hx;have:=hbad i _ (gE hi);unfold cj at this;simp only[Bool.or_eq_false_iff,Bool.not_eq_false',decide_eq_false_iff_not,ne_eq,Decidable.not_not] at this;obtain ⟨⟨g1,g2⟩,_⟩:=this;obtain ⟨d,hd⟩:=zh6.1 g1;rw[hd] at g2;exact⟨d,hd,g2⟩
      ·have:=hbad (i+1) y hy;unfold cj at this;rw[show i+1 - 1=i by omega,hx] at this;simp[e] at this
      ·have:=zj9.1 ((zj3 _).mp h4) x hx;simp[bL] at this;by_cases h6:x.sign=1
       ·exact .inl h6
       ·exact .inr (this h6)
      ·simpa [hd] using h5
structure Rt (l:List Cl):Prop where
 few:l.length≤4000
 asc:l.Pairwise fun a b=>a.id<b.id
 pos:∀ x∈l,0<x.id
 form:∀ x∈l,Fm l x
 around:∀ x∈l,x.dim>1→cM l x=0
theorem Rt.canon {l:List Cl}(h:Rt l):aa l=l:=by
 unfold aa;rw[(dX (key:=Cl.id) (h.asc.imp fun h=>by omega) (aV.refl l)).symm];have:∀ c∈l,cN c=c:=fun c hc=>by
  unfold cN;rw[(dX (key:=aj.cell) ((h.form c hc).asc.imp fun h=>by omega) (aV.refl c.sides)).symm]
 rw[zc6 this];simp
theorem Rt.tab {l:List Cl}(h:Rt l):ae l=l:=by rw[aJ (by rw[h.canon]; exact h.asc),h.canon]
theorem Rt.check {l:List Cl}(h:Rt l):aU l=(0,0):=by
 refine wB h.few ?_ ?_ ?_ ?_ <;> rw[h.canon]
 ·exact h.pos
 ·exact h.asc
 ·exact fun x hx=>(h.form x hx).ok
 ·exact h.around
theorem Rt.find {l:List Cl}(h:Rt l){c:Cl}(hc:c∈l):aG l c.id=some c:=by
 refine qH ?_ hc;rw[List.Nodup,zj8];exact h.asc.imp fun h=>by omega
theorem jH {tl:List Cl}:∀ {l:List Cl},m6 tl l=none→∀ x∈l,x.dim>1→cM tl x=0
 | [],_,x,hx,_=>by simp at hx
 | y::r,h,x,hx,hd=>by
  unfold m6 at h;split at h
  ·cases h
  ·rename_i hn
   rcases ze8.1 hx with rfl | hx
   ·exact zg7 fun h=>hn ⟨hd,h⟩
   ·exact jH h x hx hd
theorem sH {tl:List Cl}:∀ {l:List Cl} {p:Int×Int},m6 tl l=some p→p.2≠0
 | [],_,h=>by cases h
 | y::r,p,h=>by
  unfold m6 at h;split at h
  ·rename_i hn; cases h; exact hn.2
  ·exact sH h
theorem vA (l:List Cl):∀ c∈aa l,c.sides.Pairwise fun a b=>a.cell≤b.cell:=fun c hc=>by
 obtain ⟨d,_,rfl⟩:=ze9.1 hc;exact eu d.sides
theorem gY {l:List Cl}(h:(aU l).2=0):Rt (aa l):=by
 have h1:=kB h;obtain ⟨h2,h3,h4⟩:=cR h1;have ht:=aJ h2;have h5:l.length≤4000:=AE h;refine⟨by rw[ay]; exact h5,h2,h3,fun x hx=>EL (by rw[← ht]; exact h4 x hx) (vA l x hx),?_⟩;have h6:m6 (ae l) (aa l)=none:=by
  unfold aU at h;rw[zf7 oM,h1] at h;cases hc:m6 (ae l) (aa l) with
  | none=>rfl
  | some p =>
   rw[hc] at h;exact absurd h (sH hc)
 rw[ht] at h6;exact jH h6
theorem nq {l m:List Int}(h:l.Perm m):l.sum=m.sum:=by
 induction h with
 | nil=>rfl
 | cons x _ ih=>simp[ih]
 | swap x y l=>simp; omega
 | trans _ _ ih1 ih2=>exact ih1.trans ih2
theorem zW {l m:List Nat}(h:l.Perm m):l.sum=m.sum:=by
 induction h with
 | nil=>rfl
 | cons x _ ih=>simp[ih]
 | swap x y l=>simp; omega
 | trans _ _ ih1 ih2=>exact ih1.trans ih2
theorem nZ {α:Type}{key:α→Int}(l:List α):(sortBy key l).Perm l:=by
 have hi:∀ (x:α) (l:List α),(ins key x l).Perm (x::l):=by
  intro x l;induction l with
  | nil=>exact .refl _
  | cons y r ih =>
   unfold ins;split
   ·exact .refl _
   ·exact (ih.cons y).trans (.swap x y r)
 induction l with
 | nil=>exact .refl _
 | cons x r ih=>exact (hi x _).trans (ih.cons x)
def inner (tl:List Cl)(x:aj)(r:Int):Int:=((aC tl x).map fun q=>if q.cell=r then x.sign * q.sign else 0).sum
theorem jr (tl:List Cl)(l:List aj)(r:Int):wM tl l r=(l.map fun x=>inner tl x r).sum:=by
 unfold wM;induction l with
 | nil=>rfl
 | cons x q ih=>simp only[zh3,List.sum_append,zg2,List.sum_cons,ih]; rfl
theorem zH {tl:List Cl}{l m:List aj}(h:l.Perm m)(r:Int):wM tl l r=wM tl m r:=by
 rw[jr,jr];exact nq (h.map _)
theorem Az {tl:List Cl}{l m:List aj}(h:l.Perm m)(r:Int):vL tl l r=vL tl m r:=zW (h.map _)
def sgn (b:Bool):Int:=if b then -1 else 1
theorem r9 (b:Bool){a:Int}(h:a=1∨a = -1):te b a=sgn b * a∧(te b a=1∨te b a = -1):=by
 rcases h with rfl | rfl <;> cases b <;> exact⟨by decide,by decide⟩
theorem iS {α:Type}{l:List α}{f g:α→Int}{K:Int}(h:∀ x∈l,f x=K * g x):(l.map f).sum=K * (l.map g).sum:=by
 induction l with
 | nil=>simp
 | cons x r ih =>
  simp only[zg2,List.sum_cons];rw[h x (by simp),ih fun y hy=>h y (by simp[hy]),Int.mul_add]
structure Nm (l:List Cl)(k:Int):Prop where
 inj:∀ a∈l,∀ b∈l,dZ a.id k=dZ b.id k→a=b
 pos:∀ a∈l,0<dZ a.id k
section
variable {l:List Cl}(h:Rt l){k:Int}(hn:Nm l k)(t:Int)
include h hn
omit hn in
theorem fq (c:Cl)(hc:c∈l){x:aj}(hx:x∈c.sides):∃ d∈l,d.id=x.cell∧aG l x.cell=some d∧d.dim=c.dim - 1:=by
 obtain ⟨d,hd,hdd⟩:=(h.form c hc).found x hx;obtain ⟨h1,h2⟩:=cV hd;exact⟨d,h1,h2,hd,hdd⟩
theorem Dh:((l.map (aN k t)).map Cl.id).Nodup:=by
 rw[zi3,List.Nodup,zj8];refine List.Pairwise.imp_of_mem ?_ h.asc;intro a b ha hb hlt e;have:=hn.inj a ha b hb e;subst this;omega
theorem r6:((aa (l.map (aN k t))).map Cl.id).Nodup:=by
 have h1:=Dh h hn t;have h2:((aa (l.map (aN k t))).map Cl.id).Perm ((l.map (aN k t)).map Cl.id):=by
  rw[pZ];exact (nZ _).map _
 exact h2.symm.nodup h1
omit h hn in
theorem Dg {c:Cl}(hc:c∈l):cN (aN k t c)∈aa (l.map (aN k t)) :=
 ze9.2 ⟨_,(dp _ _).2 (ze9.2 ⟨c,hc,rfl⟩),rfl⟩
omit h hn in
theorem nb {c':Cl}(hc:c'∈aa (l.map (aN k t))):∃ c∈l,c'=cN (aN k t c):=by
 obtain ⟨d,hd,rfl⟩:=ze9.1 hc;obtain ⟨c,hc',rfl⟩:=ze9.1 ((dp _ _).1 hd);exact⟨c,hc',I⟩
theorem mS {c:Cl}(hc:c∈l):aG (aa (l.map (aN k t))) (dZ c.id k)=some (cN (aN k t c)) :=
 qH (x:=cN (aN k t c)) (r6 h hn t) (Dg t hc)
omit h hn in
theorem ey (c:Cl):(cN (aN k t c)).sides.Perm (c.sides.map (bg k t c)):=nZ _
omit hn in
theorem mR {c:Cl}(hc:c∈l){x:aj}(hx:x∈c.sides):(bg k t c x).sign=sgn (gX t c x.cell) * (sgn (iC t c) * x.sign)∧((bg k t c x).sign=1∨(bg k t c x).sign = -1):=by
 have h1:=r9 (iC t c) ((h.form c hc).sg x hx);have h2:=r9 (gX t c x.cell) h1.2;exact⟨by rw[← h1.1]; exact h2.1,h2.2⟩
theorem wc {c:Cl}(hc:c∈l):Fm (aa (l.map (aN k t))) (cN (aN k t c)):=by
 have hf:=h.form c hc;have hlen:(cN (aN k t c)).sides.length=c.sides.length:=by rw[(ey t c).length_eq,ze4]
 have hmem:∀ x',x'∈(cN (aN k t c)).sides↔∃ x∈c.sides,bg k t c x=x':=fun x'=>by rw[(ey t c).mem_iff,ze9]
 refine⟨hf.dim,?_,fun x' hx'=>?_,?_,fun x' hx'=>?_,fun hd=>?_⟩
 ·have:=hf.cnt;unfold aW at this ⊢;rw[hlen];exact this
 ·obtain ⟨x,hx,rfl⟩:=(hmem x').1 hx';obtain ⟨d,hd,hid,_,hdd⟩:=fq h c hc hx;have:=mS h hn t hd;rw[hid] at this;exact⟨_,this,hdd⟩
 ·have h1:(cN (aN k t c)).sides.Pairwise fun a b=>a.cell≤b.cell:=eu _;have h2:((cN (aN k t c)).sides.map aj.cell).Nodup:=by
   refine ((ey t c).map aj.cell).symm.nodup ?_;rw[zi3,List.Nodup,zj8];refine List.Pairwise.imp_of_mem ?_ hf.asc;intro a b ha hb hlt e;obtain ⟨d,hd,hid,_⟩:=fq h c hc ha;obtain ⟨d',hd',hid',_⟩:=fq h c hc hb;have e:dZ a.cell k=dZ b.cell k:=e;rw[← hid,← hid'] at e;have:=hn.inj d hd d' hd' e;subst this;omega
  rw[List.Nodup,zj8] at h2;exact (h1.and h2).imp fun ⟨h3,h4⟩=>by omega
 ·obtain ⟨x,hx,rfl⟩:=(hmem x').1 hx';exact (mR h t hc hx).2
 ·have hd:c.dim=1:=hd;have h1:=hf.one hd;unfold mC at h1 ⊢;rw[nq ((ey t c).map aj.sign),zi3];rw[iS (g:=aj.sign) (K:=sgn (iC t c)) fun x hx=>?_,h1,Int.mul_zero];have h2:=(mR (k:=k) h t hc hx).1;have h3:gX t c x.cell=false:=by unfold gX; simp[hd]
  rw[h3] at h2;show (bg k t c x).sign=_;rw[h2];unfold sgn;simp
theorem qy {c:Cl}(hc:c∈l){x:aj}(hx:x∈c.sides){e:Cl}(he:e∈l):oD (aa (l.map (aN k t))) (bg k t c x) (dZ e.id k)=oD l x e.id:=by
 obtain ⟨d,hd,hid,hfd,_⟩:=fq h c hc hx;unfold oD aC;rw[hfd,show (bg k t c x).cell=dZ d.id k by rw[hid]; rfl,mS h hn t hd];show ((cN (aN k t d)).sides.filter _).length=_;rw[((ey t d).filter _).length_eq,List.filter_map,ze4];congr 1;refine List.filter_congr fun q hq=>?_;obtain ⟨u,hu,hui,_⟩:=fq h d hd hq;show decide (dZ q.cell k=dZ e.id k)=decide (q.cell=e.id);rw[decide_eq_decide,← hui];by_cases hue:u=e
 ·subst hue; simp
 ·have h1:¬ dZ u.id k=dZ e.id k:=fun e'=>hue (hn.inj u hu e he e');have h2:¬ u.id=e.id:=fun e'=>hue (by have a1:=h.find hu; have a2:=h.find he; rw[e',a2] at a1; injection a1 with a1; exact a1.symm);simp[h1,h2]
theorem n9 {c:Cl}(hc:c∈l){x:aj}(hx:x∈c.sides){r:Int}(hr:∀ e∈l,dZ e.id k≠r):oD (aa (l.map (aN k t))) (bg k t c x) r=0:=by
 obtain ⟨d,hd,hid,hfd,_⟩:=fq h c hc hx;unfold oD aC;rw[show (bg k t c x).cell=dZ d.id k by rw[hid]; rfl,mS h hn t hd];show ((cN (aN k t d)).sides.filter _).length=_;rw[((ey t d).filter _).length_eq,List.length_eq_zero_iff,List.filter_eq_nil_iff];intro q' hq';obtain ⟨q,hq,rfl⟩:=ze9.1 hq';obtain ⟨u,hu,hui,_⟩:=fq h d hd hq;have:=hr u hu;rw[hui] at this;show ¬ decide (dZ q.cell k=r)=true;simpa using this
theorem zT {c:Cl}(hc:c∈l)(hd1:c.dim>1){x:aj}(hx:x∈c.sides){e:Cl}(he:e∈l) :
  inner (aa (l.map (aN k t))) (bg k t c x) (dZ e.id k)=sgn (iC t c) * sgn ((decide (t>1)&&decide (c.dim - 1>1))&&decide (e.id.tmod t=1)) * inner l x e.id:=by
 obtain ⟨d,hd,hid,hfd,hdd⟩:=fq h c hc hx;have hsx:=(mR (k:=k) h t hc hx).1;unfold inner aC;rw[hfd,show (bg k t c x).cell=dZ d.id k by rw[hid]; rfl,mS h hn t hd];show ((cN (aN k t d)).sides.map _).sum=_;rw[nq ((ey t d).map _),zi3];show _=_ * (d.sides.map _).sum;refine iS fun q hq=>?_;obtain ⟨u,hu,hui,_⟩:=fq h d hd hq;have hsq:=(mR (k:=k) h t hd hq).1;simp only[Function.comp_def];show (if dZ q.cell k=dZ e.id k then (bg k t c x).sign * (bg k t d q).sign else 0)=_;by_cases hue:u=e
 ·subst hue;rw[hui,zf8 rfl,zf8 rfl,hsx,hsq];have h1:gX t c x.cell=iC t d:=by
   unfold gX iC;rw[hid];simp[hd1]
  have h2:gX t d q.cell=((decide (t>1)&&decide (c.dim - 1>1))&&decide (q.cell.tmod t=1)):=by
   unfold gX;rw[hdd]
  rw[h1,h2];generalize iC t d=b1;generalize iC t c=b2;generalize ((decide (t>1)&&decide (c.dim - 1>1))&&decide (q.cell.tmod t=1))=b3;cases b1 <;> cases b2 <;> cases b3 <;> simp[sgn,Int.neg_mul,Int.mul_neg]
 ·have h1:¬ dZ q.cell k=dZ e.id k:=fun e'=>hue (hn.inj u hu e he (by rw[hui]; exact e'));have h2:¬ q.cell=e.id:=fun e'=>hue (by have a1:=h.find hu; have a2:=h.find he; rw[hui,e',a2] at a1; injection a1 with a1; exact a1.symm);rw[zf7 h1,zf7 h2,Int.mul_zero]
omit h hn in
theorem BL {tl:List Cl}{x:aj}{r:Int}(h0:oD tl x r=0):inner tl x r=0:=by
 unfold oD at h0;rw[List.length_eq_zero_iff,List.filter_eq_nil_iff] at h0;unfold inner;have:((aC tl x).map fun q=>if q.cell=r then x.sign * q.sign else 0)=(aC tl x).map fun _=>(0:Int):=zc6 fun q hq=>zf7 (by simpa using h0 q hq);rw[this];generalize aC tl x=m;induction m with
 | nil=>rfl
 | cons a b ih=>simpa using ih
theorem xj {c:Cl}(hc:c∈l)(hd1:c.dim>1):cM (aa (l.map (aN k t))) (cN (aN k t c))=0:=by
 have hf:=h.form c hc;have hf':=wc h hn t hc;have hn0:0<c.sides.length:=by
  have:=hf.cnt;simp[aW] at this;have:=this.2 hd1;omega
 have hlen:(cN (aN k t c)).sides.length=c.sides.length:=by rw[(ey t c).length_eq,ze4]
 have nd:∀ {c:Cl},(c.sides.Pairwise fun a b=>a.cell<b.cell)→(c.sides.map aj.cell).Nodup:=fun h=>by
  rw[List.Nodup,zj8];exact h.imp fun h=>by omega
 obtain ⟨a1,a2,a3⟩:=(qd hn0 (nd hf.asc)).1 (h.around c hc hd1);refine (qd (by rw[hlen]; exact hn0) (nd hf'.asc)).2 ⟨fun r=>?_,fun r=>?_,fun x' hx' y' hy'=>?_⟩
 ·rw[zH (ey t c),jr,zi3];simp only[Function.comp_def];by_cases hr:∃ e∈l,dZ e.id k=r
  ·obtain ⟨e,he,rfl⟩:=hr;have h1:=a1 e.id;rw[jr] at h1;rw[iS (g:=fun x=>inner l x e.id) (K:=sgn (iC t c) * sgn ((decide (t>1)&&decide (c.dim - 1>1))&&decide (e.id.tmod t=1))) fun x hx=>zT h hn t hc hd1 hx he,h1,Int.mul_zero]
  ·have hr:∀ e∈l,dZ e.id k≠r:=fun e he e'=>hr ⟨e,he,e'⟩;rw[iS (g:=fun _=>(0:Int)) (K:=0) fun x hx=>by
    rw[BL (n9 h hn t hc hx hr)];rfl,Int.zero_mul]
 ·rw[Az (ey t c)];unfold vL;rw[zi3];simp only[Function.comp_def];by_cases hr:∃ e∈l,dZ e.id k=r
  ·obtain ⟨e,he,rfl⟩:=hr;have h1:=a2 e.id;unfold vL at h1;rw[zc6 (g:=fun x=>oD l x e.id) fun x hx=>qy h hn t hc hx he];exact h1
  ·have hr:∀ e∈l,dZ e.id k≠r:=fun e he e'=>hr ⟨e,he,e'⟩;left;rw[zc6 (g:=fun _=>0) fun x hx=>n9 h hn t hc hx hr];generalize c.sides=m;induction m with
   | nil=>rfl
   | cons a b ih=>simpa using ih
 ·have hmem:∀ x',x'∈(cN (aN k t c)).sides↔x'∈c.sides.map (bg k t c):=fun x'=>(ey t c).mem_iff;obtain ⟨x,hx,rfl⟩:=ze9.1 ((hmem x').1 hx');obtain ⟨y,hy,rfl⟩:=ze9.1 ((hmem y').1 hy');have hm:∀ x∈c.sides,bg k t c x∈(cN (aN k t c)).sides:=fun x hx=>(hmem _).2 (ze9.2 ⟨x,hx,rfl⟩);refine (a3 x hx y hy).map (f:=fun a=>dZ a k) fun a b=>?_;rintro ⟨u,hu,v,hv,rfl,rfl,r,h1,h2⟩;obtain ⟨du,hdu,hidu,hfu,_⟩:=fq h c hc hu;have hr:∃ e∈l,e.id=r:=by
   unfold oD aC at h1;rw[hfu] at h1;obtain ⟨q,hq⟩:=List.exists_mem_of_length_pos h1;obtain ⟨hq1,hq2⟩:=zh2.1 hq;obtain ⟨e,he,hei,_⟩:=fq h du hdu (x:=q) hq1;exact⟨e,he,by rw[hei]; simpa using hq2⟩
  obtain ⟨e,he,rfl⟩:=hr;exact .one ⟨_,hm u hu,_,hm v hv,I,I,dZ e.id k,by rw[qy h hn t hc hu he]; exact h1,by rw[qy h hn t hc hv he]; exact h2⟩
theorem zS:Rt (aa (l.map (aN k t))):=by
 refine⟨by rw[ay,ze4]; exact h.few,?_,fun x' hx'=>?_,fun x' hx'=>?_,fun x' hx' hd=>?_⟩
 ·have h1:=iy (l.map (aN k t));have h2:=r6 h hn t;rw[zj8] at h1;rw[List.Nodup,zj8] at h2;exact (h1.and h2).imp fun ⟨h3,h4⟩=>by omega
 ·obtain ⟨c,hc,rfl⟩:=nb t hx';exact hn.pos c hc
 ·obtain ⟨c,hc,rfl⟩:=nb t hx';exact wc h hn t hc
 ·obtain ⟨c,hc,rfl⟩:=nb t hx';exact xj h hn t hc hd
end
set_option maxRecDepth 100000
def Bd (l:List Cl):Prop:=∀ c∈l,c.id≤l.length
theorem yS (ls:List (List Int)):Rt (bT ls)∧Bd (bT ls):=by
 have h1:=gY (l:=bT ls) (by rw[n5]);have h2:aa (bT ls)=bT ls:=by
  unfold bT;cases aM [] ls with
  | none=>rfl
  | some all=>exact fI _
 rw[h2] at h1;refine⟨h1,?_⟩;unfold bT;cases h:aM [] ls with
 | none=>intro c hc; simp at hc
 | some all =>
  obtain ⟨hg,_⟩:=fY ls [] h gp.nil (by simp);dsimp only;rw[hg.cells];intro c hc;obtain ⟨s,hs,rfl⟩:=ze9.1 hc;have:=(zf3.1 (hg.get_lb hs)).1;show ixC all s≤_;unfold ixC;rw[ze4];omega
theorem Cz {l:List Int}{x:Int}(h:x∈l):lbI l x<l.length:=by
 unfold lbI;induction l with
 | nil=>simp at h
 | cons a r ih =>
  rw[zi4]
  rcases ze8.1 h with rfl | h
  ·have:=zc3 (fun y=>decide (y<x)) r;simp;omega
  ·have:=ih h;split
   ·simp only[ze6]; omega
   ·simp only[ze6]; omega
theorem uf (a b:List Cl):Rt (bM a b)∧Bd (bM a b)∧(bM a b).length≤a.length * b.length:=by
 rw[Bv];unfold CR;split
 ·exact⟨⟨by simp,List.Pairwise.nil,by simp,by simp,by simp⟩,fun c hc=>by simp at hc,by simp⟩
 ·rename_i hbad;split
  ·rename_i hok;have hlen:(aa (cY a b)).length=a.length * b.length:=by
    rw[ay];unfold cY;rw[ij,ay,ay]
   refine⟨gY hok,fun c hc=>?_,by rw[hlen]; exact lR _⟩;rw[hlen];obtain ⟨h1,h2,_⟩:=xm (by simpa using hbad);have ta:=aJ (cR (kB h1)).1;have tb:=aJ (cR (kB h2)).1;obtain ⟨d,hd,rfl⟩:=ze9.1 hc;have hd:=(dp _ _).1 hd;unfold cY at hd;rw[ta,tb] at hd;obtain ⟨x,hx,hd⟩:=List.mem_flatMap.1 hd;obtain ⟨y,hy,rfl⟩:=ze9.1 hd;have l1:=Cz (ze9.2 ⟨x,hx,rfl⟩:x.id∈(aa a).map Cl.id);have l2:=Cz (ze9.2 ⟨y,hy,rfl⟩:y.id∈(aa b).map Cl.id);rw[ze4,ay] at l1 l2;show a7 (aa a) (aa b) x.id y.id≤_;unfold a7;rw[ay];have h3:(lbI ((aa a).map Cl.id) x.id+1) * b.length≤a.length * b.length:=Nat.mul_le_mul_right _ l1;rw[Nat.succ_mul] at h3;have h4:((lbI ((aa a).map Cl.id) x.id * b.length:Nat):Int)=(lbI ((aa a).map Cl.id) x.id:Int) * (b.length:Int):=Int.natCast_mul _ _;rw[← h4];omega
  ·exact⟨⟨by simp,List.Pairwise.nil,by simp,by simp,by simp⟩,fun c hc=>by simp at hc,by simp⟩
theorem xq:∀ n,n<7→2≤n→(aU (td n)).2=0∧∀ c∈td n,c.id≤90:=by decide +kernel
theorem jQ:∀ (ls acc:List (List Int)) {all:List (List Int)},aM acc ls=some all→(∀ x∈ls,x.length≤2)→all.length≤acc.length+3 * ls.length
 | [],acc,all,h,_=>by cases h; simp
 | s::r,acc,all,h,hl=>by
  have hs:=hl s (by simp);have h3:(cg s).length≤s.length:=by
   unfold cg;exact zk3 (ie _ _) (by rw[ff]; exact lR _)
  simp only[ze6];unfold aM at h;split at h
  ·have:=jQ r acc h fun x hx=>hl x (by simp[hx]);omega
  ·split at h
   ·cases h
   ·have h1:=jQ r _ h fun x hx=>hl x (by simp[hx]);have h2:(dY acc (cg s)).length≤acc.length+3:=by
     unfold dY;refine zk3 (ie _ _) ?_;rw[(gD _).length_eq,ze3];have:2 ^ (cg s).length≤2 ^ 2:=Nat.pow_le_pow_right dC oM;simp[bD];omega
    omega
theorem pX:(bT [[0,1],[1,2],[0,2]]).length≤9:=by
 unfold bT;cases h:aM [] [[0,1],[1,2],[0,2]] with
 | none=>simp
 | some all =>
  have:=jQ _ _ h dC;dsimp only;rw[ay,bC];simpa using this
theorem yT (m:Int)(ls:List (List Int))(y:Int):Rt (o8 (nm m ls y))∧∀ c∈o8 (nm m ls y),c.id≤90:=by
 have key:∀ l:List Cl,Rt l→(l.length≤45→∀ c∈l,c.id≤90)→Rt (o8 l)∧∀ c∈o8 l,c.id≤90:=by
  intro l h1 h2;unfold o8;split
  ·have h3:=uf (bT [[0,1],[1,2],[0,2]]) (bT [[0,1],[1,2],[0,2]]);refine⟨h3.1,fun c hc=>?_⟩;have h4:=h3.2.1 c hc;have h5:=h3.2.2;have h6:oT.length≤9 * 9:=zk3 h5 (Nat.mul_le_mul pX pX);have h7:c.id≤oT.length:=h4;omega
  ·exact⟨h1,h2 oM⟩
 have hS:∀ ls,Rt (o8 (bT ls))∧∀ c∈o8 (bT ls),c.id≤90:=fun ls=>key _ (yS ls).1 fun hl c hc=>by have:=(yS ls).2 c hc; omega
 have hP:∀ a b,Rt (o8 (bM a b))∧∀ c∈o8 (bM a b),c.id≤90:=fun a b=>key _ (uf a b).1 fun hl c hc=>by have:=(uf a b).2.1 c hc; omega
 have h5:=aB y 5 dC dC;unfold nm
 repeat' split
 ·exact hS _
 ·exact hP _ _
 ·have h6:=xq (2+aI y 5).toNat oM oM;have h7:=gY h6.1;rw[show aa (td (2+aI y 5).toNat)=td (2+aI y 5).toNat from fI _] at h7;exact key _ h7 fun _=>h6.2
 ·exact hP _ _
 ·exact hS _
 ·exact hS _
theorem Dt:∀ k∈[1,3,5],∀ a,a<91→∀ b,b<91→dZ (a:Nat) k=dZ (b:Nat) k→a=b:=by decide +kernel
theorem Ds:∀ k∈[1,3,5],∀ a,a<91→0<a→0<dZ (a:Nat) k:=by decide +kernel
theorem pJ (kd:Int)(ls:List (List Int))(y:Int):Rt (jA kd ls y):=by
 obtain ⟨h1,h2⟩:=yT (aI kd 8) ls y;have hk:ya y∈[(1:Int),3,5]:=by
  have:=aB (IntKind.i64.wrap (y.tdiv 7)) 3 dC dC;unfold ya;generalize aI (IntKind.i64.wrap (y.tdiv 7)) 3=q at *
  rcases (by omega:q=0∨q=1∨q=2) with rfl | rfl | rfl <;> decide
 refine zS h1 ⟨fun a ha b hb e=>?_,fun a ha=>?_⟩ _
 ·have p1:=h1.pos a ha;have p2:=h1.pos b hb;have q1:=h2 a ha;have q2:=h2 b hb;have e1:((a.id.toNat:Nat):Int)=a.id:=Int.toNat_of_nonneg oM;have e2:((b.id.toNat:Nat):Int)=b.id:=Int.toNat_of_nonneg oM;have:=Dt _ hk a.id.toNat oM b.id.toNat oM (by rw[e1,e2]; exact e);have hid:a.id=b.id:=oM;have f1:=h1.find ha;have f2:=h1.find hb;rw[hid,f2] at f1;injection f1 with f1
  exact f1.symm
 ·have p1:=h1.pos a ha;have q1:=h2 a ha;have e1:((a.id.toNat:Nat):Int)=a.id:=Int.toNat_of_nonneg oM;have:=Ds _ hk a.id.toNat oM oM;rw[e1] at this;exact this
theorem Ei:∀ k∈[1,3,5],∀ a,a<91→dZ (a:Nat) k≤300:=by decide +kernel
theorem BG (kd:Int)(ls:List (List Int))(y:Int):∀ c∈jA kd ls y,dJ c.id:=by
 intro c hc;have h0:=(pJ kd ls y).pos c hc;obtain ⟨h1,h2⟩:=yT (aI kd 8) ls y;have hk:ya y∈[(1:Int),3,5]:=by
  have:=aB (IntKind.i64.wrap (y.tdiv 7)) 3 dC dC;unfold ya;generalize aI (IntKind.i64.wrap (y.tdiv 7)) 3=q at *
  rcases (by omega:q=0∨q=1∨q=2) with rfl | rfl | rfl <;> decide
 obtain ⟨a,ha,rfl⟩:=nb (CK y) hc;have p1:=h1.pos a ha;have q1:=h2 a ha;have e1:((a.id.toNat:Nat):Int)=a.id:=Int.toNat_of_nonneg oM;have:=Ei _ hk a.id.toNat oM;rw[e1] at this;have h3:(cN (aN (ya y) (CK y) a)).id=dZ a.id (ya y):=rfl;rw[h3] at h0 ⊢;unfold dJ;omega
def part (l:List Cl)(p:Int→Bool):List Cl:=l.filter fun c=>p c.id
def un (l:List Cl)(p:Int→Bool):Prop:=∀ c∈l,p c.id=true→∀ x∈c.sides,p x.cell=true
theorem vx {l:List Cl}(h:Rt l)(ids:List Int):un l fun k=>(cQ l ids).contains k:=by
 intro c hc hp x hx;have hm:c.id∈cQ l ids:=by simpa using hp
 obtain ⟨id,hid,hr⟩:=(kL l ids c.id).1 hm;obtain ⟨d,hd,_⟩:=(h.form c hc).found x hx;have ha:gU l c.id=some (c.sides.map aj.cell):=by unfold gU; rw[h.find hc]; rfl
 have:x.cell∈cQ l ids:=(kL l ids x.cell).2 ⟨id,hid,hr.snoc ha (ze9.2 ⟨x,hx,rfl⟩) (by unfold gU; rw[hd]; simp)⟩;simpa using this
section
variable {l:List Cl}(h:Rt l){p q:Int→Bool}(hp:un l p)(hq:un l q)
include h hp hq
end
set_option maxHeartbeats 1000000
end Go.Proofs.YtcfkpajlakidbaaGreatDoor
namespace Go.Sy
open Go
structure Md where
 ro:Option Nat
 ds:List Deferred
def wf (ro:Option Nat):Fence:={ fn:=fun _=>True,depth:=none,alive:=false,round:=ro }
def mG (a:Act):Act:={ a with defers:=[] }
theorem nK (a:Act):(mG a).eval=a.eval:=by funext x; cases x <;> rfl
theorem B9 (a:Act)(d:Option Tmp)(v:Value):mG (a.put d v)=(mG a).put d v:=by cases d <;> rfl
theorem py (a:Act)(d:Option Tmp)(v:Value):(a.put d v).defers=a.defers:=by cases d <;> rfl
def Okd (ds:List Deferred)(N:Nat)(f:Fr)(a:Act):Prop:=a.defers=ds∧Ok N f (mG a)
section
variable {P:Program}{M:Md}{N:Nat}{E:World}{Q:Exit→Act→World→Prop}{f f':Fr}{g g':PH}{s s':Own}{ops:Array Oper}
theorem Okd.put {ds:List Deferred}{a:Act}(h:Okd ds N f a){d:Nat}(hlt:d<N)(v:Value):Okd ds N ((d,v)::f) (a.put (some d) v):=⟨h.1,by rw[B9]; exact h.2.put hlt v⟩
theorem Okd.sub {ds:List Deferred}{a:Act}(h:Okd ds N f a)(hs:Sub f' f):Okd ds N f' a:=⟨h.1,h.2.sub hs⟩
theorem Okd.ev {ds:List Deferred}{a:Act}(h:Okd ds N f a){x:Operand}{v:Value}(hx:Sy.ev f x=some v):a.eval x=v:=by rw[← nK]; exact h.2.ev hx
def XC (P:Program)(M:Md)(N:Nat)(E:World)(c:Code)(Q:Exit→Act→World→Prop)(f:Fr)(g:PH)(s:Own):Prop:=∀ a w,Okd M.ds N f a→At E g s w→c.wpIn (wf M.ro) 0 P Q a w
def XT (M:Md)(N:Nat)(E:World)(Q:Exit→Act→World→Prop)(e:Exit)(f:Fr)(g:PH)(s:Own):Prop:=∀ a w,Okd M.ds N f a→At E g s w→Q e a w
def XL (P:Program)(M:Md)(N:Nat)(E:World)(ops:Array Oper)(Q:Exit→Act→World→Prop)(l:List Oper)(f:Fr)(g:PH)(s:Own):Prop:=∀ a w,Okd M.ds N f a→At E g s w→wpListIn (wf M.ro) 0 P ops Q l a w
def XO (P:Program)(M:Md)(N:Nat)(E:World)(o:Oper)(f:Fr)(g:PH)(s:Own)(K:Value→PH→Own→Prop):Prop :=
 ∀ a w,Okd M.ds N f a→At E g s w→∀ (Q:Exit→Act→World→Prop) (next:Act→World→Prop),
  (∀ v g' s' w',K v g' s'→At E g' s' w'→next (a.put o.dst v) w')→o.wpIn (wf M.ro) 0 P a w next Q
theorem XC.to {c:Code}(h:∀ w,At E g s w→At E g' s' w)(hc:XC P M N E c Q f g' s'):XC P M N E c Q f g s:=fun a w ha hw=>hc a w ha (h w hw)
theorem XT.drop {e:Exit}(hs:s'.Sublist s)(h:XT M N E Q e f g s'):XT M N E Q e f g s:=fun a w ha hw=>h a w ha (hw.sublist hs)
theorem XL.to {l:List Oper}(h:∀ w,At E g s w→At E g' s' w)(hc:XL P M N E ops Q l f g' s'):XL P M N E ops Q l f g s:=fun a w ha hw=>hc a w ha (h w hw)
theorem XC.facts {c:Code}(h:(∃ w,At E g s w)→XC P M N E c Q f g s):XC P M N E c Q f g s:=fun a w ha hw=>h ⟨w,hw⟩ a w ha hw
theorem XL.facts {l:List Oper}(h:(∃ w,At E g s w)→XL P M N E ops Q l f g s):XL P M N E ops Q l f g s:=fun a w ha hw=>h ⟨w,hw⟩ a w ha hw
theorem XT.facts {e:Exit}(h:(∃ w,At E g s w)→XT M N E Q e f g s):XT M N E Q e f g s:=fun a w ha hw=>h ⟨w,hw⟩ a w ha hw
theorem XC.skip (h:XT M N E Q .normal f g s):XC P M N E .skip Q f g s:=fun a w ha hw=>wpIn_skip (h a w ha hw)
theorem XC.ret (h:XT M N E Q .ret f g s):XC P M N E .ret Q f g s:=fun a w ha hw=>wpIn_ret (h a w ha hw)
theorem XC.exit {id:Nat}(h:XT M N E Q (.exit id) f g s):XC P M N E (.exit id) Q f g s:=fun a w ha hw=>wpIn_exit (h a w ha hw)
theorem XC.seq {x y:Code}(h:XC P M N E x (Exit.then (y.wpIn (wf M.ro) 0 P Q) Q) f g s):XC P M N E (.seq x y) Q f g s:=fun a w ha hw=>wpIn_seq (h a w ha hw)
theorem XC.block {id:Nat}{c:Code}(h:XC P M N E c (Exit.inBlock id Q) f g s):XC P M N E (.block id c) Q f g s:=fun a w ha hw=>wpIn_block (h a w ha hw)
theorem XC.cond {c:Operand}{x y:Code}{t:Bool}(hc:ev f c=some (.bool t))(h:XC P M N E (if t then x else y) Q f g s):XC P M N E (.cond c x y) Q f g s :=
 fun a w ha hw=>wpIn_cond (ha.ev hc) (h a w ha hw)
theorem XC.condT {c:Operand}{x y:Code}(hc:ev f c=some (.bool true))(h:XC P M N E x Q f g s):XC P M N E (.cond c x y) Q f g s:=XC.cond hc h
theorem XC.condF {c:Operand}{x y:Code}(hc:ev f c=some (.bool false))(h:XC P M N E y Q f g s):XC P M N E (.cond c x y) Q f g s:=XC.cond hc h
theorem XC.ifB {c:Operand}{x y:Code}{t:Bool}(hc:ev f c=some (.bool t))(h1:t=true→XC P M N E x Q f g s)(h2:t=false→XC P M N E y Q f g s) :
  XC P M N E (.cond c x y) Q f g s:=by
 cases t
 ·exact XC.condF hc (h2 I)
 ·exact XC.condT hc (h1 I)
theorem XC.ifP {c:Operand}{x y:Code}{p:Prop}[Decidable p](hc:ev f c=some (.bool (decide p)))(h1:p→XC P M N E x Q f g s)(h2:¬ p→XC P M N E y Q f g s) :
  XC P M N E (.cond c x y) Q f g s :=
 XC.ifB hc (fun h=>h1 (zg1 h)) (fun h=>h2 (of_decide_eq_false h))
theorem XT.thenN {c:Code}(h:XC P M N E c Q f g s):XT M N E (Exit.then (c.wpIn (wf M.ro) 0 P Q) Q) .normal f g s:=h
theorem XT.thenX {K:Act→World→Prop}{id:Nat}(h:XT M N E Q (.exit id) f g s):XT M N E (Exit.then K Q) (.exit id) f g s:=h
theorem XT.blockN {id:Nat}(h:XT M N E Q .normal f g s):XT M N E (Exit.inBlock id Q) .normal f g s:=h
theorem XT.blockX {id:Nat}(h:XT M N E Q .normal f g s):XT M N E (Exit.inBlock id Q) (.exit id) f g s:=fun a w ha hw=>by simpa [Exit.inBlock] using h a w ha hw
def CI {ι:Type}(ds:List Deferred)(N:Nat)(E:World)(F:ι→Fr)(G:ι→PH)(S:ι→Own)(J:ι→Prop)(μ:ι→Nat)(i:ι)(a:Act)(w:World):Prop :=
 ∃ j,Okd ds N (F j) a∧At E (G j) (S j) w∧J j∧μ j<μ i
theorem XT.again {ι:Type}{F:ι→Fr}{G:ι→PH}{S:ι→Own}{J:ι→Prop}{μ:ι→Nat}{i:ι}(j:ι)(hf:Sub (F j) f)(hg:G j=g)(hs:S j=s)(hJ:J j)(hμ:μ j<μ i) :
  XT M N E (Exit.then (CI M.ds N E F G S J μ i) Q) .normal f g s:=fun _ _ ha hw=>⟨j,ha.sub hf,by rw[hg,hs]; exact hw,hJ,hμ⟩
theorem XC.loop {ι:Type}{c:Code}(F:ι→Fr)(G:ι→PH)(S:ι→Own)(J:ι→Prop)(μ:ι→Nat)(i:ι)(hf:Sub (F i) f)(hg:G i=g)(hs:S i=s)(h0:J i)
  (round:∀ i,J i→XC P M N E c (Exit.then (CI M.ds N E F G S J μ i) Q) (F i) (G i) (S i)):XC P M N E (.loop c) Q f g s:=by
 intro a w ha hw;have key:∀ n,∀ (i:ι) (a:Act) (w:World),μ i=n→Okd M.ds N (F i) a→At E (G i) (S i) w→J i→∀ (b:Frame) (k:List Item) (cs:List Frame),b.roundOf=(wf M.ro).round→(wf M.ro).fn b.fn→(wf M.ro).room (cs.length+1+0) →
   ∃ e a' w',Q e a' w'∧ArrivesIn (Machine.fenced P (wf M.ro)) P (lone (b.atR a (.code c :: .inLoop c::k)) cs w) b k cs e a' w':=by
  intro n;induction n using Nat.strongRecOn with
  | _ n ih =>
   intro i a w hn ha hI hJ b k cs hro hb hr;obtain ⟨e,a₁,w₁,hq,harr⟩:=round i hJ a w ha hI b (.inLoop c::k) cs hro hb hr;cases e with
   | normal =>
    obtain ⟨j,hok,hI₁,hJ₁,hlt⟩:=hq;obtain ⟨e₂,a₂,w₂,hq₂,harr₂⟩:=ih (μ j) (hn ▸ hlt) j a₁ w₁ rfl hok hI₁ hJ₁ b k cs hro hb hr;exact⟨e₂,a₂,w₂,hq₂,.of_steps (StepsIn.trans harr (.one (fenced_calm hb hr I) stepR_inLoop)) harr₂⟩
   | exit id=>exact⟨_,a₁,w₁,hq,.pass (x:=.inLoop c) rfl (fun _ _=>.inl (by simp)) harr⟩
   | goto l=>exact⟨_,a₁,w₁,hq,.pass (x:=.inLoop c) rfl (fun _ _=>.inl (by simp)) harr⟩
   | ret=>exact⟨_,a₁,w₁,hq,.pass (x:=.inLoop c) rfl (fun _ _=>.inl (by simp)) harr⟩
   | panic ch=>exact⟨_,a₁,w₁,hq,.pass (x:=.inLoop c) rfl (fun _ _=>.inl (by simp)) harr⟩
   | outgrown=>exact⟨_,a₁,w₁,hq,.pass (x:=.inLoop c) rfl (fun _ _=>.inl (by simp)) harr⟩
 intro b k cs hro hb hr;obtain ⟨e,a',w',hq,harr⟩:=key _ i a w rfl (ha.sub hf) (by rw[hg,hs]; exact hw) h0 b k cs hro hb hr;exact⟨e,a',w',hq,.of_steps (.one (fenced_calm hb hr I) stepR_loop) harr⟩
theorem XC.region {id:Nat}(h:XL P M N E ops Q ops.toList f g s):XC P M N E (.region id ops false) Q f g s:=fun a w ha hw=>wpIn_region_list (h a w ha hw)
theorem XL.nil (h:XT M N E Q .normal f g s):XL P M N E ops Q [] f g s:=fun a w ha hw=>h a w ha hw
theorem SO.xo {o:Oper}{K:Value→PH→Own→Prop}(hno:∀ c,o.op ≠ .defer c)(h:SO P N E o f g s K):XO P M N E o f g s K:=by
 intro a w ha hw Q next hn;refine⟨fun _ _=>trivial,?_⟩;rw[Oper.semAt_eq _ _ _ hno];have h1:=h (mG a) w ha.2 hw (fun _ _ _=>False) (fun a' w'=>a'.defers=[]∧∃ v g' s',a'=(mG a).put o.dst v∧K v g' s'∧At E g' s' w') (fun v g' s' w' hK hw'=>⟨py _ _ _,v,g',s',rfl,hK,hw'⟩);unfold Oper.wp at h1;rw[nK] at h1;have key:∀ v w',(((mG a).put o.dst v).defers=[]∧∃ v' g' s',(mG a).put o.dst v=(mG a).put o.dst v'∧K v' g' s'∧At E g' s' w')→next (a.put o.dst v) w':=by
  rintro v w' ⟨_,v',g',s',he,hK,hw'⟩;have:a.put o.dst v=a.put o.dst v':=by
   cases hd:o.dst with
   | none=>rfl
   | some d =>
    rw[hd] at he;have h2:=zd9 Act.tmps he;cases a;simp only[Act.put,mG] at h2 ⊢;rw[h2]
  rw[this];exact hn v' g' s' w' hK hw'
 generalize (execOp a.eval o).run P w=r at h1;cases r with
 | ok n w' =>
  cases n <;> simp only[Oper.upon] at h1 <;> first | exact h1.elim | skip
  ·exact key _ _ h1
  ·exact key _ _ h1
  ·rename_i f' args;exact⟨fun h=>(by cases h),(CallsIn.more (n:=0) ((callsIn_wide (n:=0)).2 (Calls.mono h1 (fun e w'' he=>by cases e with | returned v=>exact key _ _ he | panicked c=>exact he.elim | outgrown=>obtain ⟨_,_,h2⟩:=he; exact h2.elim))) (zf4 _))⟩
  ·exact absurd h1.1 (by rw[py]; simp)
  ·exact⟨fun h=>(by cases h),fun c cs _=>let ⟨v,w'',r,st⟩:=h1 c cs; ⟨v,w'',key _ _ r,stepsIn_wide.2 st⟩⟩
 | halt x w'=>cases x <;> simp only[Oper.upon] at h1 <;> exact h1.elim
theorem XL.step {o:Oper}{l:List Oper}{K:Value→PH→Own→Prop}(hg:Gd N ops f o true)(ho:XO P M N E o f g s K)
  (h:∀ v g' s' a,K v g' s'→Okd M.ds N f a→∃ f',Okd M.ds N f' (a.put o.dst v)∧XL P M N E ops Q l f' g' s'):XL P M N E ops Q (o::l) f g s:=by
 intro a w ha hw;unfold wpListIn;have hwt:Region.wanted o (yielded ops a.tmps)=true:=hg (mG a) ha.2;rw[zf8 hwt];refine ho a w ha hw Q _ fun v g' s' w' hK hw'=>?_;obtain ⟨f',hf',hn⟩:=h v g' s' a hK ha;exact hn _ _ hf' hw'
theorem XL.x {d:Nat}{op:Op}{ty:TypeId}{pos:String}{af:Array Edge}{l:List Oper}{K:Value→PH→Own→Prop}(ho:XO P M N E ⟨some d,op,ty,pos,af,none⟩ f g s K)(hd:d<N)
  (h:∀ v g' s',K v g' s'→XL P M N E ops Q l ((d,v)::f) g' s'):XL P M N E ops Q (⟨some d,op,ty,pos,af,none⟩::l) f g s :=
 XL.step (Gd.none rfl) ho fun v g' s' _ hK ha=>⟨_,ha.put hd v,h v g' s' hK⟩
theorem XL.go {d:Nat}{op:Op}{ty:TypeId}{pos:String}{af:Array Edge}{gd:Option (Nat×Bool)}{l:List Oper}{K:Value→PH→Own→Prop}(hg:Gd N ops f ⟨some d,op,ty,pos,af,gd⟩ true)(ho:SO P N E ⟨some d,op,ty,pos,af,gd⟩ f g s K)(hd:d<N)
  (h:∀ v g' s',K v g' s'→XL P M N E ops Q l ((d,v)::f) g' s') (hno:∀ c,op ≠ .defer c:=by intro _ h; cases h):XL P M N E ops Q (⟨some d,op,ty,pos,af,gd⟩::l) f g s :=
 XL.step hg (ho.xo hno) fun v g' s' _ hK ha=>⟨_,ha.put hd v,h v g' s' hK⟩
theorem XL.o {d:Nat}{op:Op}{ty:TypeId}{pos:String}{af:Array Edge}{l:List Oper}{K:Value→PH→Own→Prop}(ho:SO P N E ⟨some d,op,ty,pos,af,none⟩ f g s K)(hd:d<N)
  (h:∀ v g' s',K v g' s'→XL P M N E ops Q l ((d,v)::f) g' s') (hno:∀ c,op ≠ .defer c:=by intro _ h; cases h):XL P M N E ops Q (⟨some d,op,ty,pos,af,none⟩::l) f g s :=
 XL.go (Gd.none rfl) ho hd h hno
theorem XL.on {op:Op}{ty:TypeId}{pos:String}{af:Array Edge}{l:List Oper}{K:Value→PH→Own→Prop}(ho:SO P N E ⟨none,op,ty,pos,af,none⟩ f g s K)
  (h:∀ v g' s',K v g' s'→XL P M N E ops Q l f g' s') (hno:∀ c,op ≠ .defer c:=by intro _ h; cases h):XL P M N E ops Q (⟨none,op,ty,pos,af,none⟩::l) f g s :=
 XL.step (Gd.none rfl) (ho.xo hno) fun v g' s' _ hK ha=>⟨f,ha,h v g' s' hK⟩
theorem XL.gq {d:Nat}{op:Op}{ty:TypeId}{pos:String}{af:Array Edge}{gd:Option (Nat×Bool)}{l:List Oper}{v:Value}(hg:Gd N ops f ⟨some d,op,ty,pos,af,gd⟩ true)(hq:SQ P N E ⟨some d,op,ty,pos,af,gd⟩ f g s v)(hd:d<N)
  (h:XL P M N E ops Q l ((d,v)::f) g s) (hno:∀ c,op ≠ .defer c:=by intro _ h; cases h):XL P M N E ops Q (⟨some d,op,ty,pos,af,gd⟩::l) f g s :=
 XL.go hg hq.so hd (fun v' g' s' ⟨e1,e2,e3⟩=>by subst e1; subst e2; subst e3; exact h) hno
theorem XL.q {d:Nat}{op:Op}{ty:TypeId}{pos:String}{af:Array Edge}{l:List Oper}{v:Value}(hq:SQ P N E ⟨some d,op,ty,pos,af,none⟩ f g s v)(hd:d<N)
  (h:XL P M N E ops Q l ((d,v)::f) g s) (hno:∀ c,op ≠ .defer c:=by intro _ h; cases h):XL P M N E ops Q (⟨some d,op,ty,pos,af,none⟩::l) f g s:=XL.gq (Gd.none rfl) hq hd h hno
theorem XL.gu {d:Nat}{op:Op}{ty:TypeId}{pos:String}{af:Array Edge}{gd:Option (Nat×Bool)}{l:List Oper}{v:Value}(hg:Gd N ops f ⟨some d,op,ty,pos,af,gd⟩ true)(hq:SU P N ⟨some d,op,ty,pos,af,gd⟩ f v)(hd:d<N)
  (h:XL P M N E ops Q l ((d,v)::f) g s) (hno:∀ c,op ≠ .defer c:=by intro _ h; cases h):XL P M N E ops Q (⟨some d,op,ty,pos,af,gd⟩::l) f g s:=XL.gq hg hq.sq hd h hno
theorem XL.u {d:Nat}{op:Op}{ty:TypeId}{pos:String}{af:Array Edge}{l:List Oper}{v:Value}(hq:SU P N ⟨some d,op,ty,pos,af,none⟩ f v)(hd:d<N)
  (h:XL P M N E ops Q l ((d,v)::f) g s) (hno:∀ c,op ≠ .defer c:=by intro _ h; cases h):XL P M N E ops Q (⟨some d,op,ty,pos,af,none⟩::l) f g s:=XL.q hq.sq hd h hno
theorem XL.off {d:Nat}{op:Op}{ty:TypeId}{pos:String}{af:Array Edge}{gd:Option (Nat×Bool)}{l:List Oper}(hg:Gd N ops f ⟨some d,op,ty,pos,af,gd⟩ false)(hd:d<N)
  (h:XL P M N E ops Q l ((d,undef)::f) g s):XL P M N E ops Q (⟨some d,op,ty,pos,af,gd⟩::l) f g s:=by
 intro a w ha hw;unfold wpListIn;have hwt:Region.wanted (⟨some d,op,ty,pos,af,gd⟩:Oper) (yielded ops a.tmps)=false:=hg (mG a) ha.2;rw[zf7 (by rw[hwt]; simp)];exact⟨fun _ _=>trivial,h _ _ (ha.put hd undef) hw⟩
theorem At.obj {w:World}{b i:Nat}{o o':Obj}(h:At E g s w)(hi:s[i]?=some (pt b o)):At E g (s.set i (pt b o')) (w.putObj b o'):=by
 have h2:=h.fresh _ (zf9 hi) b rfl;refine h.turn hi I ⟨I,lR _⟩ I (by simp[World.putObj]) (fun k _ hk=>World.putObj_heap_other (fun e=>hk (by simp[pt,e]))) ?_ (fun b' hb'=>?_)
 ·simp only[pt,Option.bind_some];exact World.putObj_heap_same h2.2
 ·simp only[pt,zg5] at hb';subst hb';exact⟨by simpa [World.putObj] using h2.2,.inl I⟩
theorem At.here {w:World}{b i:Nat}{o:Obj}(h:At E g s w)(hi:s[i]?=some (pt b o)):w.heap[b]?=some o:=by
 have:=h.own _ (zf9 hi);simpa [pt] using this
end
def CH (P:Program)(E:World)(l:Nat)(args:Array Value)(g:PH)(s:Own)(R:Value→PH→Own→Prop):Prop :=
 ∀ w,At E g s w→YieldAt Fence.wide 0 P l args w fun e w'=>∃ v g' s',e = .returned v∧At E g' s' w'∧R v g' s'
def D2 (P:Program)(E:World)(gf:FuncId)(lb:List Value){α:Type}(encs:α→List Value)(xs:List α)(g0:PH):Prop :=
 ∀ (l:Nat) (ι:Type) (G:ι→PH) (S:ι→Own) (J:List α→ι→Prop) (i0:ι),J [] i0→(∀ pre i,J pre i→Le g0 (G i)) →
  (∀ pre x suf i sx,xs=pre++x::suf→J pre i→CH P E l (encs x).toArray (G i) (S i++sx) (fun v g' s'=>v = .bool true∧∃ j,J (pre++[x]) j∧g'=G j∧s'=S j++sx)) →
  ∀ sx,Ctr P E gf (.func (.yield l) #[] #[]::lb).toArray (G i0) (S i0++sx) (fun _ g' s'=>∃ j,J xs j∧g'=G j∧s'=S j++sx)
section
variable {P:Program}{M:Md}{N:Nat}{E:World}{Q:Exit→Act→World→Prop}{f:Fr}{g:PH}{s:Own}{dst:Option Tmp}{ty:TypeId}{pos:String}{af:Array Edge}{gd:Option (Nat×Bool)}
theorem XO.yield {x:Operand}{l:List Operand}{tys:Array TypeId}{vs:List Value}{k:Nat}{R:Value→PH→Own→Prop}(hx:ev f x=some (.func (.yield k) #[] #[]))(hl:evs f l=some vs)(hY:CH P E k vs.toArray g s R) :
  XO P M N E ⟨dst,.call ⟨.value x,l.toArray,tys⟩,ty,pos,af,gd⟩ f g s R:=by
 intro a w ha hw Q next hn;refine⟨fun _ _=>trivial,?_⟩;rw[Oper.semAt_eq _ _ _ (fun _ h=>by cases h)];obtain ⟨fn,tmps,assign,body,hy,hR⟩:=hY w hw;have h1:a.eval x = .func (.yield k) #[] #[]:=ha.ev hx;have h2:l.map a.eval=vs:=by have:=ha.2.evs hl; rwa [nK] at this
 have h3:(execOp a.eval ⟨dst,.call ⟨.value x,l.toArray,tys⟩,ty,pos,af,gd⟩).run P w = .ok (.round k fn tmps assign body) w:=by
  simp only[execOp,resolve,h1,List.map_toArray,h2];simp[Deferred.ofValue,Sem.run_bind,invoke,hy]
 rw[h3];refine⟨fun h=>(by cases h),RoundIn.mono hR fun e w' he=>?_⟩;obtain ⟨v,g',s',rfl,hat,hRR⟩:=he;exact hn v g' s' w' hRR hat
theorem Ctr.ofX {n:FuncId}{fn:Func}{c:Code}{args:List Value}{R:Value→PH→Own→Prop}
  (hf:P.funcs[n]?=some fn) (hb:fn.body=some c) (hN:fn.ntmps=N) (hle:args.length≤N)
  (h:XC P ⟨none,[]⟩ N E c (bodyPostM (wf none) 0 P fn (re E R)) (lg 0 args) g s):Ctr P E n args.toArray g s R:=by
 intro w hw;refine (callsIn_wide (n:=0)).1 (callsIn_of_wp_marks (F:=wf none) hf hb trivial (h _ w ⟨I,⟨I,?_,fun t v hv=>?_⟩⟩ hw) I)
 ·simp[mG,hN]; omega
 ·obtain ⟨_,h2⟩:=ji args 0 t v hv;have hlt:t<args.length:=(zf3.1 (by simpa using h2)).1;simp only[Nat.sub_zero] at h2;obtain ⟨_,h3⟩:=zf3.1 h2;simp[mG,Array.getElem?_append,hlt,h3]
theorem XT.leave0 {fn:Func}{R:Value→PH→Own→Prop}{e:Exit}(he:e = .ret∨e = .normal)(h:ST N E (bodyPost P fn (re E R)) e f g s):XT ⟨none,[]⟩ N E (bodyPostM (wf none) 0 P fn (re E R)) e f g s:=by
 intro a w ha hw;have h1:=h (mG a) w ha.2 hw
 rcases he with rfl | rfl
 all_goals
  obtain ⟨_,v,h2,h3⟩:=h1;show LeavesInM _ _ _ _ _ _ a.defers _ _;rw[ha.1];exact⟨v,h2,h3⟩
theorem XT.leave1 {fn:Func}{R:Value→PH→Own→Prop}{e:Exit}{D:Nat}(he:e = .ret∨e = .normal)(h:ST N E (bodyPost P fn (re E R)) e f g s) :
  XT ⟨none,[⟨.collected D,#[]⟩]⟩ N E (bodyPostM (wf none) 0 P fn (re E R)) e f g (pt D (.deferred (some []))::s):=by
 intro a w ha hw;have hD:w.heap[D]?=some (.deferred (some [])):=At.here (i:=0) hw rfl;have hw2:=(At.obj (i:=0) (o':=.deferred none) hw rfl).sublist (zi7 _ _);have h1:=h (mG a) _ ha.2 hw2
 rcases he with rfl | rfl
 all_goals
  obtain ⟨_,v,h2,h3⟩:=h1;show LeavesInM _ _ _ _ _ _ a.defers _ _;rw[ha.1];exact⟨by simp,.inl ⟨D,_,I,run_takeDeferred hD,v,h2,h3⟩⟩
theorem Dm {a:Act}{t t':Nat}{u u':Value}(h:Ok N f (mG a))(ht:t<N)(ht':t'<N):Ok N ((t',u')::(t,u)::f) { tmps:=((#[t,t']:Array Tmp).zip [u,u'].toArray).foldl (fun t (p,v)=>t.setIfInBounds p v) a.tmps,defers:=[] }:=by
 have:=(h.put ht u).put ht' u';simpa [Act.put,mG] using this
def wL {α ι:Type}(E:World)(G:ι→PH)(S:ι→Own)(J:List α→ι→Prop)(pre:List α)(x:α)(sx:Own):Exit→Act→World→Prop:=fun e _ w'=>e = .normal∧∃ j,At E (G j) (S j++sx) w'∧J (pre++[x]) j
def sZ {N:Nat}(E:World)(g:PH)(s:Own)(fb:Fr):Exit→Act→World→Prop:=fun e a' w'=>e = .normal∧Okd [] N fb a'∧At E g s w'
theorem XT.roundEnd {α ι:Type}{G:ι→PH}{S:ι→Own}{J:List α→ι→Prop}{pre:List α}{x:α}{sx:Own}(j:ι)(hg:G j=g)(hs:S j++sx=s)(hj:J (pre++[x]) j):XT M N E (wL E G S J pre x sx) .normal f g s:=fun _ _ _ hw=>⟨rfl,j,by rw[hg,hs]; exact hw,hj⟩
theorem XT.assignEnd {fb:Fr}{ro:Option Nat}(hf:Sub fb f):XT ⟨ro,[]⟩ N E (sZ (N:=N) E g s fb) .normal f g s:=fun _ _ ha hw=>⟨rfl,ha.sub hf,hw⟩
theorem XC.rangeFunc {α ι:Type}{gop:Operand}{ps:Array Tmp}{assign body:Code}{gf:FuncId}{lb:List Value}{encs:α→List Value}{xs:List α}{g0:PH}(G:ι→PH)(S:ι→Own)(J:List α→ι→Prop)(i0:ι)(sx0:Own)(fa:α→Fr)(fb:List α→α→ι→Fr)
  (hro:M.ro=none) (hg:ev f gop=some (.func (.func gf) #[] lb.toArray)) (eg:∀ args w,(callFunc gf args).run P w = .ok (.enter gf args) w) (hps:∀ x,(encs x).length=ps.size)
  (hG:G i0=g) (hS:S i0++sx0=s) (hseq:D2 P E gf lb encs xs g0) (hmono:∀ pre i,J pre i→Le g0 (G i)) (h0:J [] i0)
  (hfa:∀ x a,Ok N f (mG a)→Ok N (fa x) { tmps:=(ps.zip (encs x).toArray).foldl (fun t (p,v)=>t.setIfInBounds p v) a.tmps,defers:=[] })
  (hassign:∀ l pre x i sx,J pre i→XC P ⟨some l,[]⟩ N E assign (sZ (N:=N) E (G i) (S i++sx) (fb pre x i)) (fa x) (G i) (S i++sx))
  (hbody:∀ l pre x suf i sx,xs=pre++x::suf→J pre i→XC P ⟨some l,[]⟩ N E body (wL E G S J pre x sx) (fb pre x i) (G i) (S i++sx))
  (hdone:∀ D j,J xs j→XT ⟨none,⟨.collected D,#[]⟩::M.ds⟩ N E Q .normal f (G j) (pt D (.deferred (some []))::(S j++sx0))):XC P M N E (.rangeFunc gop ps assign body) Q f g s:=by
 subst hG hS;intro a w ha hw;rw[hro];refine wpIn_rangeFunc ?_;intro fn _;obtain ⟨rec,hrec⟩:∃ rec:LoopState→Option Code→Loop,rec=fun st pe=>{ state:=st,pending:=pe,fn,tmps:=a.tmps,params:=ps,assign,body,defers:=w.heap.size }:=⟨_,rfl⟩;obtain ⟨L,hL⟩:∃ L,L=w.heap.size+1:=⟨_,rfl⟩;obtain ⟨D,hD⟩:∃ D,D=w.heap.size:=⟨_,rfl⟩;obtain ⟨W1,hW1⟩:∃ W1,(w.alloc (.deferred (some []))).alloc (.loop (rec .ready none))=W1:=⟨_,rfl⟩;have hA:At E (G i0) (pt L (.loop (rec .ready none))::pt D (.deferred (some []))::(S i0++sx0)) W1:=by
  rw[← hW1,hL,hD];have h1:At E (G i0) (pt w.heap.size (.deferred (some []))::(S i0++sx0)) (w.alloc (.deferred (some []))):=hw.alloc (e:=pt w.heap.size (.deferred (some []))) rfl rfl;have h2:=h1.alloc (e:=pt (w.alloc (.deferred (some []))).heap.size (.loop (rec .ready none))) rfl rfl;rw[World.size_alloc] at h2;exact h2
 obtain ⟨S2,hS2⟩:∃ S2:ι→Own,S2=fun i=>S i++(pt L (.loop (rec .ready none))::pt D (.deferred (some []))::sx0):=⟨_,rfl⟩;have hA2:At E (G i0) (S2 i0++[]) W1:=by
  rw[hS2,zc4];dsimp only;refine hA.perm ?_;have h1:(pt L (.loop (rec .ready none))::pt D (.deferred (some []))::(S i0++sx0))=[pt L (.loop (rec .ready none)),pt D (.deferred (some []))]++(S i0++sx0):=rfl;have h2:S i0++(pt L (.loop (rec .ready none))::pt D (.deferred (some []))::sx0)=S i0++([pt L (.loop (rec .ready none)),pt D (.deferred (some []))]++sx0):=rfl;rw[h1,h2,← zg6,← zg6];exact List.perm_append_comm.append_right _
 refine⟨L,[{ target:=.collected D,args:=#[] }],W1,{ target:=.fn (.func gf) lb.toArray,args:=#[.func (.yield L) #[] #[]] },W1,gf,(.func (.yield L) #[] #[]::lb).toArray,W1,?_,?_,fun _ _=>trivial,?_,fun h=>(by cases h),?_⟩
 ·rw[← hW1,hrec,hL,hD]; exact run_enterLoop_outer _ _ _ _ _
 ·have h1:a.eval gop = .func (.func gf) #[] lb.toArray:=ha.ev hg;simp only[resolve,h1];simp[go_sem]
 ·have:(#[.func (.yield L) #[] #[]]++lb.toArray:Array Value)=(.func (.yield L) #[] #[]::lb).toArray:=by simp
  simp[invoke,go_sem,eg]
 ·refine (callsIn_wide (n:=0 - 1)).2 ((hseq L ι G S2 J i0 h0 hmono ?_ [] W1 hA2).mono ?_)
  ·intro pre x suf i sx hxs hJ W hW;rw[hS2] at hW;simp only[zg6,List.cons_append] at hW;have hlen:(S i).length=(S i).length:=rfl;have gl:∀ (i:ι) (u u':Ent) (r:Own),(S i++u::u'::r)[(S i).length]?=some u:=fun i u u' r=>by simp
   have hl:=hW.here (gl i _ _ _);have hy:=run_yield (P:=P) (args:=(encs x).toArray) hl (by rw[hrec]; simpa using hps x);rw[hrec] at hy;refine⟨fn,_,assign,body,hy,roundIn_of_wpIn trivial ?_⟩;refine Code.wpIn_mono (fun e a1 w1 h1=>?_) (hassign L pre x i _ hJ { tmps:=(ps.zip (encs x).toArray).foldl (fun t (p,v)=>t.setIfInBounds p v) a.tmps,defers:=[] } W ⟨I,hfa x a ha.2⟩ hW);obtain ⟨rfl,ha1,hw1⟩:=h1;have hl1:=hw1.here (gl i _ _ _);refine⟨_,run_beginRound hl1 (by rw[hrec]),?_⟩;have hset:∀ (i:ι) (u u' v:Ent) (r:Own),(S i++u::u'::r).set (S i).length v=S i++v::u'::r:=fun i u u' v r=>by simp
   have hw2:=hw1.obj (o':=.loop { rec .ready none with state:=.busy }) (gl i _ _ _);rw[hset] at hw2;refine Code.wpIn_mono (fun e a3 w3 h3=>?_) (hbody L pre x suf i _ hxs hJ a1 _ ha1 hw2);obtain ⟨rfl,j,hw3,hJ3⟩:=h3;have hl3:=hw3.here (gl j _ _ _);have he:=run_endRound (P:=P) none hl3;have hw4:=hw3.obj (o':=.loop { (rec .ready none) with state:=.ready,pending:=none }) (gl j _ _ _);rw[hset] at hw4;refine⟨_,_,he,.bool true,G j,S2 j++sx,I,?_,I,j,hJ3,I,I⟩;rw[hS2];simp only[zg6,List.cons_append];rw[hrec] at hw4 ⊢;exact hw4
  ·rintro e W2 ⟨v,g',s',rfl,hat,j,hJ,rfl,rfl⟩;rw[hS2,zc4] at hat;have gl:∀ (i:ι) (u u':Ent) (r:Own),(S i++u::u'::r)[(S i).length]?=some u:=fun i u u' r=>by simp
   have hl:=hat.here (gl j _ _ _);have he:=run_endLoop (P:=P) hl (by rw[hrec]; simp);have h2:=hat.obj (o':=.loop { (rec .ready none) with state:=.exhausted }) (gl j _ _ _);have hset:∀ (i:ι) (u u' v:Ent) (r:Own),(S i++u::u'::r).set (S i).length v=S i++v::u'::r:=fun i u u' v r=>by simp
   rw[hset] at h2;have hpn:(rec .ready none).pending=none:=by rw[hrec]
   refine⟨none,_,he.trans (zd9 (fun p=>Result.ok p _) hpn),?_⟩;refine hdone D j hJ _ _ ⟨by rw[← ha.1]; rfl,ha.2⟩ ?_;have h3:=(h2.sublist (s':=S j++pt D (.deferred (some []))::sx0) (by exact (zc1 _).append (zi7 _ _))).perm List.perm_middle;exact h3
end
end Go.Sy
namespace Go.Sy
open Go
section
variable {P:Program}{M:Md}{N:Nat}{E:World}{Q:Exit→Act→World→Prop}{f:Fr}{g:PH}{s:Own}{dst:Option Tmp}{ty:TypeId}{pos:String}{af:Array Edge}{gd:Option (Nat×Bool)}
end
end Go.Sy
namespace Go.Sy
open Go
section
variable {P:Program}{M:Md}{N:Nat}{E:World}{Q:Exit→Act→World→Prop}{f:Fr}{g:PH}{s:Own}{dst:Option Tmp}{ty:TypeId}{pos:String}{af:Array Edge}{gd:Option (Nat×Bool)}
end
end Go.Sy
namespace Go.Sy
open Go
def ext (ds:List Deferred)(b:Act):Act:={ b with defers:=b.defers++ds }
section
variable {P:Program}{ops:Array Oper}{ro:Option Nat}{ds:List Deferred}{Q Q0:Exit→Act→World→Prop}
end
section
variable {P:Program}{M:Md}{N:Nat}{E:World}{Q:Exit→Act→World→Prop}{f:Fr}{g:PH}{s:Own}{ops:Array Oper}
def Qx (ds:List Deferred)(Q:Exit→Act→World→Prop):Exit→Act→World→Prop:=fun e b w=>e = .normal∧Q .normal (ext ds b) w
instance (ds:List Deferred):Quiet (Qx ds Q):=⟨fun _ _ _ _ _ h=>absurd h.1 (by simp)⟩
end
end Go.Sy
namespace Go.Proofs.YtcfkpajlakidbaaGreatDoor
open _root_.Go.Proofs.Tryz _root_.Go.Proofs.YtcfkpajlakidbaaGreatDoor.Tryz
open Go Go.Sy Go.Pl Go.Proofs
set_option maxRecDepth 100000
set_option maxHeartbeats 1000000
theorem sA {α β:Type}{l:List α}{k:Nat}(h:k<l.length)(p:α→Bool)(f:α→β):((l.take (k+1)).filter p).map f=((l.take k).filter p).map f++(if p l[k] then [f l[k]] else []):=by
 rw[tS h,zh4,zg3];congr 1;simp only[zi4,List.filter_nil];split <;> rfl
theorem zf {α β:Type}(l:List α)(k:Nat)(p:α→Bool)(f:α→β):(((l.take k).filter p).map f).length≤k:=by
 rw[ze4];refine zk3 (zc3 _ _) ?_;rw[ze2]; omega
theorem Tryz.buildE64 (w:World):(Instr.build 64 #[]).run Tryz.prog w = .ok (.agg #[vi 0,vi 0,.slice none 0 0]) w:=by
 simp[Instr.build,Instr.fill];rfl
def tT:List Cl→Int→Int
 | [],m=>m
 | c::r,m=>tT r (max m c.dim)
def yj (l:List Cl):Int:=tT (ae l) (-1)
theorem od (c:Cl):∀ (l:List Cl) (m:Int),tT (l++[c]) m=max (tT l m) c.dim
 | [],_=>rfl
 | _::r,_=>od c r _
theorem SU.maxI {P:Program}{N:Nat}{f:Fr}{dst:Option Tmp}{ty:TypeId}{pos:String}{af:Array Edge}{gd:Option (Nat×Bool)}{x y:Operand}{T U:TypeId}{m n:Int}(hx:ev f x=some (vi m))(hy:ev f y=some (vi n)) :
  SU P N ⟨dst,.call ⟨.builtin .max,#[x,y],#[T,U]⟩,ty,pos,af,gd⟩ f (vi (max m n)):=fun a w ha=>by
 have h:=run_max_int2 (P:=P) (w:=w) #[T,U] ty .i64 .i64 m n;have h2:(if m<n then n else m)=max m n:=by split <;> omega
 rw[h2] at h;simp[execOp,resolve,invoke,builtin,ha.ev hx,ha.ev hy,h]
theorem mi (E:World)(g:PH)(s:Own)(v:Value)(l:List Cl)(id:Int)(hv:ao g v l)(hf:cU l) :
  Ctr Tryz.prog E 70 #[.agg #[v],vi id] g s (fun r g' s'=>s=s'∧Le g g'∧∃ x,r = .tuple #[rcv x,vb (AU l id).isSome]∧aq g' ((AU l id).getD fK) x):=by
 have hft:=eY hf;have hfl:=hft.1;obtain ⟨p,c,rfl⟩:=hv.form;have hsrt:=em l;have hnd:=fB l;refine za9 (args:=[.agg #[.slice p l.length c],vi id]) func70 I ntmps70 (bE I) ?_;refine rZ (bW (bO I) fun b2=>?_);refine bW (aL zk9) fun b4=>?_;refine aT I (rZ (lK (qV 1 aY ar I I I) (lW (cL call67 I (ct E g _ _ l hv hf)) ?_)));rintro v9 g1 _ ⟨rfl,hle,hc⟩;obtain ⟨rs,hrs,hall⟩:=hc;have hcs:ao g1 _ (ae l):=⟨rs,hrs,hall⟩;obtain ⟨q,dd,rfl⟩:=hrs.form;refine aT I (sW I (lM I (lW (cL call68 I (e8 E g1 _ _ (ae l) id hcs hfl hsrt)) ?_)));rintro _ _ _ ⟨rfl,rfl,rfl⟩;refine aT I (sQ (sW I (yL I (tZ ?_))));have hrl:=hall.length;unfold AU;generalize ae l=A at *;have haf:=lh hsrt id;refine iP I (fun hneg=>?_) (fun hneg=>?_)
 ·rcases haf with ⟨h1,h2⟩ | ⟨x,k,h1,h2,h3⟩
  ·have hno:(A.find? fun c=>decide (c.id=id))=none:=h1;refine rZ (lU (za1 I (buildE64)) (oZ (sK 0 aw I I I I I sB) ?_));refine aT I (rE (tR ?_));exact ST.retCD1 0 s (.inl I) results70 I I eO aw I I uR ⟨I,hle,AP,by rw[hno]; rfl,by rw[hno]; exact uo g1⟩
  ·rw[h2] at hneg; omega
 ·rcases haf with ⟨h1,h2⟩ | ⟨x,k,h1,h2,h3⟩
  ·rw[h2] at hneg; omega
  ·have hyes:(A.find? fun c=>decide (c.id=id))=some x:=h1;rw[h2];have hkl:k<A.length:=(zf3.1 h3).1;have hkr:k<rs.length:=oM;have hb1:=hrs.based oM;have hcr:=hall.get h3 (gE hkr);have hgr:rs[((k:Nat):Int).toNat]?=some rs[k]:=gE hkr;generalize rs[k]=r at *;obtain ⟨ri,rd,⟨rp,rn,rc⟩⟩:=r;refine kP (tN (sW I (lM I (lU (iA az aw I I hb1 oM sL) (lK (eA eO aw I hrs.rd hgr) (oZ (sK 0 aw I I I I I sB) ?_))))));refine aT I (rE ?_);exact ST.retCD1 0 s (.inl I) results70 I I eO aw I I uR ⟨I,hle,⟨ri,rd,⟨rp,rn,rc⟩⟩,by rw[hyes]; rfl,by rw[hyes]; exact hcr⟩
end Go.Proofs.YtcfkpajlakidbaaGreatDoor
namespace Go.Sy
open Go
section
variable {α:Type}{k:Nat}{P:Program}{N:Nat}{E:World}{f:Fr}{g:PH}{s:Own}{dst:Option Tmp}{ty:TypeId}{pos:String}{af:Array Edge}{gd:Option (Nat×Bool)}
theorem SO.makeC {x y:Operand}{t T:TypeId}{bytes n:Nat}{z:Value}(e:Enc α k)(hT:STy P t T k bytes z)(hx:ev f x=some (vi 0))(hy:ev f y=some (vi n))(hb:n * bytes≤140737488355328)(hlen:n≤4611686018427387904) :
  SO P N E ⟨dst,.makeSlice t x y,ty,pos,af,gd⟩ f g s fun v' g' s'=>g=g'∧s'=rowA e T v' []::s :=
 SO.of_run fun ac w ha hw=>by
  obtain ⟨ti,ht1,ht2,ht3,ht4⟩:=hT.info;have hbi:(ti.bytes:Int) * ((n:Nat):Int)≤281474976710656:=by
   rw[ht4,← Int.natCast_mul,Nat.mul_comm]; omega
  have h5:=run_make (P:=P) w t T ti z hT.und ht1 ht2 .i64 .i64 0 n oM oM hbi oM;simp only[Int.toNat_natCast] at h5;rw[ht3] at h5;have hrun:(execOp ac.eval ⟨dst,.makeSlice t x y,ty,pos,af,gd⟩).run P w = .ok (.value (.slice (some ⟨w.heap.size,0,none⟩) 0 n)) (w.alloc (.cells (madeCells z.cells (n * k)) T)):=by
   simp[execOp,ha.ev hx,ha.ev hy,h5]
  have hnew:(w.alloc (.cells (madeCells z.cells (n * k)) T)).heap[w.heap.size]?=some (.cells (madeCells z.cells (n * k)) T (0,0)):=heap_alloc_new w _;refine⟨_,_,g,_,hrun,?_,I,I⟩;cases n with
  | zero =>
   have h6:=hw.emptyRow T k (some ⟨w.heap.size,0,none⟩);have h7:=h6.alloc (e:=pt w.heap.size (.cells (madeCells z.cells (0 * k)) T (0,0))) (o:=.cells (madeCells z.cells (0 * k)) T (0,0)) rfl rfl;exact h7.sublist (zi7 _ _)
  | succ n =>
   have hsz:(madeCells z.cells ((n+1) * k)).size=(n+1) * k:=by simp[madeCells]
   exact hw.alloc (e:=rowA e T (.slice (some ⟨w.heap.size,0,none⟩) 0 (n+1)) []) (o:=.cells (madeCells z.cells ((n+1) * k)) T (0,0)) I ⟨by simp,.inr ⟨_,n,_,I,I,by simp,by unfold maxLen; omega,hsz,by simp⟩⟩
def qX:Enc Int 1:=⟨fun n=>[.int .u8 n],fun _=>rfl,fun _ u hu=>by simp at hu; subst hu; rfl,by decide⟩
def DR:Enc Int 1:=⟨fun n=>[.int .u64 n],fun _=>rfl,fun _ u hu=>by simp at hu; subst hu; rfl,by decide⟩
def byt (l:List Int):List UInt8:=l.map fun n=>UInt8.ofNat n.toNat
def txt (l:List UInt8):Value:=.string ⟨l.toArray⟩
theorem Ar (l:List Int):∀ s:ByteArray,l.foldl (fun r n=>r.push (UInt8.ofNat n.toNat)) s=⟨s.data++(byt l).toArray⟩:=by
 induction l with
 | nil=>intro s; simp[byt]
 | cons a t ih =>
  intro s;simp only[zi5];rw[ih];simp[byt,ByteArray.push]
theorem xG (l:List Int):l.flatMap qX.enc=l.map (Value.int .u8):=by
 induction l with
 | nil=>rfl
 | cons a t ih=>simp only[zh3,zg2,ih]; rfl
theorem SQ.bytesText {x:Operand}{S D e:TypeId}{p:Option Addr}{c:Nat}{l:List Int}(hs:P.underlying S=some (.slice e))(he:P.underlying e=some (.int .u8))(hd:P.underlying D=some .string)
  (hx:ev f x=some (.slice p l.length c)) (hr:Rd g s (.slice p l.length c) (l.flatMap qX.enc)) :
  SQ P N E ⟨dst,.convert S D x,ty,pos,af,gd⟩ f g s (txt (byt l)):=fun a w ha hw=>by
 have h1:(convert S D (.slice p l.length c)).run P w = .ok (txt (byt l)) w:=by
  rw[run_convert_bytes_string w S D e p l.length c hs he hd];rw[xG] at hr;cases l with
  | nil =>
   cases p with
   | none=>simp[Conv.bytesToString,txt,byt]; rfl
   | some a =>
    have h2:=run_bytesToString (P:=P) w a 0 c [] (by simp[loadCells]; exact cC (P:=P) (w:=w) (b:=a.block) (o:=a.off) 0 0 [] #[] I (fun j y hy=>by simp at hy));rw[zc2,h2];rfl
  | cons n t =>
   obtain ⟨q,n',c',he1,hsp,hc0⟩:=hr E w hw 0 (.int .u8 n) rfl;injection he1 with he1 he2 he3
   subst he1;obtain ⟨qb,qo,qs⟩:=q;dsimp only at hsp;subst hsp;have h2:=run_bytesToString (P:=P) w ⟨qb,qo,none⟩ (n::t).length c (n::t) (by
    have:=cC (P:=P) (w:=w) (b:=qb) (o:=qo) (n::t).length 0 ((n::t).map (Value.int .u8)) #[] (by simp) (fun j y hy=>by
     obtain ⟨q',n2,c2,he4,_,hc1⟩:=hr E w hw j y hy;injection he4 with he4
     injection he4 with he4
     subst he4;simpa using hc1)
    simpa [loadCells] using this)
   rw[h2,Ar];simp[txt]
 simp[execOp,ha.ev hx,h1]
theorem vM (l:List UInt8):(⟨l.toArray⟩:ByteArray).toList=l:=by rw[ByteArray.toList_eq]
theorem SU.neqT {x y:Operand}{T U:TypeId}{l m:List UInt8}(hx:ev f x=some (txt l))(hy:ev f y=some (txt m)) :
  SU P N ⟨dst,.binOp .neq T x y U,ty,pos,af,gd⟩ f (.bool (decide (l≠m))):=fun ac w ha=>by
 have hg:(eqGuard .neq T x y (txt l) (txt m)).run P w = .ok () w:=by simp[eqGuard,txt]
 have hb:(binOp .neq T (txt l) (txt m)).run P w = .ok (.bool (decide (l≠m))) w:=by
  unfold txt;rw[binOp_string_neq,vM,vM];by_cases h:l=m <;> simp[h,bne] <;> rfl
 simp only[execOp,ha.ev hx,ha.ev hy,Sem.run_bind,hg,zc8,hb];rfl
end
end Go.Sy
namespace Go.Sy
open Go
section
variable {P:Program}{N:Nat}{f:Fr}{dst:Option Tmp}{ty:TypeId}{pos:String}{af:Array Edge}{gd:Option (Nat×Bool)}
theorem SU.or {x y:Operand}{T U:TypeId}{k:IntKind}{m n:Int}(hx:ev f x=some (.int k m))(hy:ev f y=some (.int k n)) :
  SU P N ⟨dst,.binOp .or T x y U,ty,pos,af,gd⟩ f (.int k (k.wrap (BitVec.ofInt k.bits m ||| BitVec.ofInt k.bits n).toNat)):=fun a w ha=>by
 simp only[execOp,ha.ev hx,ha.ev hy,eqGuard,binOp,ne_eq,not_true_eq_false,if_false,Op.intBits]; rfl
end
end Go.Sy
namespace Go.Proofs.YtcfkpajlakidbaaGreatDoor
open _root_.Go.Proofs.Tryz _root_.Go.Proofs.YtcfkpajlakidbaaGreatDoor.Tryz
open Go Go.Sy Go.Pl Go.Proofs Go.Shelf
set_option maxRecDepth 100000
set_option maxHeartbeats 1000000
theorem D0 {f:Fr}{t:Nat}{a b:Int}(h:bB f t=some (vi a))(e:a=b):bB f t=some (vi b):=e ▸ h
theorem Tryz.sty142:STy Tryz.prog 142 140 1 8 (.int .u64 0):=⟨underlying142,⟨t140,by kernel_rfl,by kernel_rfl,by kernel_rfl,by kernel_rfl⟩,rfl,by decide⟩
theorem Tryz.sty183:STy Tryz.prog 183 5 1 1 (.int .u8 0):=⟨underlying183,⟨t5,by kernel_rfl,by kernel_rfl,by kernel_rfl,by kernel_rfl⟩,rfl,by decide⟩
def ed (l:List Int):List Int:=(l.reverse.dropWhile (· == 0)).reverse
theorem ph {m:List Int}(h:0<m.length)(h0:m.getD (m.length - 1) 1=0):ed (m.take (m.length - 1))=ed m:=by
 rcases List.eq_nil_or_concat m with rfl | ⟨a,x,rfl⟩
 ·simp at h
 ·have hx:x=0:=by simpa [zg8] using h0
  subst hx;simp[ed]
theorem pg {m:List Int}(h:(decide ((m.length:Int)>0)&&decide (m.getD (m.length - 1) 1=0))=false):ed m=m:=by
 rcases List.eq_nil_or_concat m with rfl | ⟨a,x,rfl⟩
 ·rfl
 ·have hx:x≠0:=by simpa [zg8] using h
  simp[ed,hx]
theorem z2 (E:World)(g:PH)(s:Own)(v:Value)(l:List Int)(hv:SlA DR g v l)(hl:l.length<1099511627776) :
  Ctr Tryz.prog E 132 #[v] g s (fun r g' s'=>g=g'∧s=s'∧SlA DR g r (ed l)):=by
 refine za9 (args:=[v]) func132 I ntmps132 (bE I) ?_;refine rZ (aT I (sQ (bK ?_)));refine oP (ι:=Value×List Int) (fun i=>[(0,i.1)]) (fun _=>g) (fun _=>s) (fun i=>SlA DR g i.1 i.2∧ed i.2=ed l∧i.2.length≤l.length) (fun i=>i.2.length) (v,l) ⟨I,trivial⟩ I I ⟨hv,I,lR _⟩ ?_;rintro ⟨v1,m⟩ ⟨hm,htr,hle⟩;dsimp only at hm htr hle ⊢;obtain ⟨p,c,rfl⟩:=za2 hm;have hcap:=(SlA.cap hm).2;have f1:(m.length:Int)>0→(decide ((m.length:Int)>0)&&decide (m.getD (m.length - 1) 1=0))=decide (m.getD (m.length - 1) 1=0):=fun h=>by rw[zf6 h,Bool.true_and]
 have f2:¬ (m.length:Int)>0→(decide ((m.length:Int)>0)&&decide (m.getD (m.length - 1) 1=0))=false:=fun h=>by simp only[h,decide_false,Bool.false_and]
 have hgl:(m.length:Int)>0→m[((m.length:Int) - 1).toNat]?=some (m.getD (m.length - 1) 1):=fun h=>by
  have h1:((m.length:Int) - 1).toNat=m.length - 1:=oM;have h2:m.length - 1<m.length:=oM;rw[h1,zg8,gE h2]; rfl
 have hbs:(m.length:Int)>0→based (.slice p m.length c)=true:=fun h=>za4 hm oM;refine sQ ?_;refine SC.cutB 14 ((decide ((m.length:Int)>0)&&decide (m.getD (m.length - 1) 1=0))) ?_ ?_
 ·refine rG (lM I (lU (eN qQ I) (lU (gR I I) (lM I ?_))));refine sP ?_ ?_
  ·intro h6;refine yC I (yC I (lY I I I (eN qQ I) (lY I I I (sU I I oM) (lY I I I (iA qQ sizeOf140 I I (hbs h6) oM sL) (SL.gq (gT I I I dC) (eB isAgg140 I (za5 hm) (hgl h6) I) dC (lY I I I (eQ I I) (yP I (nL ?_))))))));exact za8 (by (rw[f1 h6]; rfl)) mI
  ·intro h6;refine yA I (yA I (yA I (yA I (yA I (yA I (yA I (yF I (nL ?_))))))));exact za8 (by (rw[f2 h6]; rfl)) mI
 refine iQ I (fun hc=>?_) (fun hc=>?_)
 ·rw[zi9,zj2,zj2] at hc;obtain ⟨hpos,hlast⟩:=hc;have h1:((m.length:Int) - 1).toNat=m.length - 1:=oM;refine kP (tN (bK (rG (lM I (lM I (lU (eN qQ I) (lU (sU I I oM) (lU (SU.sliceH qQ sizeOf140 I I oM oM) (lA I (nL (bN ?_)))))))))));refine gA (sliced p 0 ((m.length:Int) - 1).toNat c 1,m.take (m.length - 1)) ⟨I,trivial⟩ I I ⟨?_,?_,?_⟩ (by dsimp only; rw[ze2]; omega)
  ·have:=SlA.cut hm (l:=0) (m:=m.length - 1) (zf4 _) oM;dsimp only;rw[h1];simpa using this
  ·dsimp only; rw[ph oM hlast]; exact htr
  ·dsimp only; rw[ze2]; omega
 ·refine xI (tX (tX (bX (tN (sW I (aT I (rE ?_)))))));exact za6 (.inl I) results132 I ⟨I,I,by rw[← htr,pg hc]; exact hm⟩
theorem tu (E:World)(g:PH)(s:Own)(v:Value)(l:List Int)(hv:SlA encInt g v l)(hl:l.length<1099511627776) :
  Ctr Tryz.prog E 151 #[v] g s (fun r g' s'=>g=g'∧s=s'∧SlA encInt g r (ed l)):=by
 refine za9 (args:=[v]) func151 I ntmps151 (bE I) ?_;refine rZ (aT I (sQ (bK ?_)));refine oP (ι:=Value×List Int) (fun i=>[(0,i.1)]) (fun _=>g) (fun _=>s) (fun i=>SlA encInt g i.1 i.2∧ed i.2=ed l∧i.2.length≤l.length) (fun i=>i.2.length) (v,l) ⟨I,trivial⟩ I I ⟨hv,I,lR _⟩ ?_;rintro ⟨v1,m⟩ ⟨hm,htr,hle⟩;dsimp only at hm htr hle ⊢;obtain ⟨p,c,rfl⟩:=za2 hm;have hcap:=(SlA.cap hm).2;have f1:(m.length:Int)>0→(decide ((m.length:Int)>0)&&decide (m.getD (m.length - 1) 1=0))=decide (m.getD (m.length - 1) 1=0):=fun h=>by rw[zf6 h,Bool.true_and]
 have f2:¬ (m.length:Int)>0→(decide ((m.length:Int)>0)&&decide (m.getD (m.length - 1) 1=0))=false:=fun h=>by simp only[h,decide_false,Bool.false_and]
 have hgl:(m.length:Int)>0→m[((m.length:Int) - 1).toNat]?=some (m.getD (m.length - 1) 1):=fun h=>by
  have h1:((m.length:Int) - 1).toNat=m.length - 1:=oM;have h2:m.length - 1<m.length:=oM;rw[h1,zg8,gE h2]; rfl
 have hbs:(m.length:Int)>0→based (.slice p m.length c)=true:=fun h=>za4 hm oM;refine sQ ?_;refine SC.cutB 14 ((decide ((m.length:Int)>0)&&decide (m.getD (m.length - 1) 1=0))) ?_ ?_
 ·refine rG (lM I (lU (eN ak I) (lU (gR I I) (lM I ?_))));refine sP ?_ ?_
  ·intro h6;refine yC I (yC I (lY I I I (eN ak I) (lY I I I (sU I I oM) (lY I I I (iA ak zT3 I I (hbs h6) oM sL) (SL.gq (gT I I I dC) (eB iT3 I (za5 hm) (hgl h6) I) dC (lY I I I (eQ I I) (yP I (nL ?_))))))));exact za8 (by (rw[f1 h6]; rfl)) mI
  ·intro h6;refine yA I (yA I (yA I (yA I (yA I (yA I (yA I (yF I (nL ?_))))))));exact za8 (by (rw[f2 h6]; rfl)) mI
 refine iQ I (fun hc=>?_) (fun hc=>?_)
 ·rw[zi9,zj2,zj2] at hc;obtain ⟨hpos,hlast⟩:=hc;have h1:((m.length:Int) - 1).toNat=m.length - 1:=oM;refine kP (tN (bK (rG (lM I (lM I (lU (eN ak I) (lU (sU I I oM) (lU (SU.sliceH ak zT3 I I oM oM) (lA I (nL (bN ?_)))))))))));refine gA (sliced p 0 ((m.length:Int) - 1).toNat c 1,m.take (m.length - 1)) ⟨I,trivial⟩ I I ⟨?_,?_,?_⟩ (by dsimp only; rw[ze2]; omega)
  ·have:=SlA.cut hm (l:=0) (m:=m.length - 1) (zf4 _) oM;dsimp only;rw[h1];simpa using this
  ·dsimp only; rw[ph oM hlast]; exact htr
  ·dsimp only; rw[ze2]; omega
 ·refine xI (tX (tX (bX (tN (sW I (aT I (rE ?_)))))));exact za6 (.inl I) results151 I ⟨I,I,by rw[← htr,pg hc]; exact hm⟩
theorem rF (E:World)(g:PH)(s:Own)(v:Value)(hv:v.cells = #[v]) :
  Ctr Tryz.prog E 133 #[v] g s (fun r g' s'=>s=s'∧Le g g'∧∃ b,r = .func (.func 158) #[] #[pp b 0]∧g' b=some (.cells #[v] 142 (0,0))):=by
 refine za9 (args:=[v]) func133 I ntmps133 (bE I) ?_;refine rZ (bW (bO I) fun b1=>?_);refine aT I (rZ (lU (SU.mkFunc I) (aT I (rE ?_))));rw[hv];refine ST.freeze fun g1 hle hb=>?_;exact za6 (.inl I) results133 I ⟨I,hle,_,I,hb⟩
def rN (l:List Int):List (Nat×Int):=(l.zipIdx.map fun p=>(p.2,p.1)).reverse
theorem n8 (l:List Int):(rN l).length=l.length:=by simp[rN]
theorem Br {l:List Int}{k:Nat}(h:k<l.length):(rN l)[l.length - 1 - k]?=some (k,l[k]):=by
 unfold rN;rw[List.getElem?_reverse (by simp; omega)];simp only[ze4,List.length_zipIdx];rw[show l.length - 1 - (l.length - 1 - k)=k by omega];simp[h]
theorem o6 (E:World)(g0:PH)(b:Nat)(v:Value)(l:List Int)(hb:g0 b=some (.cells #[v] 142 (0,0)))(hv:SlA DR g0 v l)(hl:l.length<1099511627776) :
  D2 Tryz.prog E 158 [pp b 0] (fun x:Nat×Int=>[vi x.1,.int .u64 x.2]) (rN l) g0:=by
 intro k ι G S J i0 h0 hmono hY sx;obtain ⟨p,c,rfl⟩:=za2 hv;refine Ctr.ofX (args:=[.func (.yield k) #[] #[],pp b 0]) func158 I ntmps158 (bE I) ?_;refine XC.seq ?_;refine XC.region ?_;refine XL.q (qL (v:=.slice p l.length c) isAgg142 I (cK (hmono _ _ h0 _ _ hb) I)) dC ?_;refine XL.u (eN qQ I) dC ?_;refine XL.u (sU I I oM) dC ?_;refine XL.u (aS I) dC ?_;refine XL.nil ?_;refine XT.thenN ?_;refine XC.block ?_;refine XC.loop (ι:=ι×Nat) (fun i=>[(0,.func (.yield k) #[] #[]),(1,pp b 0),(3,vi ((i.2:Int) - 1))]) (fun i=>G i.1) (fun i=>S i.1++sx) (fun i=>i.2≤l.length∧J ((rN l).take (l.length - i.2)) i.1) (fun i=>i.2) (i0,l.length)
  sB rfl rfl ⟨lR _,by simpa using h0⟩ ?_
 rintro ⟨j,n⟩ ⟨hn,hJ⟩;dsimp only at hn hJ ⊢;have hle:=hmono _ _ hJ;refine XC.seq ?_;refine XC.seq ?_;refine XC.region ?_;refine XL.u (mV I) dC ?_;refine XL.u (gQ I I) dC ?_;refine XL.nil ?_;refine XT.thenN ?_;refine XC.ifP I (fun hge=>?_) (fun hge=>?_)
 ·have hn1:n - 1<l.length:=oM;have hv':=za3 hv hle;have hb1:=za4 hv' oM;have hgx:l[((n:Int) - 1).toNat]?=some l[n - 1]:=by rw[show ((n:Int) - 1).toNat=n - 1 by omega]; exact gE hn1
  have hrg:=Br hn1;rw[show l.length - 1 - (n - 1)=l.length - n by omega] at hrg;have hsp:rN l=(rN l).take (l.length - n)++(n - 1,l[n - 1])::(rN l).drop (l.length - n+1):=by
   obtain ⟨h1,h2⟩:=zf3.1 hrg;rw[← h2,List.getElem_cons_drop,zi8]
  have hy:=hY _ _ _ j sx hsp hJ;have htk:(rN l).take (l.length - (n - 1))=(rN l).take (l.length - n)++[(n - 1,l[n - 1])]:=by
   obtain ⟨h1,h2⟩:=zf3.1 hrg;rw[show l.length - (n - 1)=l.length - n+1 by omega,tS h1,h2]
  generalize l[n - 1]=x at *;have hvn:vi ((n - 1:Nat):Int)=vi ((n:Int) - 1):=zd9 vi oM;dsimp only at hy;rw[hvn] at hy;refine XC.skip ?_;refine XT.thenN ?_;refine XC.seq ?_;refine XC.block ?_;refine XC.seq ?_;refine XC.region ?_;refine XL.u (mV I) dC ?_;refine XL.u (mV I) dC ?_;refine XL.q (qL (v:=.slice p l.length c) isAgg142 I (cK (hle _ _ hb) I)) dC ?_;refine XL.u (mV I) dC ?_;refine XL.u (iA qQ sizeOf140 I I hb1 oM sL) dC ?_;refine XL.q (eB isAgg140 I (za5 hv') hgx I) dC ?_;refine XL.x (XO.yield I I hy) dC ?_;rintro _ _ _ ⟨rfl,j',hJ',rfl,rfl⟩;refine XL.u (SU.not I) dC ?_;refine XL.nil ?_;refine XT.thenN ?_;refine XC.condF I ?_;refine XC.skip ?_;refine XT.blockN ?_;refine XT.thenN ?_;refine XC.region ?_;refine XL.u (mV I) dC ?_;refine XL.u (sU I I oM) dC ?_;refine XL.u (aS I) dC ?_;refine XL.nil ?_;exact XT.again (j',n - 1) ⟨I,I,D0 I oM,trivial⟩ I I ⟨by dsimp only; omega,by dsimp only; rw[htk]; exact hJ'⟩ (by dsimp only; omega)
 ·have hn0:n=0:=oM;subst hn0;refine XC.exit ?_;refine XT.thenX ?_;refine XT.thenX ?_;refine XT.blockX ?_;exact XT.leave0 (.inr I) (ST.ret0 (.inr I) results158 ⟨j,by have:=hJ; rwa [tL (by rw[n8]; omega)] at this,I,I⟩)
end Go.Proofs.YtcfkpajlakidbaaGreatDoor
