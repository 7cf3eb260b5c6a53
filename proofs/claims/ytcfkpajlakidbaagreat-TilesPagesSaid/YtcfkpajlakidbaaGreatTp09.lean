/- 9 -/
import Derived.Test.YtcfkpajlakidbaaGreatTp06
import Derived.Test.YtcfkpajlakidbaaGreatTp08
import Derived.Test.YtcfkpajlakidbaaGreatTp05
import Derived.Test.YtcfkpajlakidbaaGreatTp07
import Derived.Test.YtcfkpajlakidbaaGreatTp04
import Derived.RangeFuncLeaves
import Derived.RangeFuncRecord
import Derived.RangeFuncSeq
import Derived.OrdersIn
import Derived.TacticsIn
import Derived.Laws.BytesString
import Derived.Laws.Strings
import Derived.Test.YtcfkpajlakidbaaGreatTp02
import Derived.Test.YtcfkpajlakidbaaGreatTp03
import Derived.Scope
import Derived.Below
set_option linter.unusedSimpArgs false
set_option linter.unusedVariables false
namespace Go.Proofs.YtcfkpajlakidbaaGreat
open _root_.Go.Proofs.Tryz _root_.Go.Proofs.YtcfkpajlakidbaaGreat.Tryz
open Go Go.Sy Go.Pl Go.Proofs
inductive Cn (E:Int→Int→Prop):Int→Int→Prop
 | refl (a:Int):Cn E a a
 | step {a b c:Int} (h:E a b∨E b a) (r:Cn E b c):Cn E a c
theorem Cn.trans {E:Int→Int→Prop}{a b c:Int}(h:Cn E a b)(k:Cn E b c):Cn E a c:=by
 induction h with
 | refl _=>exact k
 | step h _ ih=>exact .step h (ih k)
theorem Cn.one {E:Int→Int→Prop}{a b:Int}(h:E a b):Cn E a b:=.step (.inl h) (.refl b)
theorem Cn.symm {E:Int→Int→Prop}{a b:Int}(h:Cn E a b):Cn E b a:=by
 induction h with
 | refl _=>exact .refl _
 | step h _ ih=>exact ih.trans (.step h.symm (.refl _))
theorem Cn.mono {E E':Int→Int→Prop}(h:∀ a b,E a b→Cn E' a b){a b:Int}(hc:Cn E a b):Cn E' a b:=by
 induction hc with
 | refl _=>exact .refl _
 | step e _ ih =>
  rcases e with e | e
  ·exact (h _ _ e).trans ih
  ·exact (h _ _ e).symm.trans ih
theorem Cn.iso {E:Int→Int→Prop}{a b:Int}(h:∀ b,¬ E a b∧¬ E b a)(hc:Cn E a b):a=b:=by
 cases hc with
 | refl _=>rfl
 | step e _ =>
  rcases e with e | e
  ·exact absurd e (h _).1
  ·exact absurd e (h _).2
theorem Cn.add {E E':Int→Int→Prop}{x y:Int}(h:∀ a b,E' a b↔E a b∨(a=x∧b=y))(a b:Int):Cn E' a b↔Cn E a b∨(Cn E a x∧Cn E y b)∨(Cn E a y∧Cn E x b):=by
 have hxy:Cn E' x y:=.one ((h x y).2 (.inr ⟨rfl,rfl⟩));have hm:∀ {a b:Int},Cn E a b→Cn E' a b:=fun hc=>hc.mono fun a b e=>.one ((h a b).2 (.inl e));constructor
 ·intro hc;induction hc with
  | refl _=>exact .inl (.refl _)
  | step e _ ih =>
   have key:∀ {p q r:Int},Cn E p q→(Cn E q r∨(Cn E q x∧Cn E y r)∨(Cn E q y∧Cn E x r))→Cn E p r∨(Cn E p x∧Cn E y r)∨(Cn E p y∧Cn E x r):=by
    rintro p q r h1 (h2 | ⟨h2,h3⟩ | ⟨h2,h3⟩)
    ·exact .inl (h1.trans h2)
    ·exact .inr (.inl ⟨h1.trans h2,h3⟩)
    ·exact .inr (.inr ⟨h1.trans h2,h3⟩)
   rcases e with e | e
   ·rcases (h _ _).1 e with e | ⟨rfl,rfl⟩
    ·exact key (.one e) ih
    ·rcases ih with h2 | ⟨_,h3⟩ | ⟨_,h3⟩
     ·exact .inr (.inl ⟨.refl _,h2⟩)
     ·exact .inr (.inl ⟨.refl _,h3⟩)
     ·exact .inl h3
   ·rcases (h _ _).1 e with e | ⟨rfl,rfl⟩
    ·exact key (Cn.one e).symm ih
    ·rcases ih with h2 | ⟨_,h3⟩ | ⟨_,h3⟩
     ·exact .inr (.inr ⟨.refl _,h2⟩)
     ·exact .inl h3
     ·exact .inr (.inr ⟨.refl _,h3⟩)
 ·rintro (h1 | ⟨h1,h2⟩ | ⟨h1,h2⟩)
  ·exact hm h1
  ·exact (hm h1).trans (hxy.trans (hm h2))
  ·exact (hm h1).trans (hxy.symm.trans (hm h2))
def dE (ml:List (Int×List Int))(a b:Int):Prop:=∃ p∈ml,p.2.head?=some a∧b∈p.2
def RZ (e:En)(z:Int×Int):Prop:=e.id=z.1∧e.sum=z.2
def RM (e:En)(p:Int×List Int):Prop:=e.id=p.1∧e.many=p.2.length∧p.2.head?=some (e.fst:Int)
theorem pG {x:Int}(h : -9223372036854775808≤x∧x<9223372036854775808):wr x=x:=zk4 _ oM
theorem A9 {i:Nat}{c p:Int}:∀ {es:List En} {zl:List (Int×Int)},az RZ es zl→(∀ e∈es,wr (e.sum+p)=e.sum+p)→wr (0+p)=p→az RZ (j2 i c p es) (fQ zl c p)
 | [],[],_,_,hp=>⟨⟨rfl,hp⟩,trivial⟩
 | e::es,(a,z)::zl,h,hb,hp=>by
  obtain ⟨⟨h1,h2⟩,h3⟩:=h;have h1:e.id=a:=h1;have h2:e.sum=z:=h2;simp only[j2,fQ];by_cases hc:e.id=c
  ·rw[zf8 hc,zf8 (by rw[← h1,hc])];exact⟨⟨h1,by show wr (e.sum+p)=z+p; rw[hb e (by simp),h2]⟩,h3⟩
  ·rw[zf7 hc,zf7 (by rw[← h1]; exact fun e=>hc e.symm)];exact⟨⟨h1,h2⟩,A9 h3 (fun x hx=>hb x (by simp[hx])) hp⟩
 | [],_::_,h,_,_=>h.elim
 | _::_,[],h,_,_=>h.elim
theorem Ba {i:Nat}{c p:Int}:∀ {es:List En} {ml:List (Int×List Int)},az RM es ml→(∀ e∈es,wr (e.many+1)=e.many+1)→az RM (j2 i c p es) (fa ml c i) ∧
  ∀ a b,dE (fa ml c i) a b↔dE ml a b∨(a=iT i c es∧b=i)
 | [],[],_,_=>by
  refine⟨⟨⟨rfl,by rfl,rfl⟩,trivial⟩,fun a b=>?_⟩;constructor
  ·rintro ⟨q,hq,h1,h2⟩;simp[fa] at hq;subst hq;simp at h1 h2;exact .inr ⟨h1.symm,h2⟩
  ·rintro (⟨q,hq,_⟩ | ⟨rfl,rfl⟩)
   ·simp at hq
   ·exact⟨(c,[(i:Int)]),by simp[fa],I,by simp⟩
 | e::es,(k,l)::ml,h,hb=>by
  obtain ⟨⟨h1,h2,h4⟩,h3⟩:=h;have h1:e.id=k:=h1;have h2:e.many=l.length:=h2;have h4:l.head?=some (e.fst:Int):=h4;simp only[j2,fa,iT];by_cases hc:e.id=c
  ·rw[zf8 hc,zf8 (by rw[← h1,hc]),zf8 hc];have hh:(l++[(i:Int)]).head?=some (e.fst:Int):=by
    cases l with
    | nil=>simp at h4
    | cons x r=>simpa using h4
   refine⟨⟨⟨h1,by show wr (e.many+1)=_; rw[hb e (by simp),h2]; simp,hh⟩,h3⟩,fun a b=>?_⟩;constructor
   ·rintro ⟨q,hq,h5,h6⟩
    rcases ze8.1 hq with rfl | hq
    ·dsimp only at h5 h6;rw[hh] at h5
     rcases zf1.1 h6 with h6 | h6
     ·exact .inl ⟨(k,l),by simp,by rw[h4,h5],h6⟩
     ·simp at h6;injection h5 with h5
      exact .inr ⟨h5.symm,h6⟩
    ·exact .inl ⟨q,by simp[hq],h5,h6⟩
   ·rintro (⟨q,hq,h5,h6⟩ | ⟨rfl,rfl⟩)
    ·rcases ze8.1 hq with rfl | hq
     ·exact⟨(k,l++[(i:Int)]),by simp,by rw[hh,← h4,h5],by simp[h6]⟩
     ·exact⟨q,by simp[hq],h5,h6⟩
    ·exact⟨(k,l++[(i:Int)]),by simp,hh,by simp⟩
  ·rw[zf7 hc,zf7 (by rw[← h1]; exact fun e=>hc e.symm),zf7 hc];obtain ⟨i1,i2⟩:=Ba (i:=i) (c:=c) (p:=p) h3 fun x hx=>hb x (by simp[hx]);refine⟨⟨⟨h1,h2,h4⟩,i1⟩,fun a b=>?_⟩;have e1:∀ L,dE ((k,l)::L) a b↔(l.head?=some a∧b∈l)∨dE L a b:=fun L=>by
    unfold dE;simp
   rw[e1,e1,i2,or_assoc]
 | [],_::_,h,_=>h.elim
 | _::_,[],h,_=>h.elim
structure Sd (n t k:Nat)(es:List En)(part:List Int)(zl:List (Int×Int))(ml:List (Int×List Int)):Prop where
 z:az RZ es zl
 m:az RM es ml
 bz:∀ e∈es,-(t:Int)≤e.sum∧e.sum≤t∧0≤e.many∧e.many≤t
 bf:∀ e∈es,e.fst<k
 bm:∀ p∈ml,∀ x∈p.2,0≤x∧x<k
 len:part.length=n
 bp:∀ a,a<k→0≤part.getD a 0∧part.getD a 0<k
 cn:∀ a b:Nat,a<k→b<k→(part.getD a 0=part.getD b 0↔Cn (dE ml) a b)
theorem gf {ml:List (Int×List Int)}{k:Nat}(h:∀ p∈ml,∀ x∈p.2,0≤x∧x<(k:Int)){a b:Int}(hl:dE ml a b):(0≤a∧a<k)∧(0≤b∧b<k):=by
 obtain ⟨p,hp,h1,h2⟩:=hl;exact⟨h p hp a (List.mem_of_head? h1),h p hp b h2⟩
theorem Sd.open {n t k:Nat}{es:List En}{part:List Int}{zl:List (Int×Int)}{ml:List (Int×List Int)}(h:Sd n t k es part zl ml)(hk:k<n):Sd n t (k+1) es (part.set k k) zl ml:=by
 have hl:=h.len;have g1:(part.set k (k:Int)).getD k 0=k:=by rw[zg8,List.getElem?_set]; simp[hl,hk]
 have g2:∀ a,a≠k→(part.set k (k:Int)).getD a 0=part.getD a 0:=fun a ha=>by
  rw[zg8,zg8,List.getElem?_set,zf7 fun e=>ha e.symm]
 have iso:∀ b,¬ dE ml k b∧¬ dE ml b k:=fun b=>⟨fun e=>by have:=gf h.bm e; omega,fun e=>by have:=gf h.bm e; omega⟩;refine⟨h.z,h.m,h.bz,fun e he=>by have:=h.bf e he; omega,fun p hp x hx=>by have:=h.bm p hp x hx; omega,by simp[hl],fun a ha=>?_,fun a b ha hb=>?_⟩
 ·by_cases e:a=k
  ·subst e; rw[g1]; omega
  ·rw[g2 a e]; have:=h.bp a oM; omega
 ·by_cases e:a=k <;> by_cases e2:b=k
  ·subst e; subst e2; exact⟨fun _=>.refl _,fun _=>I⟩
  ·subst e;rw[g1,g2 b e2];have:=h.bp b oM;exact⟨fun h=>by omega,fun hc=>by have:=hc.iso iso; omega⟩
  ·subst e2;rw[g1,g2 a e];have:=h.bp a oM;exact⟨fun h=>by omega,fun hc=>by have:=hc.symm.iso iso; omega⟩
  ·rw[g2 a e,g2 b e2];exact h.cn a b oM oM
theorem jO {m:Nat}{old now:Int}{p:List Int}{a:Nat}(h:a<p.length)(hm:a<m):(dD m old now p).getD a 0=if p.getD a 0=now then old else p.getD a 0:=by
 rw[zg8,zg8];simp only[dD,List.getElem?_mapIdx,gE h,Option.map_some,Option.getD_some,hm,true_and]
theorem Ag {i:Nat}{c:Int}{es:List En}(h:∀ e∈es,e.fst<i+1):iT i c es<i+1:=by
 induction es with
 | nil=>exact Nat.lt_succ_self i
 | cons e r ih =>
  unfold iT;split
  ·exact h e (by simp)
  ·exact ih fun x hx=>h x (by simp[hx])
theorem uV {P:En→Prop}{i:Nat}{c p:Int}(hn:P (En.up ⟨c,0,0,i⟩ p))(hu:∀ e,P e→P (e.up p))(ho:∀ e,P e→P e):∀ {es:List En},(∀ e∈es,P e)→∀ e∈j2 i c p es,P e
 | [],_,e,he=>by simp[j2] at he; subst he; exact hn
 | x::r,h,e,he=>by
  unfold j2 at he;split at he
  ·rcases ze8.1 he with rfl | he
   ·exact hu x (h x (by simp))
   ·exact h e (by simp[he])
  ·rcases ze8.1 he with rfl | he
   ·exact h e (by simp)
   ·exact uV hn hu ho (fun y hy=>h y (by simp[hy])) e he
theorem vd {P:Int→Prop}{c:Int}{i:Int}(hi:P i):∀ {ml:List (Int×List Int)},(∀ p∈ml,∀ x∈p.2,P x)→∀ p∈fa ml c i,∀ x∈p.2,P x
 | [],_,p,hp,x,hx=>by simp[fa] at hp; subst hp; simp at hx; subst hx; exact hi
 | (k,l)::r,h,p,hp,x,hx=>by
  unfold fa at hp;split at hp
  ·rcases ze8.1 hp with rfl | hp
   ·rcases zf1.1 hx with hx | hx
    ·exact h (k,l) (by simp) x hx
    ·simp at hx; subst hx; exact hi
   ·exact h p (by simp[hp]) x hx
  ·rcases ze8.1 hp with rfl | hp
   ·exact h (k,l) (by simp) x hx
   ·exact vd hi (fun q hq=>h q (by simp[hq])) p hp x hx
theorem Sd.next {n t i:Nat}{es:List En}{part:List Int}{zl:List (Int×Int)}{ml:List (Int×List Int)}{x r:aj}(h:Sd n t (i+1) es part zl ml)(hi:i<n)(ht:t<1000000)(hx:x.sign=1∨x.sign = -1)(hr:r.sign=1∨r.sign = -1) :
  Sd n (t+1) (i+1) (kH i x.sign (es,part) r).1 (kH i x.sign (es,part) r).2 (kG x zl r) (eg i ml r):=by
 have hp:=um hx hr;have hw:wr (x.sign * r.sign)=x.sign * r.sign:=pG oM;unfold kH kG eg;dsimp only;rw[hw];generalize x.sign * r.sign=p at *;have hl:=h.len;have hbm:=Ba (i:=i) (c:=r.cell) (p:=p) h.m fun e he=>by have:=h.bz e he; exact pG oM
 have hf:=Ag (c:=r.cell) h.bf;refine⟨A9 h.z (fun e he=>by have:=h.bz e he; exact pG oM) (by rw[Int.zero_add]; exact pG oM),hbm.1,?_,?_,?_,by rw[kx]; exact hl,fun a ha=>?_,fun a b ha hb=>?_⟩
 ·have:∀ e∈j2 i r.cell p es,(-(t:Int)≤e.sum∧e.sum≤t∧0≤e.many∧e.many≤t)∨(-((t+1:Nat):Int)≤e.sum∧e.sum≤((t+1:Nat):Int)∧0≤e.many∧e.many≤((t+1:Nat):Int)):=by
   have h0:=h.bz;clear h hbm hf hl;generalize hes:j2 i r.cell p es=fs;intro e he;subst hes;induction es with
   | nil =>
    simp[j2] at he;subst he;right;simp only[En.up];rw[pG oM,pG oM];omega
   | cons y q ih =>
    unfold j2 at he;split at he
    ·rcases ze8.1 he with rfl | he
     ·right;have:=h0 y (by simp);simp only[En.up];rw[pG oM,pG oM];omega
     ·exact .inl (h0 e (by simp[he]))
    ·rcases ze8.1 he with rfl | he
     ·exact .inl (h0 e (by simp))
     ·exact ih (fun z hz=>h0 z (by simp[hz])) he
  intro e he
  rcases this e he with h1 | h1 <;> omega
 ·exact uV (P:=fun e=>e.fst<i+1) (Nat.lt_succ_self i) (fun e he=>he) (fun e he=>he) h.bf
 ·exact vd (P:=fun x=>0≤x∧x<((i+1:Nat):Int)) oM h.bm
 ·rw[jO oM ha];split
  ·exact h.bp _ hf
  ·exact h.bp a ha
 ·rw[jO oM ha,jO oM hb,Cn.add (x:=(iT i r.cell es:Int)) (y:=(i:Int)) hbm.2 a b];rw[← h.cn a b ha hb,← h.cn a _ ha hf,← h.cn i b oM hb,← h.cn a i ha oM,← h.cn _ b hf hb];generalize part.getD a 0=pa;generalize part.getD b 0=pb;generalize part.getD i 0=pi;generalize part.getD (iT i r.cell es) 0=pf;by_cases h1:pa=pi <;> by_cases h2:pb=pi <;> simp[h1,h2] <;> omega
theorem Sd.inner {n i:Nat}{x:aj}(hi:i<n)(hx:x.sign=1∨x.sign = -1):∀ (l:List aj) {t:Nat} {es:List En} {part:List Int} {zl:List (Int×Int)} {ml:List (Int×List Int)},Sd n t (i+1) es part zl ml→t+l.length<1000000→(∀ r∈l,r.sign=1∨r.sign = -1) →
  Sd n (t+l.length) (i+1) (l.foldl (kH i x.sign) (es,part)).1 (l.foldl (kH i x.sign) (es,part)).2 (l.foldl (kG x) zl) (l.foldl (eg i) ml)
 | [],_,_,_,_,_,h,_,_=>h
 | r::l,t,es,part,zl,ml,h,ht,hr=>by
  simp only[ze6] at ht;have h1:=h.next (x:=x) (r:=r) hi oM hx (hr r (by simp));have:=Sd.inner hi hx l h1 oM (fun q hq=>hr q (by simp[hq]));simp only[zi5,ze6];rw[show t+(l.length+1)=t+1+l.length by omega];exact this
theorem Sd.outer {tl:List Cl}{n:Nat}:∀ (l:List aj) {t k:Nat} {es:List En} {part:List Int} {zl:List (Int×Int)} {ml:List (Int×List Int)},Sd n t k es part zl ml→k+l.length≤n→t+64 * l.length<1000000→(∀ x∈l,x.sign=1∨x.sign = -1)→(∀ x∈l,(aB tl x).length≤64∧∀ r∈aB tl x,r.sign=1∨r.sign = -1) →
  ∃ t',Sd n t' (k+l.length) ((l.zipIdx k).foldl (mw tl) (es,part)).1 ((l.zipIdx k).foldl (mw tl) (es,part)).2 (l.foldl (fun zl x=>(aB tl x).foldl (kG x) zl) zl) ((l.zipIdx k).foldl (fun ml p=>(aB tl p.1).foldl (eg p.2) ml) ml)
 | [],t,_,_,_,_,_,h,_,_,_,_=>⟨t,h⟩
 | x::l,t,k,es,part,zl,ml,h,hk,ht,hs,hq=>by
  simp only[ze6] at hk ht;have h0:=hq x (by simp);have h1:=(h.open oM).inner (x:=x) oM (hs x (by simp)) (aB tl x) oM h0.2;obtain ⟨t',h2⟩:=Sd.outer l h1 oM oM (fun y hy=>hs y (by simp[hy])) (fun y hy=>hq y (by simp[hy]));refine⟨t',?_⟩;simp only[List.zipIdx_cons,zi5,ze6];rw[show k+(l.length+1)=k+1+l.length by omega];exact h2
theorem mX {α β:Type}{R:α→β→Prop}{p:α→Bool}{q:β→Bool}(h:∀ a b,R a b→p a=q b):∀ {l:List α} {m:List β},az R l m→l.any p=m.any q
 | [],[],_=>rfl
 | a::l,b::m,hr=>by simp only[List.any_cons,h a b hr.1,mX h hr.2]
 | [],_::_,hr=>hr.elim
 | _::_,[],hr=>hr.elim
theorem p8 {ml:List (Int×List Int)}(h2:∀ p∈ml,p.2.length=2)(a b:Int):Rch (i6 (cN ml)) a b↔Cn (dE ml) a b:=by
 have hstep:∀ x y,y∈ep (cN ml) x→Cn (dE ml) x y:=fun x y hy=>by
  obtain ⟨p,hp,h⟩:=(j6 ml x y).1 hy
  rcases h with h | h
  ·exact .one ⟨p,hp,by rw[h]; rfl,by rw[h]; simp⟩
  ·exact (Cn.one (E:=dE ml) ⟨p,hp,by rw[h]; rfl,by rw[h]; simp⟩).symm
 have hadj:∀ x,i6 (cN ml) x≠none:=fun x=>by simp[i6]
 constructor
 ·intro h;induction h with
  | refl _ _=>exact .refl _
  | step x y _ l hl hy _ ih =>
   simp only[i6,zg5] at hl;subst hl;exact (hstep x y hy).trans ih
 ·intro h;induction h with
  | refl a=>exact .refl a (hadj a)
  | @step x y z e _ ih =>
   have key:∀ u v,dE ml u v→v=u∨v∈ep (cN ml) u:=fun u v ⟨p,hp,h3,h4⟩=>by
    have:=h2 p hp
    match hq:p.2,this with
    | [c,d],_ =>
     rw[hq] at h3 h4;simp at h3 h4;subst h3
     rcases h4 with h4 | h4
     ·exact .inl h4
     ·exact .inr ((j6 ml c v).2 ⟨p,hp,.inl (by rw[hq,h4])⟩)
   rcases e with e | e
   ·rcases key x y e with rfl | h5
    ·exact ih
    ·exact .step x y z _ I h5 ih
   ·rcases key y x e with rfl | h5
    ·exact ih
    ·refine .step x y z _ I ?_ ih;obtain ⟨p,hp,h6⟩:=(j6 ml y x).1 h5;exact (j6 ml x y).2 ⟨p,hp,h6.symm⟩
theorem mG {l:List Int}(hn:l.Nodup)(hb:∀ x∈l,0≤x):(l.map Int.toNat).Nodup:=by
 rw[List.Nodup,zj7];refine List.Pairwise.imp_of_mem ?_ hn;intro a b ha hb' hne e;have:=hb a ha;have:=hb b hb';omega
theorem kj {l:List Int}{n:Nat}(hn:l.Nodup)(hb:∀ x∈l,0≤x∧x<(n:Int)):l.length≤n:=by
 have h1:=mG hn fun x hx=>(hb x hx).1;have:=dp (l:=List.range n) h1 List.nodup_range fun x hx=>by
  obtain ⟨y,hy,rfl⟩:=ze9.1 hx;have:=hb y hy;exact List.mem_range.2 oM
 simpa using this
theorem pS {tl:List Cl}{c:Cl}(hok:AOk tl c)(h0:0<c.sides.length):gx tl c=cC tl c:=by
 obtain ⟨h64,hs,hq⟩:=hok;have start:Sd c.sides.length 0 0 [] (List.replicate c.sides.length 0) [] []:=⟨trivial,trivial,by simp,by simp,by simp,by simp,by simp,fun a b ha=>by omega⟩;obtain ⟨t,hd⟩:=start.outer c.sides (tl:=tl) oM oM hs hq;have e1:((c.sides.zipIdx 0).foldl (mw tl) ([],List.replicate c.sides.length 0))=lj tl c.sides c.sides.length:=rfl;rw[e1] at hd;have hz:az RZ (lj tl c.sides c.sides.length).1 (fX tl c.sides):=hd.z;have hm:az RM (lj tl c.sides c.sides.length).1 (ee tl c.sides):=hd.m;unfold gx cC;rw[mX (p:=fun e=>decide (e.sum≠0)) (q:=fun p:Int×Int=>decide (p.2≠0)) (fun a b h=>by rw[h.2]) hz];rw[mX (p:=fun e=>decide (e.many≠2)) (q:=fun p:Int×List Int=>decide ((p.2.length:Int)≠2)) (fun a b h=>by rw[h.2.1]) hm];split
 ·rfl
 ·split
  ·rfl
  ·rename_i hno;have h2:∀ p∈ee tl c.sides,p.2.length=2:=fun p hp=>by
    have:=zj8.1 ((zj2 _).mp hno) p hp;simp at this;omega
   have hbm:∀ p∈ee tl c.sides,∀ x∈p.2,0≤x∧x<((0+c.sides.length:Nat):Int):=hd.bm;rw[Nat.zero_add] at hbm;have hcn:∀ a b:Nat,a<c.sides.length→b<c.sides.length→((lj tl c.sides c.sides.length).2.getD a 0=(lj tl c.sides c.sides.length).2.getD b 0↔Rch (i6 (cN (ee tl c.sides))) a b):=fun a b ha hb=>by
    rw[p8 h2];exact hd.cn a b oM oM
   have hln:=hd.len;have hmem:∀ x:Int,x∈ir (cN (ee tl c.sides))↔Rch (i6 (cN (ee tl c.sides))) 0 x:=fun x=>si (cnt:=me (cN (ee tl c.sides))) (fun v v' h=>iK h) (jT _) (zk3 (zc2 _ _)) (by simp[i6]) x;have hnd:(ir (cN (ee tl c.sides))).Nodup:=iJ _ _ _ _ (by simp);have hin:∀ x∈ir (cN (ee tl c.sides)),0≤x∧x<(c.sides.length:Int):=fun x hx=>by
    have hr:=(p8 h2 0 x).1 ((hmem x).1 hx);have:∀ a b,Cn (dE (ee tl c.sides)) a b→(0≤a∧a<(c.sides.length:Int))→(0≤b∧b<(c.sides.length:Int)):=by
     intro a b h;induction h with
     | refl _=>exact fun h=>h
     | step e _ ih =>
      intro _
      rcases e with e | e
      ·exact ih (gf hbm e).2
      ·exact ih (gf hbm e).1
    exact this 0 x hr oM
   generalize (lj tl c.sides c.sides.length).2=part at *;generalize ir (cN (ee tl c.sides))=seen at *;by_cases hall:∀ a,a<c.sides.length→part.getD a 0=part.getD 0 0
   ·have hf:part.any (fun x=>decide (x≠part.getD 0 0))=false:=by
     rw[zj8];intro x hx;obtain ⟨i,hi,rfl⟩:=zc4 hx;have:=hall i oM;rw[zg8,gE hi] at this;simpa using this
    have hlen:seen.length=c.sides.length:=by
     refine Nat.le_antisymm (kj hnd hin) ?_;have h3:=dp (m:=List.range c.sides.length) (l:=seen.map Int.toNat) List.nodup_range (mG hnd fun x hx=>(hin x hx).1) fun i hi=>by
      have hi:=List.mem_range.1 hi;exact ze9.2 ⟨(i:Int),(hmem i).2 ((hcn 0 i h0 hi).1 (hall i hi).symm),by simp⟩
     simpa using h3
    rw[hf,hlen];simp
   ·have ht:part.any (fun x=>decide (x≠part.getD 0 0))=true:=by
     simp only[Classical.not_forall] at hall;obtain ⟨a,ha,hne⟩:=hall;rw[zj3];refine⟨part.getD a 0,?_,by simpa using hne⟩;rw[zg8,gE oM];exact gM _
    have hlen:(seen.length:Int)≠c.sides.length:=by
     simp only[Classical.not_forall] at hall;obtain ⟨a,ha,hne⟩:=hall;have hna:(a:Int) ∉ seen:=fun h=>hne ((hcn 0 a h0 ha).2 ((hmem a).1 h)).symm;have:=kj (l:=(a:Int)::seen) (n:=c.sides.length) (zj5.2 ⟨hna,hnd⟩) fun x hx=>by
      rcases ze8.1 hx with rfl | hx
      ·omega
      ·exact hin x hx
     simp at this;omega
    rw[ht,zf8 rfl,zf8 hlen]
theorem cH {tl:List Cl}:∀ {l:List Cl} {n:Int},fN tl l n=none→l.Pairwise (fun a b=>a.id<b.id)∧(∀ x∈l,n<x.id)∧∀ x∈l,cz tl x=0
 | [],_,_=>⟨List.Pairwise.nil,by simp,by simp⟩
 | x::r,n,h=>by
  unfold fN at h;split at h
  ·cases h
  ·rename_i hid;split at h
   ·cases h
   ·rename_i hf;obtain ⟨h1,h2,h3⟩:=cH h;refine⟨zj6.2 ⟨h2,h1⟩,fun y hy=>?_,fun y hy=>?_⟩
    ·rcases ze8.1 hy with rfl | hy
     ·omega
     ·have:=h2 y hy; omega
    ·rcases ze8.1 hy with rfl | hy
     ·exact zg7 hf
     ·exact h3 y hy
theorem eV (l:List Cl):aF l=aX l:=by
 unfold aF aX;split
 ·rfl
 ·cases h:fN (ae l) (aa l) 0 with
  | some p=>rfl
  | none =>
   obtain ⟨h1,_,h3⟩:=cH h;have ht:=bg h1;have key:∀ m:List Cl,(∀ x∈m,x∈aa l)→ll (aa l) m=mf (ae l) m:=by
    intro m;induction m with
    | nil=>intro _; rfl
    | cons x r ih =>
     intro hm;have hx:=hm x (by simp);unfold ll mf;rw[ih fun y hy=>hm y (by simp[hy])];by_cases hd:x.dim>1
     ·have hok:=wL h3 hx;have hn:0<x.sides.length:=by
       have hf:=h3 x hx;unfold cz at hf;split at hf
       ·cases hf
       ·split at hf
        ·cases hf
        ·rename_i hc;simp[aU] at hc;have:=hc.2 hd;omega
      rw[ht] at hok ⊢;rw[pS hok hn]
     ·simp[hd]
   rw[key _ fun x hx=>hx]
set_option maxRecDepth 10000
theorem j9 {l:List Cl}(h:(aX l).2=0):fN (ae l) (aa l) 0=none:=by
 unfold aX at h;split at h
 ·simp at h
 ·cases h1:fN (ae l) (aa l) 0 with
  | none=>rfl
  | some p=>rw[h1] at h; exact absurd h (sw h1)
theorem zP (a b:List Cl):bL a b=Bk a b:=by
 have hb:cf a b=mh a b:=by
  unfold cf mh;rw[eV,eV];by_cases h1:(aX a).2=0
  ·by_cases h2:(aX b).2=0
   ·rw[bg (cH (j9 h1)).1,bg (cH (j9 h2)).1,ay,ay]
   ·simp[h2]
  ·simp[h1]
 unfold bL Bk;rw[hb,eV]
section
variable {A:List (List Int)}(hA:fU A)
include hA
end
section
variable {A B:List (List Int)}(hA:fU A)(hB:fU B)
include hA hB
end
section
variable {A B:List (List Int)}(hA:fU A)(hB:fU B)
include hA hB
end
structure Few (a:List Cl)(A:List (List Int)):Prop where
 good:fU A
 cells:a=A.map (gH A)
 small:∀ s∈A,s.length≤3
 few:A.length≤14
def ve (tl:List Cl)(l:List aj)(r:Int):Int:=(l.flatMap fun x=>(aB tl x).map fun q=>if q.cell=r then x.sign * q.sign else 0).sum
def nF (tl:List Cl)(x:aj)(r:Int):Nat:=((aB tl x).filter fun q=>decide (q.cell=r)).length
def ud (tl:List Cl)(l:List aj)(r:Int):Nat:=(l.map fun x=>nF tl x r).sum
def s3 (tl:List Cl)(l:List aj)(a b:Int):Prop:=∃ x∈l,∃ y∈l,x.cell=a∧y.cell=b∧∃ r,0<nF tl x r∧0<nF tl y r
theorem yl (zl:List (Int×Int))(k x r:Int):gF (fQ zl k x) r=gF zl r+if r=k then x else 0:=by
 induction zl with
 | nil =>
  simp only[fQ,gF];split <;> simp
 | cons p q ih =>
  obtain ⟨a,z⟩:=p;simp only[fQ];by_cases h:k=a
  ·subst h;simp only[if_true,gF];split <;> simp
  ·rw[zf7 h];simp only[gF,ih];by_cases hr:r=a
   ·subst hr;rw[zf8 rfl,zf8 rfl,zf7 fun e=>h e.symm];omega
   ·rw[zf7 hr,zf7 hr]
theorem oE (x:aj)(r:Int):∀ (l:List aj) (zl:List (Int×Int)),gF (l.foldl (kG x) zl) r=gF zl r+(l.map fun q=>if q.cell=r then x.sign * q.sign else 0).sum
 | [],zl=>by simp
 | q::l,zl=>by
  simp only[zi5,zg2,List.sum_cons];rw[oE x r l,kG,yl];by_cases h:r=q.cell
  ·rw[zf8 h,zf8 h.symm]; omega
  ·rw[zf7 h,zf7 fun e=>h e.symm]; omega
theorem qC (tl:List Cl)(l:List aj)(r:Int):gF (fX tl l) r=ve tl l r:=by
 have:∀ (l:List aj) (zl:List (Int×Int)),gF (l.foldl (fun zl x=>(aB tl x).foldl (kG x) zl) zl) r=gF zl r+ve tl l r:=by
  intro l;induction l with
  | nil=>intro zl; simp[ve]
  | cons x q ih =>
   intro zl;simp only[zi5];rw[ih,oE];simp only[ve,zh3,List.sum_append];omega
 have h:=this l [];simpa [fX,gF] using h
theorem yZ (ml:List (Int×Int))(k x:Int):(fQ ml k x).map Prod.fst=if ml.any (fun p=>decide (p.1=k)) then ml.map Prod.fst else ml.map Prod.fst++[k]:=by
 induction ml with
 | nil=>simp[fQ]
 | cons p r ih =>
  obtain ⟨a,l⟩:=p;simp only[fQ];by_cases h:k=a
  ·subst h;simp
  ·have h2:¬ a=k:=fun e=>h e.symm;rw[zf7 h];simp only[zg2,ih,List.any_cons,h2,decide_false,Bool.false_or];split <;> simp
theorem ws {ml:List (Int×Int)}(h:(ml.map Prod.fst).Nodup)(k x:Int):((fQ ml k x).map Prod.fst).Nodup:=by
 rw[yZ];split
 ·exact h
 ·rename_i hk;rw[List.nodup_append];refine⟨h,by simp,fun a ha b hb e=>hk ?_⟩;simp at hb;subst hb;obtain ⟨p,hp,hpe⟩:=ze9.1 ha;rw[zj3];exact⟨p,hp,by simp[hpe,e]⟩
theorem sI (tl:List Cl)(l:List aj):((fX tl l).map Prod.fst).Nodup:=by
 have h1:∀ (x:aj) (q:List aj) (zl:List (Int×Int)),(zl.map Prod.fst).Nodup→((q.foldl (kG x) zl).map Prod.fst).Nodup:=by
  intro x q;induction q with
  | nil=>intro zl h; exact h
  | cons r t ih=>intro zl h; exact ih _ (ws h _ _)
 have h2:∀ (q:List aj) (zl:List (Int×Int)),(zl.map Prod.fst).Nodup→((q.foldl (fun zl x=>(aB tl x).foldl (kG x) zl) zl).map Prod.fst).Nodup:=by
  intro q;induction q with
  | nil=>intro zl h; exact h
  | cons x t ih=>intro zl h; exact ih _ (h1 _ _ _ h)
 exact h2 _ _ (by simp)
theorem uH:∀ {zl:List (Int×Int)},(zl.map Prod.fst).Nodup→∀ p∈zl,gF zl p.1=p.2
 | [],_,p,hp=>by simp at hp
 | (a,z)::r,h,p,hp=>by
  simp only[zg2,zj5] at h
  rcases ze8.1 hp with rfl | hp
  ·simp[gF]
  ·simp only[gF];rw[zf7 fun e=>h.1 (ze9.2 ⟨p,hp,e⟩)];exact uH h.2 p hp
theorem qD:∀ {zl:List (Int×Int)} {k:Int},gF zl k≠0→∃ p∈zl,p.1=k∧p.2=gF zl k
 | [],_,h=>by simp[gF] at h
 | (a,z)::r,k,h=>by
  simp only[gF] at h ⊢;split
  ·rename_i e;exact⟨(a,z),by simp,e.symm,I⟩
  ·rename_i e;rw[zf7 e] at h;obtain ⟨p,hp,h1,h2⟩:=qD h;exact⟨p,by simp[hp],h1,h2⟩
theorem qm (tl:List Cl)(l:List aj):(fX tl l).any (fun p=>decide (p.2≠0))=false↔∀ r,ve tl l r=0:=by
 rw[zj8];constructor
 ·intro h r;rw[← qC];refine zg7 fun hne=>?_;obtain ⟨p,hp,_,h2⟩:=qD hne;exact h p hp (by simpa [h2] using hne)
 ·intro h p hp;have:=uH (sI tl l) p hp;rw[qC,h] at this;simp[← this]
theorem oG (i r:Int):∀ (l:List aj) (ml:List (Int×List Int)),ep (l.foldl (eg i) ml) r=ep ml r++List.replicate (l.filter fun q=>decide (q.cell=r)).length i
 | [],ml=>by simp
 | q::l,ml=>by
  simp only[zi5];rw[oG i r l,eg,qF,zi4];by_cases h:r=q.cell
  ·rw[zf8 h,zf8 (by simp[h])];simp[List.replicate_succ]
  ·rw[zf7 h,zf7 (by simp; exact fun e=>h e.symm)]
theorem uI (tl:List Cl)(l:List aj)(r:Int):ep (ee tl l) r=l.zipIdx.flatMap fun p=>List.replicate (nF tl p.1 r) (p.2:Int):=by
 have:∀ (q:List (aj×Nat)) (ml:List (Int×List Int)),ep (q.foldl (fun ml p=>(aB tl p.1).foldl (eg p.2) ml) ml) r=ep ml r++q.flatMap fun p=>List.replicate (nF tl p.1 r) (p.2:Int):=by
  intro q;induction q with
  | nil=>intro ml; simp
  | cons p t ih =>
   intro ml;simp only[zi5];rw[ih,oG];simp[nF]
 have h:=this l.zipIdx [];simpa [ee,ep] using h
theorem wZ (tl:List Cl)(l:List aj)(r:Int):(ep (ee tl l) r).length=ud tl l r:=by
 rw[uI];have:∀ (l:List aj) (k:Nat),((l.zipIdx k).flatMap fun p=>List.replicate (nF tl p.1 r) (p.2:Int)).length=ud tl l r:=by
  intro l;induction l with
  | nil=>intro k; rfl
  | cons x q ih=>intro k; simp only[List.zipIdx_cons,zh3,ze3,List.length_replicate,ih,ud,zg2,List.sum_cons]
 exact this l 0
theorem mo (tl:List Cl)(l:List aj)(r i:Int):i∈ep (ee tl l) r↔∃ k:Nat,i=k∧∃ x,l[k]?=some x∧0<nF tl x r:=by
 rw[uI,List.mem_flatMap];constructor
 ·rintro ⟨⟨x,k⟩,hp,hi⟩;obtain ⟨h1,rfl⟩:=List.mem_replicate.1 hi;refine⟨k,I,x,?_,Nat.pos_of_ne_zero h1⟩;simpa using List.mem_zipIdx_iff_getElem?.1 hp
 ·rintro ⟨k,rfl,x,hx,hh⟩;exact⟨(x,k),List.mem_zipIdx_iff_getElem?.2 (by simpa using hx),List.mem_replicate.2 ⟨Nat.ne_of_gt hh,I⟩⟩
theorem l5:∀ {ml:List (Int×List Int)},(ml.map Prod.fst).Nodup→∀ p∈ml,ep ml p.1=p.2
 | [],_,p,hp=>by simp at hp
 | (a,z)::r,h,p,hp=>by
  simp only[zg2,zj5] at h
  rcases ze8.1 hp with rfl | hp
  ·simp[ep]
  ·simp only[ep];rw[zf7 fun e=>h.1 (ze9.2 ⟨p,hp,e⟩)];exact l5 h.2 p hp
theorem mM:∀ {ml:List (Int×List Int)} {k:Int},ep ml k≠[]→∃ p∈ml,p.1=k∧p.2=ep ml k
 | [],_,h=>by simp[ep] at h
 | (a,z)::r,k,h=>by
  simp only[ep] at h ⊢;split
  ·rename_i e;exact⟨(a,z),by simp,e.symm,I⟩
  ·rename_i e;rw[zf7 e] at h;obtain ⟨p,hp,h1,h2⟩:=mM h;exact⟨p,by simp[hp],h1,h2⟩
theorem xD:∀ {ml:List (Int×List Int)} {k x:Int},(∀ p∈ml,p.2≠[])→∀ p∈fa ml k x,p.2≠[]
 | [],_,_,_,p,hp=>by simp[fa] at hp; subst hp; simp
 | (a,l)::r,k,x,h,p,hp=>by
  unfold fa at hp;split at hp
  ·rcases ze8.1 hp with rfl | hp
   ·simp
   ·exact h p (by simp[hp])
  ·rcases ze8.1 hp with rfl | hp
   ·exact h _ (by simp)
   ·exact xD (fun q hq=>h q (by simp[hq])) p hp
theorem CE (tl:List Cl)(l:List aj):∀ p∈ee tl l,p.2≠[]:=by
 have h1:∀ (i:Int) (q:List aj) (ml:List (Int×List Int)),(∀ p∈ml,p.2≠[])→∀ p∈q.foldl (eg i) ml,p.2≠[]:=by
  intro i q;induction q with
  | nil=>intro ml h; exact h
  | cons r t ih=>intro ml h; exact ih _ (xD h)
 have h2:∀ (q:List (aj×Nat)) (ml:List (Int×List Int)),(∀ p∈ml,p.2≠[])→∀ p∈q.foldl (fun ml p=>(aB tl p.1).foldl (eg p.2) ml) ml,p.2≠[]:=by
  intro q;induction q with
  | nil=>intro ml h; exact h
  | cons x t ih=>intro ml h; exact ih _ (h1 _ _ _ h)
 exact h2 _ _ (by simp)
theorem uC (tl:List Cl)(l:List aj):(ee tl l).any (fun p=>decide ((p.2.length:Int)≠2))=false↔∀ r,ud tl l r=0∨ud tl l r=2:=by
 rw[zj8];constructor
 ·intro h r;rw[← wZ];by_cases hne:ep (ee tl l) r=[]
  ·left; rw[hne]; rfl
  ·right;obtain ⟨p,hp,_,h2⟩:=mM hne;have:=h p hp;rw[h2] at this;simp at this;omega
 ·intro h p hp;have h1:=l5 (jo tl l) p hp;have h2:=h p.1;rw[← wZ,h1] at h2;have h3:=List.length_pos_iff.2 (CE tl l p hp);simp;omega
theorem CF (tl:List Cl)(l:List aj):∀ p∈ee tl l,∀ x∈p.2,0≤x∧x<(l.length:Int):=fun p hp x hx=>by
 rw[← l5 (jo tl l) p hp] at hx;obtain ⟨k,rfl,y,hy,_⟩:=(mo tl l p.1 x).1 hx;have:=(zf3.1 hy).1;omega
theorem zF {ml:List (Int×List Int)}{n:Nat}(h2:∀ p∈ml,p.2.length=2)(hb:∀ p∈ml,∀ x∈p.2,0≤x∧x<(n:Int))(h0:0<n):(ir (cN ml)).length=n↔∀ a:Nat,a<n→Cn (dE ml) 0 a:=by
 have hmem:∀ x:Int,x∈ir (cN ml)↔Rch (i6 (cN ml)) 0 x:=fun x=>si (cnt:=me (cN ml)) (fun v v' h=>iK h) (jT _) (zk3 (zc2 _ _)) (by simp[i6]) x;have hnd:(ir (cN ml)).Nodup:=iJ _ _ _ _ (by simp);have hin:∀ x∈ir (cN ml),0≤x∧x<(n:Int):=fun x hx=>by
  have hr:=(p8 h2 0 x).1 ((hmem x).1 hx);have:∀ a b,Cn (dE ml) a b→(0≤a∧a<(n:Int))→(0≤b∧b<(n:Int)):=by
   intro a b h;induction h with
   | refl _=>exact fun h=>h
   | step e _ ih =>
    intro _
    rcases e with e | e
    ·exact ih (gf hb e).2
    ·exact ih (gf hb e).1
  exact this 0 x hr oM
 generalize ir (cN ml)=seen at *;constructor
 ·intro hl a ha;refine Classical.byContradiction fun hne=>?_;have hna:(a:Int) ∉ seen:=fun h=>hne ((p8 h2 0 a).1 ((hmem a).1 h));have:=kj (l:=(a:Int)::seen) (n:=n) (zj5.2 ⟨hna,hnd⟩) fun x hx=>by
   rcases ze8.1 hx with rfl | hx
   ·omega
   ·exact hin x hx
  simp at this;omega
 ·intro hall;refine Nat.le_antisymm (kj hnd hin) ?_;have h3:=dp (m:=List.range n) (l:=seen.map Int.toNat) List.nodup_range (mG hnd fun x hx=>(hin x hx).1) fun i hi=>by
   have hi:=List.mem_range.1 hi;exact ze9.2 ⟨(i:Int),(hmem i).2 ((p8 h2 0 i).2 (hall i hi)),by simp⟩
  simpa using h3
theorem Cn.map {E E':Int→Int→Prop}{f:Int→Int}(h:∀ a b,E a b→Cn E' (f a) (f b)){a b:Int}(hc:Cn E a b):Cn E' (f a) (f b):=by
 induction hc with
 | refl _=>exact .refl _
 | step e _ ih =>
  rcases e with e | e
  ·exact (h _ _ e).trans ih
  ·exact (h _ _ e).symm.trans ih
theorem oW {tl:List Cl}{c:Cl}(h0:0<c.sides.length)(hnd:(c.sides.map aj.cell).Nodup) :
  cC tl c=0↔(∀ r,ve tl c.sides r=0)∧(∀ r,ud tl c.sides r=0∨ud tl c.sides r=2)∧∀ x∈c.sides,∀ y∈c.sides,Cn (s3 tl c.sides) x.cell y.cell:=by
 unfold cC;generalize c.sides=l at *;by_cases hs:(fX tl l).any (fun p=>decide (p.2≠0))=false
 ·rw[zf7 (by rw[hs]; simp)];by_cases hm:(ee tl l).any (fun p=>decide ((p.2.length:Int)≠2))=false
  ·rw[zf7 (by rw[hm]; simp)];have h2:∀ p∈ee tl l,p.2.length=2:=fun p hp=>by
    have:=zj8.1 hm p hp;simp at this;omega
   have hsa:=zF h2 (CF tl l) h0;have hinj:∀ {i j:Nat} {x y:aj},l[i]?=some x→l[j]?=some y→x.cell=y.cell→i=j:=fun {i j x y} hi hj e=>by
    obtain ⟨i1,e1⟩:=zf3.1 hi;obtain ⟨i2,e2⟩:=zf3.1 hj;have key:∀ {a b:Nat} (ha:a<l.length) (hb:b<l.length),a<b→l[a].cell≠l[b].cell:=fun {a b} ha hb h=>by
     have:=zc6.1 hnd a b (by simpa using ha) (by simpa using hb) h;simpa using this
    rcases Nat.lt_trichotomy i j with h | h | h
    ·exact absurd (by rw[e1,e2]; exact e) (key i1 i2 h)
    ·exact h
    ·exact absurd (by rw[e1,e2]; exact e.symm) (key i2 i1 h)
   have hconn:(∀ a:Nat,a<l.length→Cn (dE (ee tl l)) 0 a)↔∀ x∈l,∀ y∈l,Cn (s3 tl l) x.cell y.cell:=by
    constructor
    ·intro hall x hx y hy;obtain ⟨i,hi,rfl⟩:=zc4 hx;obtain ⟨j,hj,rfl⟩:=zc4 hy;have hc:=(hall i hi).symm.trans (hall j hj);have:=hc.map (f:=fun a=>(l.getD a.toNat ⟨0,0⟩).cell) (E':=s3 tl l) fun a b hl=>by
      obtain ⟨p,hp,h3,h4⟩:=hl;rw[← l5 (jo tl l) p hp] at h3 h4;obtain ⟨k,rfl,x,hx,hh⟩:=(mo tl l p.1 a).1 (List.mem_of_head? h3);obtain ⟨m,rfl,y,hy,hh2⟩:=(mo tl l p.1 b).1 h4;refine .one ⟨x,zf9 hx,y,zf9 hy,?_,?_,p.1,hh,hh2⟩
      ·simp[zg8,hx]
      ·simp[zg8,hy]
     simpa [zg8,hi,hj] using this
    ·intro hall;have key:∀ a b,Cn (s3 tl l) a b→∀ (i:Nat) (x:aj),l[i]?=some x→x.cell=a→∀ (j:Nat) (y:aj),l[j]?=some y→y.cell=b→Cn (dE (ee tl l)) (i:Int) (j:Int):=by
      have one:∀ {a b:Int},s3 tl l a b→∀ (i:Nat) (x:aj),l[i]?=some x→x.cell=a→∃ (j:Nat) (y:aj),l[j]?=some y∧y.cell=b∧Cn (dE (ee tl l)) (i:Int) (j:Int):=by
       rintro a b ⟨x',hx',y,hy,rfl,rfl,r,h3,h4⟩ i x hi he;obtain ⟨i',hi',rfl⟩:=zc4 hx';obtain ⟨j,hj,rfl⟩:=zc4 hy;have hii:=hinj hi (gE hi') he;subst hii;refine⟨j,l[j],gE hj,I,?_⟩;have m1:=(mo tl l r i).2 ⟨i,rfl,l[i],gE hi',h3⟩;have m2:=(mo tl l r j).2 ⟨j,rfl,l[j],gE hj,h4⟩;obtain ⟨p,hp,_,hp2⟩:=mM (ml:=ee tl l) (k:=r) fun e=>by rw[e] at m1; simp at m1
       rw[← hp2] at m1 m2;cases hh:p.2 with
       | nil=>rw[hh] at m1; simp at m1
       | cons u q =>
        have hu:∀ v∈p.2,dE (ee tl l) u v:=fun v hv=>⟨p,hp,by rw[hh]; rfl,hv⟩;exact (Cn.one (hu _ m1)).symm.trans (Cn.one (hu _ m2))
      intro a b hc;induction hc with
      | refl a =>
       intro i x hi he j y hj he2;have:=hinj hi hj (he.trans he2.symm);subst this;exact .refl _
      | step e _ ih =>
       intro i x hi he j y hj he2;have e':s3 tl l _ _:=e.elim (fun e=>e) fun ⟨x,hx,y,hy,h1,h2,r,h3,h4⟩=>⟨y,hy,x,hx,h2,h1,r,h4,h3⟩;obtain ⟨k,z,hk,hz,hc⟩:=one e' i x hi he;exact hc.trans (ih k z hk hz j y hj he2)
     intro a ha;exact key _ _ (hall _ (gM h0) _ (gM ha)) 0 _ (gE h0) I a _ (gE ha) I
   rw[← hconn,← hsa];constructor
   ·intro h;refine⟨(qm tl l).1 hs,(uC tl l).1 hm,?_⟩;refine zg7 fun hne=>?_;rw[zf8 oM] at h;exact absurd h dC
   ·rintro ⟨_,_,h⟩;rw[zf7 oM]
  ·have hm':(ee tl l).any (fun p=>decide ((p.2.length:Int)≠2))=true:=by simpa using hm
   rw[zf8 hm'];exact⟨fun h=>absurd h dC,fun h=>absurd ((uC tl l).2 h.2.1) hm⟩
 ·have hs':(fX tl l).any (fun p=>decide (p.2≠0))=true:=by simpa using hs
  rw[zf8 hs'];exact⟨fun h=>absurd h dC,fun h=>absurd ((qm tl l).2 h.1) hs⟩
structure Fm (tl:List Cl)(c:Cl):Prop where
 dim:0≤c.dim∧c.dim≤8
 cnt:aU c=false
 found:∀ x∈c.sides,∃ d,aJ tl x.cell=some d∧d.dim=c.dim - 1
 asc:c.sides.Pairwise fun a b=>a.cell<b.cell
 sg:∀ x∈c.sides,x.sign=1∨x.sign = -1
 one:c.dim=1→nA c.sides=0
theorem CQ {l:List aj}(hs:l.Pairwise fun a b=>a.cell≤b.cell)(hd:∀ i x y,l[i]?=some x→l[i+1]?=some y→x.cell≠y.cell):l.Pairwise fun a b=>a.cell<b.cell:=by
 induction l with
 | nil=>exact List.Pairwise.nil
 | cons a r ih =>
  obtain ⟨h1,h2⟩:=zj6.1 hs;have hr:=ih h2 fun i x y hx hy=>hd (i+1) x y (by simpa using hx) (by simpa using hy);refine zj6.2 ⟨fun b hb=>?_,hr⟩;cases r with
  | nil=>simp at hb
  | cons z q =>
   have hz:a.cell<z.cell:=by
    have:=h1 z (by simp);have:=hd 0 a z rfl rfl;omega
   rcases ze8.1 hb with rfl | hb
   ·exact hz
   ·have:=(zj6.1 hr).1 b hb;omega
theorem C2 {tl:List Cl}{c:Cl}(h:cz tl c=0)(hs:c.sides.Pairwise fun a b=>a.cell≤b.cell):Fm tl c:=by
 unfold cz at h;split at h
 ·cases h
 ·rename_i h1;split at h
  ·cases h
  ·rename_i h2;split at h
   ·cases h
   ·rename_i h3;split at h
    ·cases h
    ·rename_i h4;split at h
     ·cases h
     ·rename_i h5;have hbad:∀ i x,c.sides[i]?=some x→cu tl c i x=false:=fun i x hx=>by
       have hi:=(zf3.1 hx).1;have:=zj8.1 ((zj2 _).mp h3) i (List.mem_range.2 hi);unfold iU at this;rw[hx] at this;simpa using this
      refine⟨?_,by simpa using h2,fun x hx=>?_,CQ hs fun i x y hx hy e=>?_,fun x hx=>?_,fun hd=>?_⟩
      ·simp[fv] at h1; omega
      ·obtain ⟨i,hi,rfl⟩:=zc4 hx;have:=hbad i _ (gE hi);unfold cu at this;simp only[Bool.or_eq_false_iff,Bool.not_eq_false',decide_eq_false_iff_not,ne_eq,Decidable.not_not] at this;obtain ⟨⟨g1,g2⟩,_⟩:=this;obtain ⟨d,hd⟩:=zh6.1 g1;rw[hd] at g2;exact⟨d,hd,g2⟩
      ·have:=hbad (i+1) y hy;unfold cu at this;rw[show i+1 - 1=i by omega,hx] at this;simp[e] at this
      ·have:=zj8.1 ((zj2 _).mp h4) x hx;simp[bZ] at this;by_cases h6:x.sign=1
       ·exact .inl h6
       ·exact .inr (this h6)
      ·simpa [hd] using h5
structure Rt (l:List Cl):Prop where
 few:l.length≤4000
 asc:l.Pairwise fun a b=>a.id<b.id
 pos:∀ x∈l,0<x.id
 form:∀ x∈l,Fm l x
 around:∀ x∈l,x.dim>1→cC l x=0
theorem Rt.canon {l:List Cl}(h:Rt l):aa l=l:=by
 unfold aa;rw[(dK (key:=Cl.id) (h.asc.imp fun h=>by omega) (aN.refl l)).symm];have:∀ c∈l,cG c=c:=fun c hc=>by
  unfold cG;rw[(dK (key:=aj.cell) ((h.form c hc).asc.imp fun h=>by omega) (aN.refl c.sides)).symm]
 rw[zc5 this];simp
theorem Rt.tab {l:List Cl}(h:Rt l):ae l=l:=by rw[bg (by rw[h.canon]; exact h.asc),h.canon]
theorem Rt.find {l:List Cl}(h:Rt l){c:Cl}(hc:c∈l):aJ l c.id=some c:=by
 refine pA ?_ hc;rw[List.Nodup,zj7];exact h.asc.imp fun h=>by omega
theorem jC {tl:List Cl}:∀ {l:List Cl},mf tl l=none→∀ x∈l,x.dim>1→cC tl x=0
 | [],_,x,hx,_=>by simp at hx
 | y::r,h,x,hx,hd=>by
  unfold mf at h;split at h
  ·cases h
  ·rename_i hn
   rcases ze8.1 hx with rfl | hx
   ·exact zg7 fun h=>hn ⟨hd,h⟩
   ·exact jC h x hx hd
theorem qO {tl:List Cl}:∀ {l:List Cl} {p:Int×Int},mf tl l=some p→p.2≠0
 | [],_,h=>by cases h
 | y::r,p,h=>by
  unfold mf at h;split at h
  ·rename_i hn; cases h; exact hn.2
  ·exact qO h
theorem tK (l:List Cl):∀ c∈aa l,c.sides.Pairwise fun a b=>a.cell≤b.cell:=fun c hc=>by
 obtain ⟨d,_,rfl⟩:=ze9.1 hc;exact dV d.sides
theorem jN {l:List Cl}(h:(aX l).2=0):Rt (aa l):=by
 have h1:=j9 h;obtain ⟨h2,h3,h4⟩:=cH h1;have ht:=bg h2;have h5:l.length≤4000:=yS h;refine⟨by rw[ay]; exact h5,h2,h3,fun x hx=>C2 (by rw[← ht]; exact h4 x hx) (tK l x hx),?_⟩;have h6:mf (ae l) (aa l)=none:=by
  unfold aX at h;rw[zf7 oM,h1] at h;cases hc:mf (ae l) (aa l) with
  | none=>rfl
  | some p =>
   rw[hc] at h;exact absurd h (qO hc)
 rw[ht] at h6;exact jC h6
theorem mD {l m:List Int}(h:l.Perm m):l.sum=m.sum:=by
 induction h with
 | nil=>rfl
 | cons x _ ih=>simp[ih]
 | swap x y l=>simp; omega
 | trans _ _ ih1 ih2=>exact ih1.trans ih2
theorem x2 {l m:List Nat}(h:l.Perm m):l.sum=m.sum:=by
 induction h with
 | nil=>rfl
 | cons x _ ih=>simp[ih]
 | swap x y l=>simp; omega
 | trans _ _ ih1 ih2=>exact ih1.trans ih2
theorem m7 {α:Type}{key:α→Int}(l:List α):(sortBy key l).Perm l:=by
 have hi:∀ (x:α) (l:List α),(ins key x l).Perm (x::l):=by
  intro x l;induction l with
  | nil=>exact .refl _
  | cons y r ih =>
   unfold ins;split
   ·exact .refl _
   ·exact (ih.cons y).trans (.swap x y r)
 induction l with
 | nil=>exact .refl _
 | cons x r ih=>exact (hi x _).trans (ih.cons x)
def inner (tl:List Cl)(x:aj)(r:Int):Int:=((aB tl x).map fun q=>if q.cell=r then x.sign * q.sign else 0).sum
theorem ji (tl:List Cl)(l:List aj)(r:Int):ve tl l r=(l.map fun x=>inner tl x r).sum:=by
 unfold ve;induction l with
 | nil=>rfl
 | cons x q ih=>simp only[zh3,List.sum_append,zg2,List.sum_cons,ih]; rfl
theorem xL {tl:List Cl}{l m:List aj}(h:l.Perm m)(r:Int):ve tl l r=ve tl m r:=by
 rw[ji,ji];exact mD (h.map _)
theorem yK {tl:List Cl}{l m:List aj}(h:l.Perm m)(r:Int):ud tl l r=ud tl m r:=x2 (h.map _)
def sgn (b:Bool):Int:=if b then -1 else 1
theorem qx (b:Bool){a:Int}(h:a=1∨a = -1):ry b a=sgn b * a∧(ry b a=1∨ry b a = -1):=by
 rcases h with rfl | rfl <;> cases b <;> exact⟨by decide,by decide⟩
theorem iE {α:Type}{l:List α}{f g:α→Int}{K:Int}(h:∀ x∈l,f x=K * g x):(l.map f).sum=K * (l.map g).sum:=by
 induction l with
 | nil=>simp
 | cons x r ih =>
  simp only[zg2,List.sum_cons];rw[h x (by simp),ih fun y hy=>h y (by simp[hy]),Int.mul_add]
structure Nm (l:List Cl)(k:Int):Prop where
 inj:∀ a∈l,∀ b∈l,dM a.id k=dM b.id k→a=b
 pos:∀ a∈l,0<dM a.id k
section
variable {l:List Cl}(h:Rt l){k:Int}(hn:Nm l k)(t:Int)
include h hn
omit hn in
theorem fe (c:Cl)(hc:c∈l){x:aj}(hx:x∈c.sides):∃ d∈l,d.id=x.cell∧aJ l x.cell=some d∧d.dim=c.dim - 1:=by
 obtain ⟨d,hd,hdd⟩:=(h.form c hc).found x hx;obtain ⟨h1,h2⟩:=cI hd;exact⟨d,h1,h2,hd,hdd⟩
theorem BJ:((l.map (aH k t)).map Cl.id).Nodup:=by
 rw[zi3,List.Nodup,zj7];refine List.Pairwise.imp_of_mem ?_ h.asc;intro a b ha hb hlt e;have:=hn.inj a ha b hb e;subst this;omega
theorem qv:((aa (l.map (aH k t))).map Cl.id).Nodup:=by
 have h1:=BJ h hn t;have h2:((aa (l.map (aH k t))).map Cl.id).Perm ((l.map (aH k t)).map Cl.id):=by
  rw[oS];exact (m7 _).map _
 exact h2.symm.nodup h1
omit h hn in
theorem BI {c:Cl}(hc:c∈l):cG (aH k t c)∈aa (l.map (aH k t)) :=
 ze9.2 ⟨_,(dy _ _).2 (ze9.2 ⟨c,hc,rfl⟩),rfl⟩
omit h hn in
theorem mr {c':Cl}(hc:c'∈aa (l.map (aH k t))):∃ c∈l,c'=cG (aH k t c):=by
 obtain ⟨d,hd,rfl⟩:=ze9.1 hc;obtain ⟨c,hc',rfl⟩:=ze9.1 ((dy _ _).1 hd);exact⟨c,hc',I⟩
theorem lT {c:Cl}(hc:c∈l):aJ (aa (l.map (aH k t))) (dM c.id k)=some (cG (aH k t c)) :=
 pA (x:=cG (aH k t c)) (qv h hn t) (BI t hc)
omit h hn in
theorem ef (c:Cl):(cG (aH k t c)).sides.Perm (c.sides.map (be k t c)):=m7 _
omit hn in
theorem lQ {c:Cl}(hc:c∈l){x:aj}(hx:x∈c.sides):(be k t c x).sign=sgn (gO t c x.cell) * (sgn (ij t c) * x.sign)∧((be k t c x).sign=1∨(be k t c x).sign = -1):=by
 have h1:=qx (ij t c) ((h.form c hc).sg x hx);have h2:=qx (gO t c x.cell) h1.2;exact⟨by rw[← h1.1]; exact h2.1,h2.2⟩
theorem ux {c:Cl}(hc:c∈l):Fm (aa (l.map (aH k t))) (cG (aH k t c)):=by
 have hf:=h.form c hc;have hlen:(cG (aH k t c)).sides.length=c.sides.length:=by rw[(ef t c).length_eq,ze4]
 have hmem:∀ x',x'∈(cG (aH k t c)).sides↔∃ x∈c.sides,be k t c x=x':=fun x'=>by rw[(ef t c).mem_iff,ze9]
 refine⟨hf.dim,?_,fun x' hx'=>?_,?_,fun x' hx'=>?_,fun hd=>?_⟩
 ·have:=hf.cnt;unfold aU at this ⊢;rw[hlen];exact this
 ·obtain ⟨x,hx,rfl⟩:=(hmem x').1 hx';obtain ⟨d,hd,hid,_,hdd⟩:=fe h c hc hx;have:=lT h hn t hd;rw[hid] at this;exact⟨_,this,hdd⟩
 ·have h1:(cG (aH k t c)).sides.Pairwise fun a b=>a.cell≤b.cell:=dV _;have h2:((cG (aH k t c)).sides.map aj.cell).Nodup:=by
   refine ((ef t c).map aj.cell).symm.nodup ?_;rw[zi3,List.Nodup,zj7];refine List.Pairwise.imp_of_mem ?_ hf.asc;intro a b ha hb hlt e;obtain ⟨d,hd,hid,_⟩:=fe h c hc ha;obtain ⟨d',hd',hid',_⟩:=fe h c hc hb;have e:dM a.cell k=dM b.cell k:=e;rw[← hid,← hid'] at e;have:=hn.inj d hd d' hd' e;subst this;omega
  rw[List.Nodup,zj7] at h2;exact (h1.and h2).imp fun ⟨h3,h4⟩=>by omega
 ·obtain ⟨x,hx,rfl⟩:=(hmem x').1 hx';exact (lQ h t hc hx).2
 ·have hd:c.dim=1:=hd;have h1:=hf.one hd;unfold nA at h1 ⊢;rw[mD ((ef t c).map aj.sign),zi3];rw[iE (g:=aj.sign) (K:=sgn (ij t c)) fun x hx=>?_,h1,Int.mul_zero];have h2:=(lQ (k:=k) h t hc hx).1;have h3:gO t c x.cell=false:=by unfold gO; simp[hd]
  rw[h3] at h2;show (be k t c x).sign=_;rw[h2];unfold sgn;simp
theorem pk {c:Cl}(hc:c∈l){x:aj}(hx:x∈c.sides){e:Cl}(he:e∈l):nF (aa (l.map (aH k t))) (be k t c x) (dM e.id k)=nF l x e.id:=by
 obtain ⟨d,hd,hid,hfd,_⟩:=fe h c hc hx;unfold nF aB;rw[hfd,show (be k t c x).cell=dM d.id k by rw[hid]; rfl,lT h hn t hd];show ((cG (aH k t d)).sides.filter _).length=_;rw[((ef t d).filter _).length_eq,List.filter_map,ze4];congr 1;refine List.filter_congr fun q hq=>?_;obtain ⟨u,hu,hui,_⟩:=fe h d hd hq;show decide (dM q.cell k=dM e.id k)=decide (q.cell=e.id);rw[decide_eq_decide,← hui];by_cases hue:u=e
 ·subst hue; simp
 ·have h1:¬ dM u.id k=dM e.id k:=fun e'=>hue (hn.inj u hu e he e');have h2:¬ u.id=e.id:=fun e'=>hue (by have a1:=h.find hu; have a2:=h.find he; rw[e',a2] at a1; injection a1 with a1; exact a1.symm);simp[h1,h2]
theorem ne {c:Cl}(hc:c∈l){x:aj}(hx:x∈c.sides){r:Int}(hr:∀ e∈l,dM e.id k≠r):nF (aa (l.map (aH k t))) (be k t c x) r=0:=by
 obtain ⟨d,hd,hid,hfd,_⟩:=fe h c hc hx;unfold nF aB;rw[show (be k t c x).cell=dM d.id k by rw[hid]; rfl,lT h hn t hd];show ((cG (aH k t d)).sides.filter _).length=_;rw[((ef t d).filter _).length_eq,List.length_eq_zero_iff,List.filter_eq_nil_iff];intro q' hq';obtain ⟨q,hq,rfl⟩:=ze9.1 hq';obtain ⟨u,hu,hui,_⟩:=fe h d hd hq;have:=hr u hu;rw[hui] at this;show ¬ decide (dM q.cell k=r)=true;simpa using this
theorem xY {c:Cl}(hc:c∈l)(hd1:c.dim>1){x:aj}(hx:x∈c.sides){e:Cl}(he:e∈l) :
  inner (aa (l.map (aH k t))) (be k t c x) (dM e.id k)=sgn (ij t c) * sgn ((decide (t>1)&&decide (c.dim - 1>1))&&decide (e.id.tmod t=1)) * inner l x e.id:=by
 obtain ⟨d,hd,hid,hfd,hdd⟩:=fe h c hc hx;have hsx:=(lQ (k:=k) h t hc hx).1;unfold inner aB;rw[hfd,show (be k t c x).cell=dM d.id k by rw[hid]; rfl,lT h hn t hd];show ((cG (aH k t d)).sides.map _).sum=_;rw[mD ((ef t d).map _),zi3];show _=_ * (d.sides.map _).sum;refine iE fun q hq=>?_;obtain ⟨u,hu,hui,_⟩:=fe h d hd hq;have hsq:=(lQ (k:=k) h t hd hq).1;simp only[Function.comp_def];show (if dM q.cell k=dM e.id k then (be k t c x).sign * (be k t d q).sign else 0)=_;by_cases hue:u=e
 ·subst hue;rw[hui,zf8 rfl,zf8 rfl,hsx,hsq];have h1:gO t c x.cell=ij t d:=by
   unfold gO ij;rw[hid];simp[hd1]
  have h2:gO t d q.cell=((decide (t>1)&&decide (c.dim - 1>1))&&decide (q.cell.tmod t=1)):=by
   unfold gO;rw[hdd]
  rw[h1,h2];generalize ij t d=b1;generalize ij t c=b2;generalize ((decide (t>1)&&decide (c.dim - 1>1))&&decide (q.cell.tmod t=1))=b3;cases b1 <;> cases b2 <;> cases b3 <;> simp[sgn,Int.neg_mul,Int.mul_neg]
 ·have h1:¬ dM q.cell k=dM e.id k:=fun e'=>hue (hn.inj u hu e he (by rw[hui]; exact e'));have h2:¬ q.cell=e.id:=fun e'=>hue (by have a1:=h.find hu; have a2:=h.find he; rw[hui,e',a2] at a1; injection a1 with a1; exact a1.symm);rw[zf7 h1,zf7 h2,Int.mul_zero]
omit h hn in
theorem Ac {tl:List Cl}{x:aj}{r:Int}(h0:nF tl x r=0):inner tl x r=0:=by
 unfold nF at h0;rw[List.length_eq_zero_iff,List.filter_eq_nil_iff] at h0;unfold inner;have:((aB tl x).map fun q=>if q.cell=r then x.sign * q.sign else 0)=(aB tl x).map fun _=>(0:Int):=zc5 fun q hq=>zf7 (by simpa using h0 q hq);rw[this];generalize aB tl x=m;induction m with
 | nil=>rfl
 | cons a b ih=>simpa using ih
theorem vG {c:Cl}(hc:c∈l)(hd1:c.dim>1):cC (aa (l.map (aH k t))) (cG (aH k t c))=0:=by
 have hf:=h.form c hc;have hf':=ux h hn t hc;have hn0:0<c.sides.length:=by
  have:=hf.cnt;simp[aU] at this;have:=this.2 hd1;omega
 have hlen:(cG (aH k t c)).sides.length=c.sides.length:=by rw[(ef t c).length_eq,ze4]
 have nd:∀ {c:Cl},(c.sides.Pairwise fun a b=>a.cell<b.cell)→(c.sides.map aj.cell).Nodup:=fun h=>by
  rw[List.Nodup,zj7];exact h.imp fun h=>by omega
 obtain ⟨a1,a2,a3⟩:=(oW hn0 (nd hf.asc)).1 (h.around c hc hd1);refine (oW (by rw[hlen]; exact hn0) (nd hf'.asc)).2 ⟨fun r=>?_,fun r=>?_,fun x' hx' y' hy'=>?_⟩
 ·rw[xL (ef t c),ji,zi3];simp only[Function.comp_def];by_cases hr:∃ e∈l,dM e.id k=r
  ·obtain ⟨e,he,rfl⟩:=hr;have h1:=a1 e.id;rw[ji] at h1;rw[iE (g:=fun x=>inner l x e.id) (K:=sgn (ij t c) * sgn ((decide (t>1)&&decide (c.dim - 1>1))&&decide (e.id.tmod t=1))) fun x hx=>xY h hn t hc hd1 hx he,h1,Int.mul_zero]
  ·have hr:∀ e∈l,dM e.id k≠r:=fun e he e'=>hr ⟨e,he,e'⟩;rw[iE (g:=fun _=>(0:Int)) (K:=0) fun x hx=>by
    rw[Ac (ne h hn t hc hx hr)];rfl,Int.zero_mul]
 ·rw[yK (ef t c)];unfold ud;rw[zi3];simp only[Function.comp_def];by_cases hr:∃ e∈l,dM e.id k=r
  ·obtain ⟨e,he,rfl⟩:=hr;have h1:=a2 e.id;unfold ud at h1;rw[zc5 (g:=fun x=>nF l x e.id) fun x hx=>pk h hn t hc hx he];exact h1
  ·have hr:∀ e∈l,dM e.id k≠r:=fun e he e'=>hr ⟨e,he,e'⟩;left;rw[zc5 (g:=fun _=>0) fun x hx=>ne h hn t hc hx hr];generalize c.sides=m;induction m with
   | nil=>rfl
   | cons a b ih=>simpa using ih
 ·have hmem:∀ x',x'∈(cG (aH k t c)).sides↔x'∈c.sides.map (be k t c):=fun x'=>(ef t c).mem_iff;obtain ⟨x,hx,rfl⟩:=ze9.1 ((hmem x').1 hx');obtain ⟨y,hy,rfl⟩:=ze9.1 ((hmem y').1 hy');have hm:∀ x∈c.sides,be k t c x∈(cG (aH k t c)).sides:=fun x hx=>(hmem _).2 (ze9.2 ⟨x,hx,rfl⟩);refine (a3 x hx y hy).map (f:=fun a=>dM a k) fun a b=>?_;rintro ⟨u,hu,v,hv,rfl,rfl,r,h1,h2⟩;obtain ⟨du,hdu,hidu,hfu,_⟩:=fe h c hc hu;have hr:∃ e∈l,e.id=r:=by
   unfold nF aB at h1;rw[hfu] at h1;obtain ⟨q,hq⟩:=List.exists_mem_of_length_pos h1;obtain ⟨hq1,hq2⟩:=zh2.1 hq;obtain ⟨e,he,hei,_⟩:=fe h du hdu (x:=q) hq1;exact⟨e,he,by rw[hei]; simpa using hq2⟩
  obtain ⟨e,he,rfl⟩:=hr;exact .one ⟨_,hm u hu,_,hm v hv,I,I,dM e.id k,by rw[pk h hn t hc hu he]; exact h1,by rw[pk h hn t hc hv he]; exact h2⟩
theorem xX:Rt (aa (l.map (aH k t))):=by
 refine⟨by rw[ay,ze4]; exact h.few,?_,fun x' hx'=>?_,fun x' hx'=>?_,fun x' hx' hd=>?_⟩
 ·have h1:=ii (l.map (aH k t));have h2:=qv h hn t;rw[zj7] at h1;rw[List.Nodup,zj7] at h2;exact (h1.and h2).imp fun ⟨h3,h4⟩=>by omega
 ·obtain ⟨c,hc,rfl⟩:=mr t hx';exact hn.pos c hc
 ·obtain ⟨c,hc,rfl⟩:=mr t hx';exact ux h hn t hc
 ·obtain ⟨c,hc,rfl⟩:=mr t hx';exact vG h hn t hc hd
end
set_option maxRecDepth 100000
def Bd (l:List Cl):Prop:=∀ c∈l,c.id≤l.length
theorem wU (ls:List (List Int)):Rt (bQ ls)∧Bd (bQ ls):=by
 have h1:=jN (l:=bQ ls) (by rw[m9]);have h2:aa (bQ ls)=bQ ls:=by
  unfold bQ;cases aG [] ls with
  | none=>rfl
  | some all=>exact eI _
 rw[h2] at h1;refine⟨h1,?_⟩;unfold bQ;cases h:aG [] ls with
 | none=>intro c hc; simp at hc
 | some all =>
  obtain ⟨hg,_⟩:=fG ls [] h fU.nil (by simp);dsimp only;rw[hg.cells];intro c hc;obtain ⟨s,hs,rfl⟩:=ze9.1 hc;have:=(zf3.1 (hg.get_lb hs)).1;show ixC all s≤_;unfold ixC;rw[ze4];omega
theorem A4 {l:List Int}{x:Int}(h:x∈l):lbI l x<l.length:=by
 unfold lbI;induction l with
 | nil=>simp at h
 | cons a r ih =>
  rw[zi4]
  rcases ze8.1 h with rfl | h
  ·have:=zc2 (fun y=>decide (y<x)) r;simp;omega
  ·have:=ih h;split
   ·simp only[ze6]; omega
   ·simp only[ze6]; omega
theorem se (a b:List Cl):Rt (bL a b)∧Bd (bL a b)∧(bL a b).length≤a.length * b.length:=by
 rw[zP];unfold Bk;split
 ·exact⟨⟨by simp,List.Pairwise.nil,by simp,by simp,by simp⟩,fun c hc=>by simp at hc,by simp⟩
 ·rename_i hbad;split
  ·rename_i hok;have hlen:(aa (cU a b)).length=a.length * b.length:=by
    rw[ay];unfold cU;rw[gY,ay,ay]
   refine⟨jN hok,fun c hc=>?_,by rw[hlen]; exact lR _⟩;rw[hlen];obtain ⟨h1,h2,_⟩:=vK (by simpa using hbad);have ta:=bg (cH (j9 h1)).1;have tb:=bg (cH (j9 h2)).1;obtain ⟨d,hd,rfl⟩:=ze9.1 hc;have hd:=(dy _ _).1 hd;unfold cU at hd;rw[ta,tb] at hd;obtain ⟨x,hx,hd⟩:=List.mem_flatMap.1 hd;obtain ⟨y,hy,rfl⟩:=ze9.1 hd;have l1:=A4 (ze9.2 ⟨x,hx,rfl⟩:x.id∈(aa a).map Cl.id);have l2:=A4 (ze9.2 ⟨y,hy,rfl⟩:y.id∈(aa b).map Cl.id);rw[ze4,ay] at l1 l2;show a6 (aa a) (aa b) x.id y.id≤_;unfold a6;rw[ay];have h3:(lbI ((aa a).map Cl.id) x.id+1) * b.length≤a.length * b.length:=Nat.mul_le_mul_right _ l1;rw[Nat.succ_mul] at h3;have h4:((lbI ((aa a).map Cl.id) x.id * b.length:Nat):Int)=(lbI ((aa a).map Cl.id) x.id:Int) * (b.length:Int):=Int.natCast_mul _ _;rw[← h4];omega
  ·exact⟨⟨by simp,List.Pairwise.nil,by simp,by simp,by simp⟩,fun c hc=>by simp at hc,by simp⟩
theorem vL:∀ n,n<7→2≤n→(aX (ru n)).2=0∧∀ c∈ru n,c.id≤90:=by decide +kernel
theorem jK:∀ (ls acc:List (List Int)) {all:List (List Int)},aG acc ls=some all→(∀ x∈ls,x.length≤2)→all.length≤acc.length+3 * ls.length
 | [],acc,all,h,_=>by cases h; simp
 | s::r,acc,all,h,hl=>by
  have hs:=hl s (by simp);have h3:(bV s).length≤s.length:=by
   unfold bV;exact zk2 (gU _ _) (by rw[eU]; exact lR _)
  simp only[ze6];unfold aG at h;split at h
  ·have:=jK r acc h fun x hx=>hl x (by simp[hx]);omega
  ·split at h
   ·cases h
   ·have h1:=jK r _ h fun x hx=>hl x (by simp[hx]);have h2:(dL acc (bV s)).length≤acc.length+3:=by
     unfold dL;refine zk2 (gU _ _) ?_;rw[(gl _).length_eq,ze3];have:2 ^ (bV s).length≤2 ^ 2:=Nat.pow_le_pow_right dC oM;simp[bH];omega
    omega
theorem oN:(bQ [[0,1],[1,2],[0,2]]).length≤9:=by
 unfold bQ;cases h:aG [] [[0,1],[1,2],[0,2]] with
 | none=>simp
 | some all =>
  have:=jK _ _ h dC;dsimp only;rw[ay,bD];simpa using this
theorem wV (m:Int)(ls:List (List Int))(y:Int):Rt (n8 (mB m ls y))∧∀ c∈n8 (mB m ls y),c.id≤90:=by
 have key:∀ l:List Cl,Rt l→(l.length≤45→∀ c∈l,c.id≤90)→Rt (n8 l)∧∀ c∈n8 l,c.id≤90:=by
  intro l h1 h2;unfold n8;split
  ·have h3:=se (bQ [[0,1],[1,2],[0,2]]) (bQ [[0,1],[1,2],[0,2]]);refine⟨h3.1,fun c hc=>?_⟩;have h4:=h3.2.1 c hc;have h5:=h3.2.2;have h6:nR.length≤9 * 9:=zk2 h5 (Nat.mul_le_mul oN oN);have h7:c.id≤nR.length:=h4;omega
  ·exact⟨h1,h2 oM⟩
 have hS:∀ ls,Rt (n8 (bQ ls))∧∀ c∈n8 (bQ ls),c.id≤90:=fun ls=>key _ (wU ls).1 fun hl c hc=>by have:=(wU ls).2 c hc; omega
 have hP:∀ a b,Rt (n8 (bL a b))∧∀ c∈n8 (bL a b),c.id≤90:=fun a b=>key _ (se a b).1 fun hl c hc=>by have:=(se a b).2.1 c hc; omega
 have h5:=aO y 5 dC dC;unfold mB
 repeat' split
 ·exact hS _
 ·exact hP _ _
 ·have h6:=vL (2+bG y 5).toNat oM oM;have h7:=jN h6.1;rw[show aa (ru (2+bG y 5).toNat)=ru (2+bG y 5).toNat from eI _] at h7;exact key _ h7 fun _=>h6.2
 ·exact hP _ _
 ·exact hS _
 ·exact hS _
theorem BT:∀ k∈[1,3,5],∀ a,a<91→∀ b,b<91→dM (a:Nat) k=dM (b:Nat) k→a=b:=by decide +kernel
theorem BS:∀ k∈[1,3,5],∀ a,a<91→0<a→0<dM (a:Nat) k:=by decide +kernel
theorem oB (kd:Int)(ls:List (List Int))(y:Int):Rt (ju kd ls y):=by
 obtain ⟨h1,h2⟩:=wV (bG kd 8) ls y;have hk:wB y∈[(1:Int),3,5]:=by
  have:=aO (IntKind.i64.wrap (y.tdiv 7)) 3 dC dC;unfold wB;generalize bG (IntKind.i64.wrap (y.tdiv 7)) 3=q at *
  rcases (by omega:q=0∨q=1∨q=2) with rfl | rfl | rfl <;> decide
 refine xX h1 ⟨fun a ha b hb e=>?_,fun a ha=>?_⟩ _
 ·have p1:=h1.pos a ha;have p2:=h1.pos b hb;have q1:=h2 a ha;have q2:=h2 b hb;have e1:((a.id.toNat:Nat):Int)=a.id:=Int.toNat_of_nonneg oM;have e2:((b.id.toNat:Nat):Int)=b.id:=Int.toNat_of_nonneg oM;have:=BT _ hk a.id.toNat oM b.id.toNat oM (by rw[e1,e2]; exact e);have hid:a.id=b.id:=oM;have f1:=h1.find ha;have f2:=h1.find hb;rw[hid,f2] at f1;injection f1 with f1
  exact f1.symm
 ·have p1:=h1.pos a ha;have q1:=h2 a ha;have e1:((a.id.toNat:Nat):Int)=a.id:=Int.toNat_of_nonneg oM;have:=BS _ hk a.id.toNat oM oM;rw[e1] at this;exact this
theorem CD:∀ k∈[1,3,5],∀ a,a<91→dM (a:Nat) k≤300:=by decide +kernel
theorem z6 (kd:Int)(ls:List (List Int))(y:Int):∀ c∈ju kd ls y,iS c.id:=by
 intro c hc;have h0:=(oB kd ls y).pos c hc;obtain ⟨h1,h2⟩:=wV (bG kd 8) ls y;have hk:wB y∈[(1:Int),3,5]:=by
  have:=aO (IntKind.i64.wrap (y.tdiv 7)) 3 dC dC;unfold wB;generalize bG (IntKind.i64.wrap (y.tdiv 7)) 3=q at *
  rcases (by omega:q=0∨q=1∨q=2) with rfl | rfl | rfl <;> decide
 obtain ⟨a,ha,rfl⟩:=mr (Be y) hc;have p1:=h1.pos a ha;have q1:=h2 a ha;have e1:((a.id.toNat:Nat):Int)=a.id:=Int.toNat_of_nonneg oM;have:=CD _ hk a.id.toNat oM;rw[e1] at this;have h3:(cG (aH (wB y) (Be y) a)).id=dM a.id (wB y):=rfl;rw[h3] at h0 ⊢;unfold iS;omega
def part (l:List Cl)(p:Int→Bool):List Cl:=l.filter fun c=>p c.id
def xE (l:List Cl)(p:Int→Bool):Prop:=∀ c∈l,p c.id=true→∀ x∈c.sides,p x.cell=true
section
variable {l:List Cl}(h:Rt l){p q:Int→Bool}(hp:xE l p)(hq:xE l q)
include h hp hq
end
end Go.Proofs.YtcfkpajlakidbaaGreat
namespace Go.Sy
open Go
structure Md where
 ro:Option Nat
 ds:List Deferred
def wf (ro:Option Nat):Fence:={ fn:=fun _=>True,depth:=none,alive:=false,round:=ro }
section
variable {P:Program}{M:Md}{N:Nat}{E:World}{Q:Exit→Act→World→Prop}{f f':Fr}{g g':PH}{s s':Own}{ops:Array Oper}
end
section
variable {P:Program}{M:Md}{N:Nat}{E:World}{Q:Exit→Act→World→Prop}{f:Fr}{g:PH}{s:Own}{dst:Option Tmp}{ty:TypeId}{pos:String}{af:Array Edge}{gd:Option (Nat×Bool)}
end
end Go.Sy
namespace Go.Proofs.YtcfkpajlakidbaaGreat
open _root_.Go.Proofs.Tryz _root_.Go.Proofs.YtcfkpajlakidbaaGreat.Tryz
open Go Go.Sy Go.Pl Go.Proofs
set_option maxRecDepth 100000
set_option maxHeartbeats 1000000
theorem mQ {α β:Type}{l:List α}{k:Nat}(h:k<l.length)(p:α→Bool)(f:α→β):((l.take (k+1)).filter p).map f=((l.take k).filter p).map f++(if p l[k] then [f l[k]] else []):=by
 rw[tS h,zh4,zg3];congr 1;simp only[zi4,List.filter_nil];split <;> rfl
theorem sk {α β:Type}(l:List α)(k:Nat)(p:α→Bool)(f:α→β):(((l.take k).filter p).map f).length≤k:=by
 rw[ze4];refine zk2 (zc2 _ _) ?_;rw[ze2]; omega
theorem Tryz.buildE63 (w:World):(Instr.build 63 #[]).run Tryz.prog w = .ok (.agg #[vi 0,vi 0,.slice none 0 0]) w:=by
 simp[Instr.build,Instr.fill];rfl
def Cv (l:List Cl)(d:Int):List Int:=((ae l).filter fun c=>decide (c.dim=d)).map Cl.id
def nZ:List Cl→Int→Int
 | [],m=>m
 | c::r,m=>nZ r (max m c.dim)
def qe (l:List Cl):Int:=nZ (ae l) (-1)
theorem jQ (c:Cl):∀ (l:List Cl) (m:Int),nZ (l++[c]) m=max (nZ l m) c.dim
 | [],_=>rfl
 | _::r,_=>jQ c r _
theorem SU.maxI {P:Program}{N:Nat}{f:Fr}{dst:Option Tmp}{ty:TypeId}{pos:String}{af:Array Edge}{gd:Option (Nat×Bool)}{x y:Operand}{T U:TypeId}{m n:Int}(hx:ev f x=some (vi m))(hy:ev f y=some (vi n)) :
  SU P N ⟨dst,.call ⟨.builtin .max,#[x,y],#[T,U]⟩,ty,pos,af,gd⟩ f (vi (max m n)):=fun a w ha=>by
 have h:=run_max_int2 (P:=P) (w:=w) #[T,U] ty .i64 .i64 m n;have h2:(if m<n then n else m)=max m n:=by split <;> omega
 rw[h2] at h;simp[execOp,resolve,invoke,builtin,ha.ev hx,ha.ev hy,h]
theorem td (E:World)(g:PH)(s:Own)(v:Value)(l:List Cl)(d:Int)(hv:am g v l)(hf:cR l) :
  Ctr Tryz.prog E 41 #[.agg #[v],vi d] g s (fun r g' s'=>s=s'∧Le g g'∧bC g' r (Cv l d)):=by
 have hft:=dG hf;have hfl:=hft.1;obtain ⟨p,c,rfl⟩:=hv.form;refine za9 (args:=[.agg #[.slice p l.length c],vi d]) func41 I ntmps41 (bE I) ?_;refine rZ (bW (bO I) fun b2=>?_);refine aT I (rZ (aT I (rZ (lK (qV 0 bh aw I I I) (lW (cL call61 I (bJ E g _ _ l hv hf)) ?_)))));rintro v9 g1 _ ⟨rfl,hle,hc⟩;obtain ⟨rs,hrs,hall⟩:=hc;obtain ⟨q,dd,rfl⟩:=hrs.form;refine aT I (sQ (rZ (aT I (bK ?_))));have hrl:=hall.length;unfold Cv;generalize ae l=A at *;refine zb4 3 1 ?_;refine oP (ι:=Value×Nat) (fun i=>[(1,vi d),(5,i.1),(6,.slice q rs.length dd),(7,vi i.2)]) (fun _=>g1) (fun i=>rowA encInt 3 i.1 (((A.take i.2).filter fun c=>decide (c.dim=d)).map Cl.id)::pt b2 (.cells #[.slice p l.length c] 30 (0,0))::s)
  (fun i=>i.2≤A.length) (fun i=>A.length - i.2) (.slice none 0 0,0) sB rfl rfl (zf4 _) ?_
 rintro ⟨ov,k⟩ hk;dsimp only at hk ⊢;refine sQ (sW I (lM I (lU (eN aA I) (yL I (tZ ?_)))));refine iP I (fun hlt=>?_) (fun hlt=>?_)
 ·have hkl:k<A.length:=oM;have hkr:k<rs.length:=oM;have hb1:=hrs.based oM;have hcr:=hall.get (gE hkl) (gE hkr);have hgr:rs[((k:Nat):Int).toNat]?=some rs[k]:=gE hkr;have hsucc:=mQ hkl (fun c=>decide (c.dim=d)) Cl.id;have hlek:=sk A k (fun c=>decide (c.dim=d)) Cl.id;have hxl:=hft.2 _ (gM hkl);generalize A[k]=x at *;generalize rs[k]=r at *;refine kP (tN (sQ (bK (sW I (lM I (lU (iA aA au I I hb1 oM sL) (lU (fC ao I zT3 I hb1) (lK (aZ (e:=encCell) (o:=1) (u:=vi x.dim) iT3 I hrs.rd hgr (by rw[← hcr.2.1]; rfl)) ?_))))))));refine lM I (yE I (tZ ?_));refine iP I (fun hd=>?_) (fun hd=>?_)
  ·refine rG (lM I (lM I (lM I (lU (iA aA au I I hb1 oM sL) (lU (fC ao I zT3 I hb1) (lK (aZ (e:=encCell) (o:=0) (u:=vi x.id) iT3 I hrs.rd hgr (by rw[← hcr.1]; rfl)) ?_))))));refine lW (bS sty25 I I I (ab sB) dC) ?_;rintro _ _ _ ⟨b29,rfl,rfl,rfl⟩;refine lW (aP (e:=encInt) 0 x.id sty25 I I I I I oM oM) ?_;rintro ov' _ _ ⟨rfl,rfl⟩;refine lA I (nL (bN (tN (rG (lM I (yD I (lA I (nL ?_))))))));refine ST.to (fun w hw=>?_) (g':=g1) (s':=rowA encInt 3 ov' (((A.take (k+1)).filter fun c=>decide (c.dim=d)).map Cl.id)::pt b2 (.cells #[.slice p l.length c] 30 (0,0))::s) ?_
   ·rw[hsucc,zf8 (zf6 hd)]; exact hw
   exact gA (ov',k+1) sB I I (by dsimp only; omega) lN
  ·refine kP (bN (tN (rG (lM I (yD I (lA I (nL ?_)))))));refine ST.to (fun w hw=>?_) (g':=g1) (s':=rowA encInt 3 ov (((A.take (k+1)).filter fun c=>decide (c.dim=d)).map Cl.id)::pt b2 (.cells #[.slice p l.length c] 30 (0,0))::s) ?_
   ·rw[hsucc,zf7 (by rw[zf5 hd]; simp),zc3]; exact hw
   exact gA (ov,k+1) sB I I (by dsimp only; omega) lN
 ·have hkk:A.take k=A:=tL oM;rw[hkk];refine xI (tX (tX (bX (tN (sW I (aT I (rE (fT fun g2 hle2 hs2=>?_))))))));refine dR (s':=s) uR ?_;exact za6 (.inl I) results41 I ⟨I,hle.trans hle2,hs2⟩
theorem ng (E:World)(g:PH)(s:Own)(v:Value)(l:List Cl)(hv:am g v l)(hf:cR l) :
  Ctr Tryz.prog E 42 #[.agg #[v]] g s (fun r g' s'=>r=vi (qe l)∧s=s'∧Le g g'):=by
 have hft:=dG hf;have hfl:=hft.1;obtain ⟨p,c,rfl⟩:=hv.form;refine za9 (args:=[.agg #[.slice p l.length c]]) func42 I ntmps42 (bE I) ?_;refine rZ (bW (bO I) fun b1=>?_);refine aT I (rZ (aT I (rZ (lK (qV 0 bh aw I I I) (lW (cL call61 I (bJ E g _ _ l hv hf)) ?_)))));rintro v7 g1 _ ⟨rfl,hle,hc⟩;obtain ⟨rs,hrs,hall⟩:=hc;obtain ⟨q,dd,rfl⟩:=hrs.form;refine aT I (sQ (rZ (aT I (bK ?_))));have hrl:=hall.length;unfold qe;generalize ae l=A at *;refine oP (ι:=Nat) (fun i=>[(3,vi (nZ (A.take i) (-1))),(4,.slice q rs.length dd),(5,vi i)]) (fun _=>g1) (fun _=>pt b1 (.cells #[.slice p l.length c] 30 (0,0))::s)
  (fun i=>i≤A.length) (fun i=>A.length - i) 0 sB rfl rfl (zf4 _) ?_
 rintro k hk;try dsimp only at hk ⊢
 refine sQ (sW I (lM I (lU (eN aA I) (yL I (tZ ?_)))));refine iP I (fun hlt=>?_) (fun hlt=>?_)
 ·have hkl:k<A.length:=oM;have hkr:k<rs.length:=oM;have hb1:=hrs.based oM;have hcr:=hall.get (gE hkl) (gE hkr);have hgr:rs[((k:Nat):Int).toNat]?=some rs[k]:=gE hkr;have hsucc:nZ (A.take (k+1)) (-1)=max (nZ (A.take k) (-1)) A[k].dim:=by rw[tS hkl,jQ]
  generalize A[k]=x at *;generalize rs[k]=r at *;refine kP (tN (sQ (bK (rG (lM I (lM I (lM I (lU (iA aA au I I hb1 oM sL) (lU (fC ao I zT3 I hb1) (lK (aZ (e:=encCell) (o:=1) (u:=vi x.dim) iT3 I hrs.rd hgr (by rw[← hcr.2.1]; rfl)) ?_))))))))));refine lU (SU.maxI I I) (lA I (nL (bN (tN (rG (lM I (yD I (lA I (nL ?_)))))))));exact gA (k+1) ⟨by rw[hsucc]; rfl,rfl,rfl,trivial⟩ rfl rfl oM lN
 ·have hkk:A.take k=A:=tL oM;rw[hkk];refine xI (tX (tX (bX (tN (sW I (aT I (rE (dR (s':=s) uR ?_))))))));exact za6 (.inl I) results42 I ⟨I,I,hle⟩
theorem fJ (E:World)(g:PH)(s:Own)(v:Value)(l:List Cl)(id:Int)(hv:am g v l)(hf:cR l) :
  Ctr Tryz.prog E 72 #[.agg #[v],vi id] g s (fun r g' s'=>s=s'∧Le g g'∧∃ x,r = .tuple #[rcv x,vb (tB l id).isSome]∧aC g' ((tB l id).getD gN) x):=by
 have hft:=dG hf;have hfl:=hft.1;obtain ⟨p,c,rfl⟩:=hv.form;have hsrt:=dS l;have hnd:=fo l;refine za9 (args:=[.agg #[.slice p l.length c],vi id]) func72 I ntmps72 (bE I) ?_;refine rZ (bW (bO I) fun b2=>?_);refine bW (aL zk8) fun b4=>?_;refine aT I (rZ (lK (qV 1 bh aw I I I) (lW (cL call61 I (bJ E g _ _ l hv hf)) ?_)));rintro v9 g1 _ ⟨rfl,hle,hc⟩;obtain ⟨rs,hrs,hall⟩:=hc;have hcs:am g1 _ (ae l):=⟨rs,hrs,hall⟩;obtain ⟨q,dd,rfl⟩:=hrs.form;refine aT I (sW I (lM I (lW (cL call62 I (eR E g1 _ _ (ae l) id hcs hfl hsrt)) ?_)));rintro _ _ _ ⟨rfl,rfl,rfl⟩;refine aT I (sQ (sW I (yL I (tZ ?_))));have hrl:=hall.length;unfold tB;generalize ae l=A at *;have haf:=kM hsrt id;refine iP I (fun hneg=>?_) (fun hneg=>?_)
 ·rcases haf with ⟨h1,h2⟩ | ⟨x,k,h1,h2,h3⟩
  ·have hno:(A.find? fun c=>decide (c.id=id))=none:=h1;refine rZ (lU (za1 I (buildE63)) (oZ (sK 0 au I I I I I sB) ?_));refine aT I (rE (tR ?_));exact ST.retCD1 0 s (.inl I) results72 I I eX au I I uR ⟨I,hle,y6,by rw[hno]; rfl,by rw[hno]; exact sD g1⟩
  ·rw[h2] at hneg; omega
 ·rcases haf with ⟨h1,h2⟩ | ⟨x,k,h1,h2,h3⟩
  ·rw[h2] at hneg; omega
  ·have hyes:(A.find? fun c=>decide (c.id=id))=some x:=h1;rw[h2];have hkl:k<A.length:=(zf3.1 h3).1;have hkr:k<rs.length:=oM;have hb1:=hrs.based oM;have hcr:=hall.get h3 (gE hkr);have hgr:rs[((k:Nat):Int).toNat]?=some rs[k]:=gE hkr;generalize rs[k]=r at *;obtain ⟨ri,rd,⟨rp,rn,rc⟩⟩:=r;refine kP (tN (sW I (lM I (lU (iA aA au I I hb1 oM sL) (lK (eA eX au I hrs.rd hgr) (oZ (sK 0 au I I I I I sB) ?_))))));refine aT I (rE ?_);exact ST.retCD1 0 s (.inl I) results72 I I eX au I I uR ⟨I,hle,⟨ri,rd,⟨rp,rn,rc⟩⟩,by rw[hyes]; rfl,by rw[hyes]; exact hcr⟩
end Go.Proofs.YtcfkpajlakidbaaGreat
namespace Go.Sy
open Go
section
variable {α:Type}{k:Nat}{P:Program}{N:Nat}{E:World}{f:Fr}{g:PH}{s:Own}{dst:Option Tmp}{ty:TypeId}{pos:String}{af:Array Edge}{gd:Option (Nat×Bool)}
end
end Go.Sy
namespace Go.Sy
open Go
section
variable {P:Program}{N:Nat}{f:Fr}{dst:Option Tmp}{ty:TypeId}{pos:String}{af:Array Edge}{gd:Option (Nat×Bool)}
theorem SU.or {x y:Operand}{T U:TypeId}{k:IntKind}{m n:Int}(hx:ev f x=some (.int k m))(hy:ev f y=some (.int k n)) :
  SU P N ⟨dst,.binOp .or T x y U,ty,pos,af,gd⟩ f (.int k (k.wrap (BitVec.ofInt k.bits m ||| BitVec.ofInt k.bits n).toNat)):=fun a w ha=>by
 simp only[execOp,ha.ev hx,ha.ev hy,eqGuard,binOp,ne_eq,not_true_eq_false,if_false,Op.intBits]; rfl
end
end Go.Sy
namespace Go.Proofs.YtcfkpajlakidbaaGreat
open _root_.Go.Proofs.Tryz _root_.Go.Proofs.YtcfkpajlakidbaaGreat.Tryz
open Go Go.Sy Go.Pl Go.Proofs
set_option maxRecDepth 100000
set_option maxHeartbeats 1000000
theorem yb {l m:List Cl}(h:l.Perm m):∀ a,nZ l a=nZ m a:=by
 induction h with
 | nil=>exact fun _=>rfl
 | cons x _ ih=>exact fun a=>ih _
 | swap x y l=>intro a; simp only[nZ]; congr 1; omega
 | trans _ _ h1 h2=>exact fun a=>(h1 a).trans (h2 a)
theorem uT (E:World)(g:PH)(s:Own)(v:Value)(l:List Cl)(hv:am g v l)(hf:cR l) :
  Ctr Tryz.prog E 32 #[.agg #[v]] g s (fun r g' s'=>r=vi (qe l)∧s=s'∧Le g g'):=by
 have hft:=dG hf;have hfl:=hft.1;refine za9 (args:=[.agg #[v]]) func32 I ntmps32 (bE I) ?_;refine rZ (bW (bO I) fun b1=>?_);refine aT I (rZ (aT I (sQ (rZ (lK (qV 0 bh aw I I I) (lW (cL call50 I (sh E g _ v l hv hf)) ?_))))));rintro tv g1 _ ⟨rfl,hle,ht⟩;have htab:=ht;obtain ⟨b,m,iv,rs,rfl,hb,hm,hI,hall⟩:=ht;obtain ⟨es,clk,hes,hmi⟩:=hm;refine lU (nC I) (lU (fA nM I sizeOf98 I) (lK (qL isAgg98 I (cK hb I)) (lW (SO.range underlying98 I hes) ?_)));rintro _ _ _ ⟨it,rfl,rfl,rfl⟩;refine tZ (bK ?_);have hlen:=hall.length;refine oP (ι:=List MapEntry×List (Int×Value)×List Cl) (fun i=>[(3,vi (nZ i.2.2 (-1))),(11,pp it 0)]) (fun _=>g1)
  (fun i=>jZ it m es clk i.1::pt b1 (.cells #[v] 30 (0,0))::s)
  (fun i=>pP (rs.map dj) es i.1 i.2.1∧(∀ c∈i.2.2,c∈ae l)∧i.2.1.map Prod.fst=i.2.2.map Cl.id) (fun i=>rs.length - i.2.1.length)
  ([],[],[]) sB rfl rfl ⟨pP.nil _ _,by simp,rfl⟩ ?_
 rintro ⟨vis,vl,vc⟩ ⟨hrv,hvs,hvl⟩;dsimp only at hrv hvs hvl ⊢;have hvle:=hrv.len hmi;simp only[ze4] at hvle;have hvcl:vl.length=vc.length:=by have:=zd9 List.length hvl; simpa using this
 refine rZ (lW (SO.nextP 0 I I hes hmi hrv) ?_);rintro _ _ _ ⟨rfl,hcase⟩
 rcases hcase with ⟨rfl,rfl,hperm⟩ | ⟨e,pr,he,hp1,hk1,hv1,hrv2,rfl,rfl⟩
 ·have hp:=rz hvl hvs (fo l) hall hperm;refine yX I (tZ (sQ (cF I (xI (tX (tX (bX (tN (sW I (aT I (rE (dR (s':=s) uR ?_))))))))))));exact za6 (.inl I) results32 I ⟨by rw[yb hp]; rfl,rfl,hle⟩
 ·obtain ⟨x,hx,rfl⟩:=ze9.1 hp1;obtain ⟨cx,hcm,hcx⟩:=AF hall hx;have hvs2:∀ c∈vc++[cx],c∈ae l:=fun c hc=>by
   rcases zf1.1 hc with h | h
   ·exact hvs c h
   ·simp at h; rw[h]; exact hcm
  have hvl2:(vl++[dj x]).map Prod.fst=(vc++[cx]).map Cl.id:=by rw[zg3,zg3,hvl]; simp[dj,hcx.1]
  have hm2:=hrv2.len hmi;simp only[ze4,ze3,ze5] at hm2;obtain ⟨xi,xd,xv⟩:=x;have hxd:xd=cx.dim:=hcx.2.1;subst hxd;have hmx:=jQ cx vc (-1);refine yX I (tZ (sQ (cT I (kP (tN (bK (rZ (lK (SQ.entryP 0 I I hes hmi he hk1 hv1) (yX I (bW (aL zk8) fun b5=>?_))))))))));refine oZ (sK 0 au I I I I I sB) ?_;refine tZ (rG (lM I (lU (fA ao I zT3 I) (lK (qL iT3 I (cO 0 I I)) (lU (SU.eq (v':=vi (nZ (vc++[cx]) (-1))) (SU.maxI I I) (zd9 vi hmx.symm)) (lA I (nL (bN (dR (s':=jZ it m es clk (vis++[e])::pt b1 (.cells #[v] 30 (0,0))::s) (.cons _ (.refl _)) ?_)))))))));exact gA (vis++[e],vl++[dj ⟨xi,cx.dim,xv⟩],vc++[cx]) sB I I ⟨hrv2,hvs2,hvl2⟩ lN
def ey (l:List Cl):List Int:=l.flatMap fun c=>c.sides.map aj.cell
theorem sZ (A:List Cl)(k:Int):(ey A).contains k=jF A k:=by
 rw[Bool.eq_iff_iff];simp[ey,jF,C6]
theorem rD {A:List Cl}{k:Nat}(h:k<A.length):ey (A.take (k+1))=ey (A.take k)++A[k].sides.map aj.cell:=by
 unfold ey;rw[tS h,List.flatMap_append];simp only[zh3,List.flatMap_nil,zc3]
theorem Aj {A:List Cl}{id:Int}(h:aJ A id=none)(m:List Int):cm A (m++[id])=cm A m:=by
 unfold cm;refine zc5 fun c hc=>?_;have:=List.find?_eq_none.1 h c hc;simp only[zi9] at this;simp[this]
theorem yd {ss:List aj}{j:Nat}(h:j<ss.length)(m:List Int):m++(ss.take (j+1)).map aj.cell=(m++(ss.take j).map aj.cell)++[ss[j].cell]:=by
 rw[tS h,zg3,zg6]; rfl
theorem rF (E:World)(g:PH)(s:Own)(v:Value)(l:List Cl)(hv:am g v l)(hf:cR l) :
  Ctr Tryz.prog E 28 #[.agg #[v]] g s (fun r g' s'=>s=s'∧Le g g'∧bC g' r (il l)):=by
 have hft:=dG hf;have hfl:=hft.1;have hsrt:=dS l;have hnd:=fo l;refine za9 (args:=[.agg #[v]]) func28 I ntmps28 (bE I) ?_;refine rZ (bW (bO I) fun b1=>?_);refine aT I (rZ (aT I (rZ (lK (qV 0 bh aw I I I) (lW (cL call61 I (bJ E g _ _ l hv hf)) ?_)))));rintro v11 g1 _ ⟨rfl,hle,hc⟩;obtain ⟨rs,hrs,hall⟩:=hc;have hcs:am g1 _ (ae l):=⟨rs,hrs,hall⟩;obtain ⟨q,dd,rfl⟩:=hrs.form;have hrl:=hall.length;refine aT I (sW I (lU (eN aA I) (lW (mK ct false sty107 I I I oM oM) ?_)));rintro _ _ _ ⟨b14,rfl,rfl,rfl⟩;refine aT I (sQ (rZ (aT I (bK ?_))));unfold il;generalize ae l=A at *;refine SC.to (g':=g1) (s':=rowA ct 4 (.slice (some ⟨b14,0,none⟩) rs.length rs.length) (cm A (ey (A.take 0)))::pt b1 (.cells #[v] 30 (0,0))::s) (fun w hw=>by rw[show ey (A.take 0)=[] from I,qI,hrl]; exact hw) ?_;refine oP (ι:=Nat) (fun i=>[(3,.slice none 0 0),(4,.slice q rs.length dd),(5,.slice (some ⟨b14,0,none⟩) rs.length rs.length),(6,vi i)]) (fun _=>g1)
  (fun i=>rowA ct 4 (.slice (some ⟨b14,0,none⟩) rs.length rs.length) (cm A (ey (A.take i)))::pt b1 (.cells #[v] 30 (0,0))::s)
  (fun i=>i≤A.length) (fun i=>A.length - i) 0 sB rfl rfl (zf4 _) ?_
 intro k hk;refine sQ (sW I (lM I (lU (eN aA I) (yL I (tZ ?_)))));refine iP I (fun hlt=>?_) (fun hlt=>?_)
 ·have hkl:k<A.length:=oM;have hkr:k<rs.length:=oM;have hb1:=hrs.based oM;have hcr:=hall.get (gE hkl) (gE hkr);have hgr:rs[((k:Nat):Int).toNat]?=some rs[k]:=gE hkr;have hsucc:=rD hkl;have hxl:=hft.2 _ (gM hkl);generalize A[k]=x at *;generalize rs[k]=r at *;generalize ey (A.take k)=m at *;obtain ⟨ri,rd,rp,rn,rc⟩:=r;have hsv:SlA encSide g1 (.slice rp rn rc) x.sides:=hcr.2.2;have hxn:rn=x.sides.length:=by obtain ⟨q,cc,hq⟩:=za2 hsv; simp at hq; exact hq.2.1
  subst hxn;refine kP (tN (sQ (bK (rZ (aT I (bK ?_))))));refine oP (ι:=Nat) (fun j=>[(3,.slice none 0 0),(4,.slice q rs.length dd),(5,.slice (some ⟨b14,0,none⟩) rs.length rs.length),(6,vi k),(7,vi j)]) (fun _=>g1)
   (fun j=>rowA ct 4 (.slice (some ⟨b14,0,none⟩) rs.length rs.length) (cm A (m++(x.sides.take j).map aj.cell))::pt b1 (.cells #[v] 30 (0,0))::s)
   (fun j=>j≤x.sides.length) (fun j=>x.sides.length - j) 0 sB rfl (by simp) (zf4 _) ?_
  intro j hj;refine sQ (sW I (lM I (lM I (lU (iA aA au I I hb1 oM sL) (lU (fC ao I bI I hb1) (lK (aZ (e:=encCell) (o:=2) (u:=.slice rp x.sides.length rc) cQ I hrs.rd hgr I) (lU (eN cA I) (yL I (tZ ?_)))))))));refine iP I (fun hlt2=>?_) (fun hlt2=>?_)
  ·have hjl:j<x.sides.length:=oM;have hb2:=za4 hsv oM;have hgj:x.sides[((j:Nat):Int).toNat]?=some x.sides[j]:=gE hjl;have hms:=yd hjl m;generalize m++(x.sides.take j).map aj.cell=m2 at *;generalize x.sides[j]=z at *;have hfl2:(cm A m2).length=A.length:=by simp[cm]
   rcases kM hsrt z.cell with ⟨hf0,hat⟩ | ⟨c,kk,hf0,hat,hck⟩
   ·refine kP (tN (sQ (bK (sW I (lM I (lM I (lU (iA aA au I I hb1 oM sL) (lU (fC ao I bI I hb1) (lK (aZ (e:=encCell) (o:=2) (u:=.slice rp x.sides.length rc) cQ I hrs.rd hgr I) (lM I (lU (iA cA cj I I hb2 oM sL) (lU (fC dn I zT3 I hb2) (lK (aZ (o:=0) (u:=vi z.cell) iT3 I hsv.rd hgj I) (lW (cL call62 I (eR E g1 _ _ A z.cell hcs hfl hsrt)) ?_))))))))))))));rintro _ _ _ ⟨rfl,rfl,rfl⟩;rw[hat];refine aT I (sW I (lU (SU.eq (v':=vb false) (gQ I I) (zd9 vb (zf5 oM))) (tZ (cF I (kP (bN (tN (rG (lM I (yD I (lA I (nL ?_))))))))))));exact gA (j+1) sB I (by rw[hms,Aj hf0]) oM oM
   ·have hkl2:kk<A.length:=(zf3.1 hck).1;have hset:(cm A m2).set kk true=cm A (m2++[z.cell]):=by rw[qH hnd hck,(cI hf0).2]
    refine kP (tN (sQ (bK (sW I (lM I (lM I (lU (iA aA au I I hb1 oM sL) (lU (fC ao I bI I hb1) (lK (aZ (e:=encCell) (o:=2) (u:=.slice rp x.sides.length rc) cQ I hrs.rd hgr I) (lM I (lU (iA cA cj I I hb2 oM sL) (lU (fC dn I zT3 I hb2) (lK (aZ (o:=0) (u:=vi z.cell) iT3 I hsv.rd hgj I) (lW (cL call62 I (eR E g1 _ _ A z.cell hcs hfl hsrt)) ?_))))))))))))));rintro _ _ _ ⟨rfl,rfl,rfl⟩;rw[hat];refine aT I (sW I (lU (SU.eq (v':=vb true) (gQ I I) (zd9 vb (zf6 oM))) (tZ (cT I (rG (lM I (lM I (lU (iA underlying107 sizeOf4 I I I oM sL) (oZ (sT (e:=ct) (a:=true) 0 sizeOf4 I I I (by rw[hfl2]; omega) I) ?_)))))))));refine nL (bN (tN (rG (lM I (yD I (lA I (nL ?_)))))));exact gA (j+1) sB I (by rw[hms,← hset]; rfl) oM oM
  ·have hjj:x.sides.take j=x.sides:=tL oM;rw[hjj,← hsucc];refine xI (tX (tX (bX (bN (tN (rG (lM I (yD I (lA I (nL ?_))))))))));exact gA (k+1) sB I I oM oM
 ·have hkk:A.take k=A:=tL oM;rw[hkk];refine xI (tX (tX (bX (tN (sQ (rZ (aT I (bK (cP (zj4 _ _ _) (cP (zj4 _ _ _) (zb4 3 1 ?_)))))))))));refine oP (ι:=Value×Nat) (fun i=>[(3,i.1),(4,.slice q rs.length dd),(5,.slice (some ⟨b14,0,none⟩) rs.length rs.length),(9,vi i.2)]) (fun _=>g1)
   (fun i=>rowA encInt 3 i.1 (((A.take i.2).filter fun c=>!jF A c.id).map Cl.id)::rowA ct 4 (.slice (some ⟨b14,0,none⟩) rs.length rs.length) (cm A (ey A))::pt b1 (.cells #[v] 30 (0,0))::s)
   (fun i=>i.2≤A.length) (fun i=>A.length - i.2) (.slice none 0 0,0) sB rfl rfl (zf4 _) ?_
  rintro ⟨ov,i⟩ hi;dsimp only at hi ⊢;refine sQ (sW I (lM I (lU (eN aA I) (yL I (tZ ?_)))));refine iP I (fun hlt3=>?_) (fun hlt3=>?_)
  ·have hil:i<A.length:=oM;have hir:i<rs.length:=oM;have hb1:=hrs.based oM;have hcr:=hall.get (gE hil) (gE hir);have hgr:rs[((i:Nat):Int).toNat]?=some rs[i]:=gE hir;have hsucc:=mQ hil (fun c=>!jF A c.id) Cl.id;have hlek:=sk A i (fun c=>!jF A c.id) Cl.id;have hgf:(cm A (ey A))[((i:Nat):Int).toNat]?=some (jF A A[i].id):=by rw[← sZ]; exact mP (gE hil)
   generalize A[i]=x at *;generalize rs[i]=r at *;refine kP (tN (sQ (bK (sW I (lM I (lU (iA underlying107 sizeOf4 I I I oM sL) (lK (eB (e:=ct) isAgg4 I (zb5 1 I) hgf I) (lU (SU.not I) (tZ ?_)))))))));refine iQ I (fun htop=>?_) (fun htop=>?_)
   ·refine rG (lM I (lM I (lM I (lU (iA aA au I I hb1 oM sL) (lU (fC ao I zT3 I hb1) (lK (aZ (e:=encCell) (o:=0) (u:=vi x.id) iT3 I hrs.rd hgr (by rw[← hcr.1]; rfl)) ?_))))));refine lW (bS sty25 I I I (ab sB) dC) ?_;rintro _ _ _ ⟨b64,rfl,rfl,rfl⟩;refine lW (aP (e:=encInt) 0 x.id sty25 I I I I I oM oM) ?_;rintro ov' _ _ ⟨rfl,rfl⟩;refine lA I (nL (bN (tN (rG (lM I (yD I (lA I (nL ?_))))))));refine ST.to (fun w hw=>?_) (g':=g1) (s':=rowA encInt 3 ov' (((A.take (i+1)).filter fun c=>!jF A c.id).map Cl.id)::rowA ct 4 (.slice (some ⟨b14,0,none⟩) rs.length rs.length) (cm A (ey A))::pt b1 (.cells #[v] 30 (0,0))::s) ?_
    ·rw[hsucc,zf8 (by simpa using htop)]; exact hw
    exact gA (ov',i+1) sB I I (by dsimp only; omega) lN
   ·refine kP (bN (tN (rG (lM I (yD I (lA I (nL ?_)))))));refine ST.to (fun w hw=>?_) (g':=g1) (s':=rowA encInt 3 ov (((A.take (i+1)).filter fun c=>!jF A c.id).map Cl.id)::rowA ct 4 (.slice (some ⟨b14,0,none⟩) rs.length rs.length) (cm A (ey A))::pt b1 (.cells #[v] 30 (0,0))::s) ?_
    ·rw[hsucc,zf7 (by simpa using htop),zc3]; exact hw
    exact gA (ov,i+1) sB I I (by dsimp only; omega) lN
  ·have hii:A.take i=A:=tL oM;rw[hii];refine xI (tX (tX (bX (tN (sW I (aT I (rE (fT fun g2 hle2 hs2=>?_))))))));refine dR (s':=s) uR ?_;exact za6 (.inl I) results28 I ⟨I,hle.trans hle2,hs2⟩
theorem tI {A:List Cl}{ids:List Int}{x:Int}(h:x∈dq A ids):∃ c∈A,c.id=x:=by
 obtain ⟨c,hc,e⟩:=mT h;exact⟨c,hc,e⟩
theorem zo (l:List Cl):((ae l).map Cl.id).Pairwise (· < ·):=by
 have h1:=dS l;have h2:=fo l;have h3:=h1.and h2;exact h3.imp fun h=>by omega
theorem ig (l:List Cl)(ids:List Int):eE l ids=((ae l).filter fun c=>(dq (ae l) ids).contains c.id).map Cl.id:=by
 unfold eE;refine ia ?_ ?_ fun x=>?_
 ·have h2:=i8 (dq (ae l) ids);have h3:(dN (dq (ae l) ids)).Nodup:=(kW _).symm.nodup (nr _ _);exact (h2.and h3).imp fun ⟨h4,h5⟩=>by omega
 ·exact ((zo l)).sublist (List.filter_sublist.map _)
 ·rw[(kW _).mem_iff,ze9];constructor
  ·intro hx;obtain ⟨c,hc,rfl⟩:=tI hx;exact⟨c,zh2.2 ⟨hc,by simpa using hx⟩,I⟩
  ·rintro ⟨c,hc,rfl⟩;simpa using (zh2.1 hc).2
theorem nK (E:World)(g:PH)(s:Own)(v iv:Value)(l:List Cl)(ids:List Int)(hv:am g v l)(hf:cR l)(hi:bC g iv ids)(hb:ids.length+fh (ae l) []<1099511627776) :
  Ctr Tryz.prog E 108 #[.agg #[v],iv] g s (fun r g' s'=>s=s'∧Le g g'∧bC g' r (eE l ids)):=by
 have hft:=dG hf;have hfl:=hft.1;have hsrt:=dS l;have hnd:=fo l;rw[ig];refine za9 (args:=[.agg #[v],iv]) func108 I ntmps108 (bE I) ?_;refine rZ (bW (bO I) fun b2=>?_);refine aT I (rZ (lK (qV 0 bh aw I I I) (lW (cL call61 I (bJ E g _ _ l hv hf)) ?_)));rintro v9 g1 _ ⟨rfl,hle,hc⟩;obtain ⟨rs,hrs,hall⟩:=hc;have hcs:am g1 _ (ae l):=⟨rs,hrs,hall⟩;obtain ⟨q,dd,rfl⟩:=hrs.form;have hrl:=hall.length;refine aT I (sW I (lM I (lW (cL call130 I (rJ E g1 _ _ _ (ae l) ids hcs (za3 hi hle) hft hsrt hnd hb)) ?_)));rintro v13 g2 _ ⟨rfl,hle2,hfg⟩;obtain ⟨qf,df,rfl⟩:=za2 hfg;have hrs:=hrs.mono hle2;have hall:=hall.mono fun _ _=>aC.mono hle2;have hle:=hle.trans hle2;refine aT I (rZ (aT I (sQ (rZ (aT I (bK ?_))))));generalize ae l=A at *;have hffl:(cm A (dq A ids)).length=A.length:=by simp[cm]
 refine zb4 3 1 ?_;refine oP (ι:=Value×Nat) (fun i=>[(5,.slice q rs.length dd),(6,.slice qf (cm A (dq A ids)).length df),(7,i.1),(8,vi i.2)]) (fun _=>g2) (fun i=>rowA encInt 3 i.1 (((A.take i.2).filter fun c=>(dq A ids).contains c.id).map Cl.id)::pt b2 (.cells #[v] 30 (0,0))::s)
  (fun i=>i.2≤A.length) (fun i=>A.length - i.2) (.slice none 0 0,0) sB rfl rfl (zf4 _) ?_
 rintro ⟨ov,k⟩ hk;dsimp only at hk ⊢;refine sQ (sW I (lM I (lU (eN aA I) (yL I (tZ ?_)))));refine iP I (fun hlt=>?_) (fun hlt=>?_)
 ·have hkl:k<A.length:=oM;have hkr:k<rs.length:=oM;have hb1:=hrs.based oM;have hb2:=za4 hfg oM;have hcr:=hall.get (gE hkl) (gE hkr);have hgr:rs[((k:Nat):Int).toNat]?=some rs[k]:=gE hkr;have hgf:(cm A (dq A ids))[((k:Nat):Int).toNat]?=some ((dq A ids).contains A[k].id):=mP (gE hkl);have hsucc:=mQ hkl (fun c=>(dq A ids).contains c.id) Cl.id;have hlek:=sk A k (fun c=>(dq A ids).contains c.id) Cl.id;generalize A[k]=x at *;generalize rs[k]=r at *;refine kP (tN (sQ (bK (sW I (lM I (lU (iA underlying107 sizeOf4 I I hb2 oM sL) (lK (eB (e:=ct) isAgg4 I (za5 hfg) hgf I) (tZ ?_))))))));refine iQ I (fun hin=>?_) (fun hin=>?_)
  ·refine rG (lM I (lM I (lM I (lU (iA aA au I I hb1 oM sL) (lU (fC ao I zT3 I hb1) (lK (aZ (e:=encCell) (o:=0) (u:=vi x.id) iT3 I hrs.rd hgr (by rw[← hcr.1]; rfl)) ?_))))));refine lW (bS sty25 I I I (ab sB) dC) ?_;rintro _ _ _ ⟨b30,rfl,rfl,rfl⟩;refine lW (aP (e:=encInt) 0 x.id sty25 I I I I I oM oM) ?_;rintro ov' _ _ ⟨rfl,rfl⟩;refine lA I (nL (bN (tN (rG (lM I (yD I (lA I (nL ?_))))))));refine ST.to (fun w hw=>?_) (g':=g2) (s':=rowA encInt 3 ov' (((A.take (k+1)).filter fun c=>(dq A ids).contains c.id).map Cl.id)::pt b2 (.cells #[v] 30 (0,0))::s) ?_
   ·rw[hsucc,zf8 hin]; exact hw
   exact gA (ov',k+1) sB I I (by dsimp only; omega) lN
  ·refine kP (bN (tN (rG (lM I (yD I (lA I (nL ?_)))))));refine ST.to (fun w hw=>?_) (g':=g2) (s':=rowA encInt 3 ov (((A.take (k+1)).filter fun c=>(dq A ids).contains c.id).map Cl.id)::pt b2 (.cells #[v] 30 (0,0))::s) ?_
   ·rw[hsucc,zf7 (by rw[hin]; decide),zc3]; exact hw
   exact gA (ov,k+1) sB I I (by dsimp only; omega) lN
 ·have hkk:A.take k=A:=tL oM;rw[hkk];refine xI (tX (tX (bX (tN (sW I (aT I (rE (fT fun g3 hle3 hs3=>?_))))))));refine dR (s':=s) uR ?_;exact za6 (.inl I) results108 I ⟨I,hle.trans hle3,hs3⟩
def pO (L S:Nat)(l:List Cl):Prop:=l.length≤L∧∀ c∈l,c.sides.length≤S
theorem pO.mono {L S L' S':Nat}{l:List Cl}(h:pO L S l)(h1:L≤L')(h2:S≤S'):pO L' S' l:=⟨zk2 h.1 h1,fun c hc=>zk2 (h.2 c hc) h2⟩
theorem pO.fits {L S:Nat}{l:List Cl}(h:pO L S l)(h1:L<1099511627776)(h2:S<1099511627776):cR l:=⟨by have:=h.1; omega,fun c hc=>by have:=h.2 c hc; omega⟩
theorem xJ {L S:Nat}{l:List Cl}(h:pO L S l):pO L S (ae l):=by
 refine⟨by have:=jH l; have:=h.1; omega,fun c hc=>?_⟩;have hc:=lG hc;simp only[aa,ze9] at hc;obtain ⟨c0,h0,rfl⟩:=hc;simp only[cG,er];exact h.2 c0 ((dy l c0).1 h0)
theorem zt {S:Nat}{l:List Cl}(h:∀ c∈l,c.sides.length≤S):(l.map fun c=>c.sides.length).sum≤l.length * S:=by
 induction l with
 | nil=>simp
 | cons c r ih =>
  have h1:=h c (by simp);have h2:=ih fun d hd=>h d (by simp[hd]);simp only[zg2,List.sum_cons,ze6,Nat.succ_mul];omega
theorem pO.cost {L S:Nat}{l:List Cl}(h:pO L S l):fh (ae l) []≤L * S:=by
 have ht:=xJ h;have h3:=zt ht.2;have h4:fh (ae l) []=((ae l).map fun c=>c.sides.length).sum:=by
  unfold fh;rw[List.filter_eq_self.2 (by simp)]
 have h5:(ae l).length * S≤L * S:=Nat.mul_le_mul_right S ht.1;omega
open Go.ChangeShapes Go.WideShapes Go.ChangeAt Go.RowKit
set_option maxRecDepth 100000
section
variable {H:Type}{enc:TypeId×Value→H}{W:World}{base:Nat}{spare:Nat→Bool}{hd:Bool}
end
end Go.Proofs.YtcfkpajlakidbaaGreat
namespace Go.Sy
open Go Go.MapKept
section
variable {P:Program}{w:World}{t kt et ty:TypeId}{z:Value}{b:Nat}{es:Array MapEntry}{clk:Nat}{l:List (Int×Value)}
end
section
variable {P:Program}{N:Nat}{E:World}{ops:Array Oper}{Q:Exit→Act→World→Prop}{f:Fr}{g:PH}{s:Own}{dst:Option Tmp}{ty:TypeId}{pos:String}{af:Array Edge}{gd:Option (Nat×Bool)}
variable {t kt et:TypeId}{z:Value}{b:Nat}{l:List (Int×Value)}{x y:Operand}{k:Int}
end
end Go.Sy
namespace Go.Sy
open Go
section
variable {P:Program}{N:Nat}{E:World}{f:Fr}{g:PH}{s:Own}{dst:Option Tmp}{ty:TypeId}{pos:String}{af:Array Edge}{gd:Option (Nat×Bool)}
theorem SQ.sof {o:Oper}{v:Value}(h:SQ P N E o f g s v):SO P N E o f g s fun v' g' s'=>v'=v∧g=g'∧s=s':=SO.mono h.so fun _ _ _ ⟨h1,h2,h3⟩=>⟨h1,h2.symm,h3.symm⟩
theorem SQ.loadOne {x:Operand}{T:TypeId}{b o:Nat}{v:Value}(hT:∀ w,(isAgg T).run P w = .ok true w)(hk:∀ w,(sizeOf T).run P w = .ok 1 w)(hx:ev f x=some (pp b o))(hc:ez g s ⟨b,o,none⟩ v) :
  SQ P N E ⟨dst,.load T x,ty,pos,af,gd⟩ f g s (.agg #[v]) :=
 SQ.loadAggAt (vs:=[v]) hT hk hx rfl fun j u hu=>by
  cases j with
  | zero=>simp at hu; subst hu; exact hc
  | succ j=>simp at hu
end
section
variable {α:Type}{k:Nat}{P:Program}{N:Nat}{E:World}{f:Fr}{g:PH}{s:Own}{dst:Option Tmp}{ty:TypeId}{pos:String}{af:Array Edge}{gd:Option (Nat×Bool)}
theorem SO.appNewA {e:Enc α k}{bytes:Nat}{x y:Operand}{t T:TypeId}{z u:Value}{p:Option Addr}{m:List α}(hT:STy P t T k bytes z)(hx:ev f x=some (.slice p 0 0))(hy:ev f y=some u)(hu:SlA e g u m)
  (hb:m.length * bytes≤140737488355328) (hlen:m.length≤4611686018427387904) :
  SO P N E ⟨dst,.call ⟨.builtin .append,#[x,y],#[t,t]⟩,ty,pos,af,gd⟩ f g s fun v' g' s'=>g=g'∧s'=rowA e T v' m::s:=fun a w ha hw =>
 aQ (e:=e) (l:=[]) (s:=rowA e T (.slice p 0 0) []::s) 0 hT hx hy rfl hu (by simpa using hb) (by simpa using hlen) a w ha (hw.emptyRow T k p)
end
section
variable {P:Program}{N:Nat}{E:World}{f:Fr}{g:PH}{s:Own}{fn:Func}{R:Value→PH→Own→Prop}{e:Exit}
end
end Go.Sy
namespace Go.Sy
open Go Go.MapKept
instance quiet_scope {Q:Exit→Act→World→Prop}[h:Quiet Q]:Quiet (Exit.noGoto Q):=⟨fun c a a' w hd hq=>h.out c a a' w hd hq⟩
section
variable {P:Program}{N:Nat}{E:World}{Q:Exit→Act→World→Prop}{f:Fr}{g:PH}{s:Own}
theorem SC.scope {c:Code}(h:SC P N E c (Exit.noGoto Q) f g s):SC P N E (.scope c) Q f g s:=fun a w ha hw=>wp_scope_straight (h a w ha hw)
theorem ST.scopeR (h:ST N E Q .ret f g s):ST N E (Exit.noGoto Q) .ret f g s:=h
end
end Go.Sy
namespace Go.Pl
def aM (l:List Nat)(f:Nat→Int):Int:=(l.map f).sum
theorem lH (f:Nat→Int):aM [] f=0:=rfl
theorem cV (a:Nat)(l:List Nat)(f:Nat→Int):aM (a::l) f=f a+aM l f:=by simp[aM]
theorem j4 (l m:List Nat)(f:Nat→Int):aM (l++m) f=aM l f+aM m f:=by simp[aM]
theorem pd (l:List Nat)(f g:Nat→Int):aM l (fun j=>f j+g j)=aM l f+aM l g:=by
 induction l with
 | nil=>rfl
 | cons a l ih=>simp only[cV,ih]; omega
theorem cY (l:List Nat)(c:Int)(f:Nat→Int):aM l (fun j=>c * f j)=c * aM l f:=by
 induction l with
 | nil=>simp[aM]
 | cons a l ih=>simp only[cV,ih,Int.mul_add]
theorem ft (l:List Nat)(c:Int)(f:Nat→Int):aM l (fun j=>f j * c)=aM l f * c:=by
 induction l with
 | nil=>simp[aM]
 | cons a l ih=>simp only[cV,ih,Int.add_mul]
theorem iG (l:List Nat):aM l (fun _=>0)=0:=by
 induction l with
 | nil=>rfl
 | cons a l ih=>simp only[cV,ih]; rfl
theorem ar {l:List Nat}{f g:Nat→Int}(h:∀ j∈l,f j=g j):aM l f=aM l g:=by
 unfold aM;rw[List.map_congr_left h]
theorem eO (l m:List Nat)(f:Nat→Nat→Int):aM l (fun i=>aM m fun j=>f i j)=aM m fun j=>aM l fun i=>f i j:=by
 induction l with
 | nil=>simp only[lH,iG]
 | cons a l ih=>simp only[cV,ih,pd]
def Eqm (p a b:Int):Prop:=p ∣ a - b
section
variable {p:Int}
theorem Eqm.refl (a:Int):Eqm p a a:=by unfold Eqm; rw[Int.sub_self]; exact Int.dvd_zero p
theorem Eqm.symm {a b:Int}(h:Eqm p a b):Eqm p b a:=by
 unfold Eqm at *;have:=Int.dvd_neg.2 h;rwa [Int.neg_sub] at this
theorem Eqm.trans {a b c:Int}(h:Eqm p a b)(k:Eqm p b c):Eqm p a c:=by
 unfold Eqm at *;have:=Int.dvd_add h k;rwa [show a - b+(b - c)=a - c by omega] at this
theorem Eqm.add {a b c d:Int}(h:Eqm p a b)(k:Eqm p c d):Eqm p (a+c) (b+d):=by
 unfold Eqm at *;have:=Int.dvd_add h k;rwa [show a - b+(c - d)=a+c - (b+d) by omega] at this
theorem Eqm.mul {a b c d:Int}(h:Eqm p a b)(k:Eqm p c d):Eqm p (a * c) (b * d):=by
 unfold Eqm at *;have h1:p ∣ (a - b) * c:=Int.dvd_mul_of_dvd_left h;have h2:p ∣ b * (c - d):=Int.dvd_mul_of_dvd_right k;have:=Int.dvd_add h1 h2;rwa [Int.sub_mul,Int.mul_sub,show a * c - b * c+(b * c - b * d)=a * c - b * d by omega] at this
theorem Eqm.of {a b:Int}(h:a=b):Eqm p a b:=by rw[h]; exact .refl b
theorem Eqm.sum {l:List Nat}{f g:Nat→Int}(h:∀ j∈l,Eqm p (f j) (g j)):Eqm p (aM l f) (aM l g):=by
 induction l with
 | nil=>exact .refl _
 | cons a l ih =>
  rw[cV,cV];exact (h a (by simp)).add (ih fun j hj=>h j (by simp[hj]))
theorem Eqm.sum0 {l:List Nat}{f:Nat→Int}(h:∀ j∈l,Eqm p (f j) 0):Eqm p (aM l f) 0:=by
 have:=Eqm.sum (g:=fun _=>0) h;rwa [iG] at this
def Fld (p:Int):Prop:=¬ Eqm p 1 0∧∀ a,¬ Eqm p a 0→∃ b,Eqm p (a * b) 1
theorem pn (hp:Fld p):∀ (s:Nat) (cs:List Nat) (Y:Nat→Nat→Int),cs.Nodup→s<cs.length→∃ v:Nat→Int,(∃ j∈cs,¬ Eqm p (v j) 0)∧∀ i,i<s→Eqm p (aM cs fun j=>Y i j * v j) 0
 | 0,cs,Y,_,hs=>by
  cases cs with
  | nil=>simp at hs
  | cons a l=>exact⟨fun _=>1,⟨a,by simp,hp.1⟩,fun i hi=>by omega⟩
 | s+1,cs,Y,hn,hs=>by
  by_cases hall:∀ j∈cs,Eqm p (Y s j) 0
  ·obtain ⟨v,h1,h2⟩:=pn hp s cs Y hn (by omega);refine⟨v,h1,fun i hi=>?_⟩;by_cases e:i=s
   ·subst e;refine Eqm.sum0 fun j hj=>?_;have:=(hall j hj).mul (Eqm.refl (v j));rwa [Int.zero_mul] at this
   ·exact h2 i (by omega)
  ·have ⟨j0,hj0,hy⟩:∃ j0∈cs,¬ Eqm p (Y s j0) 0:=by
    apply Classical.byContradiction;intro h;exact hall fun j hj=>Classical.byContradiction fun k=>h ⟨j,hj,k⟩
   obtain ⟨b,hb⟩:=hp.2 _ hy;obtain ⟨l1,l2,rfl⟩:=List.append_of_mem hj0;have hn2:(l1++l2).Nodup:=by
    have:=(List.nodup_append.1 hn);refine List.nodup_append.2 ⟨this.1,(List.nodup_cons.1 this.2.1).2,fun x hx y hy=>this.2.2 x hx y (by simp[hy])⟩
   have hnot:∀ j∈l1++l2,j≠j0:=fun j hj e=>by
    subst e;have h3:=List.nodup_append.1 hn
    rcases List.mem_append.1 hj with h | h
    ·exact h3.2.2 j h j (by simp) rfl
    ·exact (List.nodup_cons.1 h3.2.1).1 h
   obtain ⟨v,⟨j1,hj1,hv1⟩,h2⟩:=pn hp s (l1++l2) (fun i j=>Y i j - Y i j0 * b * Y s j) hn2 (by simp at hs ⊢; omega)
   let t:Int:=-(b * aM (l1++l2) fun j=>Y s j * v j)
   let w:Nat→Int:=fun j=>if j=j0 then t else v j
   have hw:∀ j∈l1++l2,w j=v j:=fun j hj=>if_neg (hnot j hj);have hsum:∀ i,aM (l1++j0::l2) (fun j=>Y i j * w j)=(aM (l1++l2) fun j=>Y i j * v j)+Y i j0 * t:=fun i=>by
    rw[j4,cV,j4];have e1:aM l1 (fun j=>Y i j * w j)=aM l1 fun j=>Y i j * v j:=ar fun j hj=>by rw[hw j (by simp[hj])]
    have e2:aM l2 (fun j=>Y i j * w j)=aM l2 fun j=>Y i j * v j:=ar fun j hj=>by rw[hw j (by simp[hj])]
    have e3:w j0=t:=if_pos rfl;rw[e1,e2,e3];omega
   refine⟨w,⟨j1,by rcases List.mem_append.1 hj1 with h | h <;> simp[h],by rw[hw j1 hj1]; exact hv1⟩,fun i hi=>?_⟩;rw[hsum i];by_cases e:i=s
   ·subst e;have h3:Eqm p (Y i j0 * t) (-(aM (l1++l2) fun j=>Y i j * v j)):=by
     have:=(hb.mul (Eqm.refl (-(aM (l1++l2) fun j=>Y i j * v j))));rw[Int.one_mul] at this;refine Eqm.trans (Eqm.of ?_) this;show Y i j0 * -(b * _)=_;rw[Int.mul_neg,Int.mul_neg,Int.mul_assoc]
    have:=(Eqm.refl (aM (l1++l2) fun j=>Y i j * v j)).add h3;rwa [Int.add_right_neg] at this
   ·have h4:=h2 i (by omega);refine Eqm.trans (Eqm.of ?_) h4;have h5:(aM (l1++l2) fun j=>(Y i j - Y i j0 * b * Y s j) * v j)=(aM (l1++l2) fun j=>Y i j * v j)+aM (l1++l2) fun j=>-(Y i j0 * b) * (Y s j * v j):=by
     rw[← pd];refine ar fun j _=>?_;rw[Int.sub_mul,Int.neg_mul,Int.mul_assoc (Y i j0 * b)];omega
    rw[h5,cY];show _+Y i j0 * -(b * _)=_;rw[Int.mul_neg,Int.neg_mul,Int.mul_assoc]
theorem AU (hp:Fld p){r s:Nat}{X Y:Nat→Nat→Int}(h:∀ i,i<r→∀ j,j<r→Eqm p (aM (List.range s) fun k=>X i k * Y k j) (if i=j then 1 else 0)):r≤s:=by
 apply Classical.byContradiction;intro hlt;obtain ⟨v,⟨j,hj,hv⟩,h2⟩:=pn hp s (List.range r) Y List.nodup_range (by simp; omega);rw[List.mem_range] at hj;apply hv;have h3:Eqm p (aM (List.range r) fun k=>(aM (List.range s) fun i=>X j i * Y i k) * v k) (aM (List.range r) fun k=>(if j=k then 1 else 0) * v k) :=
  Eqm.sum fun k hk=>(h j hj k (List.mem_range.1 hk)).mul (Eqm.refl _)
 have h4:(aM (List.range r) fun k=>(aM (List.range s) fun i=>X j i * Y i k) * v k)=aM (List.range s) fun i=>X j i * aM (List.range r) fun k=>Y i k * v k:=by
  have e:∀ k,(aM (List.range s) fun i=>X j i * Y i k) * v k=aM (List.range s) fun i=>X j i * (Y i k * v k):=fun k=>by
   rw[← ft];exact ar fun i _=>Int.mul_assoc _ _ _
  simp only[e];rw[eO];exact ar fun i _=>cY _ _ _
 have h5:Eqm p (aM (List.range s) fun i=>X j i * aM (List.range r) fun k=>Y i k * v k) 0:=Eqm.sum0 fun i hi=>by
  have:=(Eqm.refl (X j i)).mul (h2 i (List.mem_range.1 hi));rwa [Int.mul_zero] at this
 have h6:∀ n,j<n→(aM (List.range n) fun k=>(if j=k then 1 else 0) * v k)=v j:=fun n hn=>by
  induction n with
  | zero=>omega
  | succ n ih =>
   rw[List.range_succ,j4,cV,lH];by_cases e:j=n
   ·subst e;rw[if_pos rfl,Int.one_mul,ar (g:=fun _=>0) (fun k hk=>by rw[if_neg (by have:=List.mem_range.1 hk; omega),Int.zero_mul]),iG];omega
   ·rw[ih (by omega),if_neg e];omega
 rw[h4,h6 r hj] at h3;exact h3.symm.trans h5
structure dF (p:Int)(A:Nat→Nat→Int)(m n r:Nat):Prop where
 thru:∃ X Y:Nat→Nat→Int,∀ i,i<m→∀ j,j<n→Eqm p (A i j) (aM (List.range r) fun k=>X i k * Y k j)
 one:∃ L R:Nat→Nat→Int,∀ i,i<r→∀ j,j<r→Eqm p (aM (List.range m) fun a=>L i a * aM (List.range n) fun b=>A a b * R b j) (if i=j then 1 else 0)
theorem dF.le (hp:Fld p){A A' U V:Nat→Nat→Int}{m n m' n' r r':Nat}(h:dF p A m n r)(h':dF p A' m' n' r')
  (hu:∀ i,i<m'→∀ j,j<n'→Eqm p (A' i j) (aM (List.range m) fun a=>U i a * aM (List.range n) fun b=>A a b * V b j)):r'≤r:=by
 obtain ⟨X,Y,hXY⟩:=h.thru;obtain ⟨L,R,hLR⟩:=h'.one;refine AU hp (X:=fun i k=>aM (List.range m') fun a=>L i a * aM (List.range m) fun c=>U a c * X c k) (Y:=fun k j=>aM (List.range n') fun b=>(aM (List.range n) fun d=>Y k d * V d b) * R b j) fun i hi j hj=>?_;refine Eqm.trans ?_ (hLR i hi j hj);have key:∀ a,a<m'→∀ b,b<n'→Eqm p (aM (List.range r) fun k=>(aM (List.range m) fun c=>U a c * X c k) * aM (List.range n) fun d=>Y k d * V d b) (A' a b):=fun a ha b hb=>by
  refine Eqm.trans ?_ (hu a ha b hb).symm;have e1:(aM (List.range r) fun k=>(aM (List.range m) fun c=>U a c * X c k) * aM (List.range n) fun d=>Y k d * V d b)=aM (List.range m) fun c=>U a c * aM (List.range n) fun d=>(aM (List.range r) fun k=>X c k * Y k d) * V d b:=by
   have f1:∀ k,((aM (List.range m) fun c=>U a c * X c k) * aM (List.range n) fun d=>Y k d * V d b)=aM (List.range m) fun c=>aM (List.range n) fun d=>U a c * (X c k * Y k d * V d b):=fun k=>by
    rw[← ft];refine ar fun c _=>?_;rw[← cY];refine ar fun d _=>?_;simp only[Int.mul_assoc]
   simp only[f1];rw[eO];refine ar fun c _=>?_;rw[eO,← cY];refine ar fun d _=>?_;rw[cY,ft]
  rw[e1];exact Eqm.sum fun c hc=>(Eqm.refl _).mul (Eqm.sum fun d hd=>(hXY c (List.mem_range.1 hc) d (List.mem_range.1 hd)).symm.mul (Eqm.refl _))
 have e2:(aM (List.range r) fun k=>(aM (List.range m') fun a=>L i a * aM (List.range m) fun c=>U a c * X c k) * aM (List.range n') fun b=>(aM (List.range n) fun d=>Y k d * V d b) * R b j)=aM (List.range m') fun a=>L i a * aM (List.range n') fun b=>(aM (List.range r) fun k=>(aM (List.range m) fun c=>U a c * X c k) * aM (List.range n) fun d=>Y k d * V d b) * R b j:=by
  have f1:∀ k,((aM (List.range m') fun a=>L i a * aM (List.range m) fun c=>U a c * X c k) * aM (List.range n') fun b=>(aM (List.range n) fun d=>Y k d * V d b) * R b j)=aM (List.range m') fun a=>aM (List.range n') fun b=>L i a * (((aM (List.range m) fun c=>U a c * X c k) * aM (List.range n) fun d=>Y k d * V d b) * R b j):=fun k=>by
   rw[← ft];refine ar fun a _=>?_;rw[← cY];refine ar fun b _=>?_;simp only[Int.mul_assoc]
  simp only[f1];rw[eO];refine ar fun a _=>?_;rw[eO,← cY];refine ar fun b _=>?_;rw[cY,ft]
 rw[e2];exact Eqm.sum fun a ha=>(Eqm.refl _).mul (Eqm.sum fun b hb=>(key a (List.mem_range.1 ha) b (List.mem_range.1 hb)).mul (Eqm.refl _))
theorem dF.turn {A:Nat→Nat→Int}{m n r:Nat}(h:dF p A m n r):dF p (fun i j=>A j i) n m r:=by
 obtain ⟨X,Y,hXY⟩:=h.thru;obtain ⟨L,R,hLR⟩:=h.one;refine⟨⟨fun i k=>Y k i,fun k j=>X j k,fun i hi j hj=>(hXY j hj i hi).trans (Eqm.of (ar fun k _=>Int.mul_comm _ _))⟩,⟨fun i a=>R a i,fun b j=>L j b,fun i hi j hj=>?_⟩⟩;have h1:=hLR j hj i hi;rw[show (if j=i then (1:Int) else 0)=if i=j then 1 else 0 by by_cases e:i=j <;> simp[e,eq_comm]] at h1;refine Eqm.trans (Eqm.of ?_) h1;have f1:∀ a,R a i * (aM (List.range m) fun b=>A b a * L j b)=aM (List.range m) fun b=>L j b * (A b a * R a i):=fun a=>by
  rw[← cY];refine ar fun b _=>?_;rw[Int.mul_comm,Int.mul_comm (A b a),Int.mul_assoc]
 simp only[f1];rw[eO];exact ar fun b _=>cY _ _ _
end
end Go.Pl
