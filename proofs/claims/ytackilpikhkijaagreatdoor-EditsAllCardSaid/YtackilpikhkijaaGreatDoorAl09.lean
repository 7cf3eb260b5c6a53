/- Sec2 Rgt4 Rgt5 Aro2 Ren1 Ren2 Ren3 Par0 Shu SyX SyY SyU RefA SyW Wid1 Wid2 Wid3 -/
import Derived.Test.YtackilpikhkijaaGreatDoorAl07
import Derived.Test.YtackilpikhkijaaGreatDoorAl08
import Derived.Test.YtackilpikhkijaaGreatDoorAl05
import Derived.Test.YtackilpikhkijaaGreatDoorAl04
import Derived.RangeFuncLeaves
import Derived.RangeFuncRecord
import Derived.RangeFuncSeq
import Derived.OrdersIn
import Derived.TacticsIn
import Derived.Test.YtackilpikhkijaaGreatDoorAl06
import Derived.Laws.BytesString
import Derived.Laws.Strings
import Derived.Test.YtackilpikhkijaaGreatDoorAl02
import Derived.Shelf.Strings.Trim
set_option linter.unusedSimpArgs false
set_option linter.unusedVariables false
namespace Go.Proofs.YtackilpikhkijaaGreatDoor
open _root_.Go.Proofs.Tryz _root_.Go.Proofs.YtackilpikhkijaaGreatDoor.Tryz
open Go Go.Sy Go.Pl Go.Proofs
inductive Cn (E:Int→Int→Prop):Int→Int→Prop
 | refl (a:Int):Cn E a a
 | step {a b c:Int} (h:E a b∨E b a) (r:Cn E b c):Cn E a c
theorem Cn.trans {E:Int→Int→Prop}{a b c:Int}(h:Cn E a b)(k:Cn E b c):Cn E a c:=by
 induction h with
 | refl _=>exact k
 | step h _ ih=>exact .step h (ih k)
theorem Cn.one {E:Int→Int→Prop}{a b:Int}(h:E a b):Cn E a b:=.step (.inl h) (.refl b)
theorem Cn.symm {E:Int→Int→Prop}{a b:Int}(h:Cn E a b):Cn E b a:=by
 induction h with
 | refl _=>exact .refl _
 | step h _ ih=>exact ih.trans (.step h.symm (.refl _))
theorem Cn.mono {E E':Int→Int→Prop}(h:∀ a b,E a b→Cn E' a b){a b:Int}(hc:Cn E a b):Cn E' a b:=by
 induction hc with
 | refl _=>exact .refl _
 | step e _ ih =>
  rcases e with e | e
  ·exact (h _ _ e).trans ih
  ·exact (h _ _ e).symm.trans ih
theorem Cn.iso {E:Int→Int→Prop}{a b:Int}(h:∀ b,¬ E a b∧¬ E b a)(hc:Cn E a b):a=b:=by
 cases hc with
 | refl _=>rfl
 | step e _ =>
  rcases e with e | e
  ·exact absurd e (h _).1
  ·exact absurd e (h _).2
theorem Cn.add {E E':Int→Int→Prop}{x y:Int}(h:∀ a b,E' a b↔E a b∨(a=x∧b=y))(a b:Int):Cn E' a b↔Cn E a b∨(Cn E a x∧Cn E y b)∨(Cn E a y∧Cn E x b):=by
 have hxy:Cn E' x y:=.one ((h x y).2 (.inr ⟨rfl,rfl⟩));have hm:∀ {a b:Int},Cn E a b→Cn E' a b:=fun hc=>hc.mono fun a b e=>.one ((h a b).2 (.inl e));constructor
 ·intro hc;induction hc with
  | refl _=>exact .inl (.refl _)
  | step e _ ih =>
   have key:∀ {p q r:Int},Cn E p q→(Cn E q r∨(Cn E q x∧Cn E y r)∨(Cn E q y∧Cn E x r))→Cn E p r∨(Cn E p x∧Cn E y r)∨(Cn E p y∧Cn E x r):=by
    rintro p q r h1 (h2 | ⟨h2,h3⟩ | ⟨h2,h3⟩)
    ·exact .inl (h1.trans h2)
    ·exact .inr (.inl ⟨h1.trans h2,h3⟩)
    ·exact .inr (.inr ⟨h1.trans h2,h3⟩)
   rcases e with e | e
   ·rcases (h _ _).1 e with e | ⟨rfl,rfl⟩
    ·exact key (.one e) ih
    ·rcases ih with h2 | ⟨_,h3⟩ | ⟨_,h3⟩
     ·exact .inr (.inl ⟨.refl _,h2⟩)
     ·exact .inr (.inl ⟨.refl _,h3⟩)
     ·exact .inl h3
   ·rcases (h _ _).1 e with e | ⟨rfl,rfl⟩
    ·exact key (Cn.one e).symm ih
    ·rcases ih with h2 | ⟨_,h3⟩ | ⟨_,h3⟩
     ·exact .inr (.inr ⟨.refl _,h2⟩)
     ·exact .inl h3
     ·exact .inr (.inr ⟨.refl _,h3⟩)
 ·rintro (h1 | ⟨h1,h2⟩ | ⟨h1,h2⟩)
  ·exact hm h1
  ·exact (hm h1).trans (hxy.trans (hm h2))
  ·exact (hm h1).trans (hxy.symm.trans (hm h2))
def gy (ml:List (Int×List Int))(a b:Int):Prop:=∃ p∈ml,p.2.head?=some a∧b∈p.2
def RZ (e:En)(z:Int×Int):Prop:=e.id=z.1∧e.sum=z.2
def RM (e:En)(p:Int×List Int):Prop:=e.id=p.1∧e.many=p.2.length∧p.2.head?=some (e.fst:Int)
theorem pz {x:Int}(h : -9223372036854775808≤x∧x<9223372036854775808):wr x=x:=IntWalk.i64_in _ oM
theorem Ae {i:Nat}{c p:Int}:∀ {es:List En} {zl:List (Int×Int)},aC RZ es zl→(∀ e∈es,wr (e.sum+p)=e.sum+p)→wr (0+p)=p→aC RZ (ke i c p es) (sr zl c p)
 | [],[],_,_,hp=>⟨⟨rfl,hp⟩,trivial⟩
 | e::es,(a,z)::zl,h,hb,hp=>by
  obtain ⟨⟨h1,h2⟩,h3⟩:=h;have h1:e.id=a:=h1;have h2:e.sum=z:=h2;simp only[ke,sr];by_cases hc:e.id=c
  ·rw[if_pos hc,if_pos (by rw[← h1,hc])];exact⟨⟨h1,by show wr (e.sum+p)=z+p; rw[hb e (by simp),h2]⟩,h3⟩
  ·rw[if_neg hc,if_neg (by rw[← h1]; exact fun e=>hc e.symm)];exact⟨⟨h1,h2⟩,Ae h3 (fun x hx=>hb x (by simp[hx])) hp⟩
 | [],_::_,h,_,_=>h.elim
 | _::_,[],h,_,_=>h.elim
theorem Af {i:Nat}{c p:Int}:∀ {es:List En} {ml:List (Int×List Int)},aC RM es ml→(∀ e∈es,wr (e.many+1)=e.many+1)→aC RM (ke i c p es) (jn ml c i) ∧
  ∀ a b,gy (jn ml c i) a b↔gy ml a b∨(a=jg i c es∧b=i)
 | [],[],_,_=>by
  refine⟨⟨⟨rfl,by rfl,rfl⟩,trivial⟩,fun a b=>?_⟩;constructor
  ·rintro ⟨q,hq,h1,h2⟩;simp[jn] at hq;subst hq;simp at h1 h2;exact .inr ⟨h1.symm,h2⟩
  ·rintro (⟨q,hq,_⟩ | ⟨rfl,rfl⟩)
   ·simp at hq
   ·exact⟨(c,[(i:Int)]),by simp[jn],I,by simp⟩
 | e::es,(k,l)::ml,h,hb=>by
  obtain ⟨⟨h1,h2,h4⟩,h3⟩:=h;have h1:e.id=k:=h1;have h2:e.many=l.length:=h2;have h4:l.head?=some (e.fst:Int):=h4;simp only[ke,jn,jg];by_cases hc:e.id=c
  ·rw[if_pos hc,if_pos (by rw[← h1,hc]),if_pos hc];have hh:(l++[(i:Int)]).head?=some (e.fst:Int):=by
    cases l with
    | nil=>simp at h4
    | cons x r=>simpa using h4
   refine⟨⟨⟨h1,by show wr (e.many+1)=_; rw[hb e (by simp),h2]; simp,hh⟩,h3⟩,fun a b=>?_⟩;constructor
   ·rintro ⟨q,hq,h5,h6⟩
    rcases List.mem_cons.1 hq with rfl | hq
    ·dsimp only at h5 h6;rw[hh] at h5
     rcases List.mem_append.1 h6 with h6 | h6
     ·exact .inl ⟨(k,l),by simp,by rw[h4,h5],h6⟩
     ·simp at h6;injection h5 with h5
      exact .inr ⟨h5.symm,h6⟩
    ·exact .inl ⟨q,by simp[hq],h5,h6⟩
   ·rintro (⟨q,hq,h5,h6⟩ | ⟨rfl,rfl⟩)
    ·rcases List.mem_cons.1 hq with rfl | hq
     ·exact⟨(k,l++[(i:Int)]),by simp,by rw[hh,← h4,h5],by simp[h6]⟩
     ·exact⟨q,by simp[hq],h5,h6⟩
    ·exact⟨(k,l++[(i:Int)]),by simp,hh,by simp⟩
  ·rw[if_neg hc,if_neg (by rw[← h1]; exact fun e=>hc e.symm),if_neg hc];obtain ⟨i1,i2⟩:=Af (i:=i) (c:=c) (p:=p) h3 fun x hx=>hb x (by simp[hx]);refine⟨⟨⟨h1,h2,h4⟩,i1⟩,fun a b=>?_⟩;have e1:∀ L,gy ((k,l)::L) a b↔(l.head?=some a∧b∈l)∨gy L a b:=fun L=>by
    unfold gy;simp
   rw[e1,e1,i2,or_assoc]
 | [],_::_,h,_=>h.elim
 | _::_,[],h,_=>h.elim
structure Sd (n t k:Nat)(es:List En)(part:List Int)(zl:List (Int×Int))(ml:List (Int×List Int)):Prop where
 z:aC RZ es zl
 m:aC RM es ml
 bz:∀ e∈es,-(t:Int)≤e.sum∧e.sum≤t∧0≤e.many∧e.many≤t
 bf:∀ e∈es,e.fst<k
 bm:∀ p∈ml,∀ x∈p.2,0≤x∧x<k
 len:part.length=n
 bp:∀ a,a<k→0≤part.getD a 0∧part.getD a 0<k
 cn:∀ a b:Nat,a<k→b<k→(part.getD a 0=part.getD b 0↔Cn (gy ml) a b)
theorem ky {ml:List (Int×List Int)}{k:Nat}(h:∀ p∈ml,∀ x∈p.2,0≤x∧x<(k:Int)){a b:Int}(hl:gy ml a b):(0≤a∧a<k)∧(0≤b∧b<k):=by
 obtain ⟨p,hp,h1,h2⟩:=hl;exact⟨h p hp a (List.mem_of_head? h1),h p hp b h2⟩
theorem Sd.open {n t k:Nat}{es:List En}{part:List Int}{zl:List (Int×Int)}{ml:List (Int×List Int)}(h:Sd n t k es part zl ml)(hk:k<n):Sd n t (k+1) es (part.set k k) zl ml:=by
 have hl:=h.len;have g1:(part.set k (k:Int)).getD k 0=k:=by rw[List.getD_eq_getElem?_getD,List.getElem?_set]; simp[hl,hk]
 have g2:∀ a,a≠k→(part.set k (k:Int)).getD a 0=part.getD a 0:=fun a ha=>by
  rw[List.getD_eq_getElem?_getD,List.getD_eq_getElem?_getD,List.getElem?_set,if_neg fun e=>ha e.symm]
 have iso:∀ b,¬ gy ml k b∧¬ gy ml b k:=fun b=>⟨fun e=>by have:=ky h.bm e; omega,fun e=>by have:=ky h.bm e; omega⟩;refine⟨h.z,h.m,h.bz,fun e he=>by have:=h.bf e he; omega,fun p hp x hx=>by have:=h.bm p hp x hx; omega,by simp[hl],fun a ha=>?_,fun a b ha hb=>?_⟩
 ·by_cases e:a=k
  ·subst e; rw[g1]; omega
  ·rw[g2 a e]; have:=h.bp a oM; omega
 ·by_cases e:a=k <;> by_cases e2:b=k
  ·subst e; subst e2; exact⟨fun _=>.refl _,fun _=>rfl⟩
  ·subst e;rw[g1,g2 b e2];have:=h.bp b oM;exact⟨fun h=>by omega,fun hc=>by have:=hc.iso iso; omega⟩
  ·subst e2;rw[g1,g2 a e];have:=h.bp a oM;exact⟨fun h=>by omega,fun hc=>by have:=hc.symm.iso iso; omega⟩
  ·rw[g2 a e,g2 b e2];exact h.cn a b oM oM
theorem jX {m:Nat}{old now:Int}{p:List Int}{a:Nat}(h:a<p.length)(hm:a<m):(em m old now p).getD a 0=if p.getD a 0=now then old else p.getD a 0:=by
 rw[List.getD_eq_getElem?_getD,List.getD_eq_getElem?_getD];simp only[em,List.getElem?_mapIdx,gE h,Option.map_some,Option.getD_some,hm,true_and]
theorem zy {i:Nat}{c:Int}{es:List En}(h:∀ e∈es,e.fst<i+1):jg i c es<i+1:=by
 induction es with
 | nil=>exact Nat.lt_succ_self i
 | cons e r ih =>
  unfold jg;split
  ·exact h e (by simp)
  ·exact ih fun x hx=>h x (by simp[hx])
theorem uC {P:En→Prop}{i:Nat}{c p:Int}(hn:P (En.up ⟨c,0,0,i⟩ p))(hu:∀ e,P e→P (e.up p))(ho:∀ e,P e→P e):∀ {es:List En},(∀ e∈es,P e)→∀ e∈ke i c p es,P e
 | [],_,e,he=>by simp[ke] at he; subst he; exact hn
 | x::r,h,e,he=>by
  unfold ke at he;split at he
  ·rcases List.mem_cons.1 he with rfl | he
   ·exact hu x (h x (by simp))
   ·exact h e (by simp[he])
  ·rcases List.mem_cons.1 he with rfl | he
   ·exact h e (by simp)
   ·exact uC hn hu ho (fun y hy=>h y (by simp[hy])) e he
theorem uL {P:Int→Prop}{c:Int}{i:Int}(hi:P i):∀ {ml:List (Int×List Int)},(∀ p∈ml,∀ x∈p.2,P x)→∀ p∈jn ml c i,∀ x∈p.2,P x
 | [],_,p,hp,x,hx=>by simp[jn] at hp; subst hp; simp at hx; subst hx; exact hi
 | (k,l)::r,h,p,hp,x,hx=>by
  unfold jn at hp;split at hp
  ·rcases List.mem_cons.1 hp with rfl | hp
   ·rcases List.mem_append.1 hx with hx | hx
    ·exact h (k,l) (by simp) x hx
    ·simp at hx; subst hx; exact hi
   ·exact h p (by simp[hp]) x hx
  ·rcases List.mem_cons.1 hp with rfl | hp
   ·exact h (k,l) (by simp) x hx
   ·exact uL hi (fun q hq=>h q (by simp[hq])) p hp x hx
theorem Sd.next {n t i:Nat}{es:List En}{part:List Int}{zl:List (Int×Int)}{ml:List (Int×List Int)}{x r:Side}(h:Sd n t (i+1) es part zl ml)(hi:i<n)(ht:t<1000000)(hx:x.sign=1∨x.sign = -1)(hr:r.sign=1∨r.sign = -1) :
  Sd n (t+1) (i+1) (kO i x.sign (es,part) r).1 (kO i x.sign (es,part) r).2 (rH x zl r) (jH i ml r):=by
 have hp:=ue hx hr;have hw:wr (x.sign * r.sign)=x.sign * r.sign:=pz oM;unfold kO rH jH;dsimp only;rw[hw];generalize x.sign * r.sign=p at *;have hl:=h.len;have hbm:=Af (i:=i) (c:=r.cell) (p:=p) h.m fun e he=>by have:=h.bz e he; exact pz oM
 have hf:=zy (c:=r.cell) h.bf;refine⟨Ae h.z (fun e he=>by have:=h.bz e he; exact pz oM) (by rw[Int.zero_add]; exact pz oM),hbm.1,?_,?_,?_,by rw[kJ]; exact hl,fun a ha=>?_,fun a b ha hb=>?_⟩
 ·have:∀ e∈ke i r.cell p es,(-(t:Int)≤e.sum∧e.sum≤t∧0≤e.many∧e.many≤t)∨(-((t+1:Nat):Int)≤e.sum∧e.sum≤((t+1:Nat):Int)∧0≤e.many∧e.many≤((t+1:Nat):Int)):=by
   have h0:=h.bz;clear h hbm hf hl;generalize hes:ke i r.cell p es=fs;intro e he;subst hes;induction es with
   | nil =>
    simp[ke] at he;subst he;right;simp only[En.up];rw[pz oM,pz oM];omega
   | cons y q ih =>
    unfold ke at he;split at he
    ·rcases List.mem_cons.1 he with rfl | he
     ·right;have:=h0 y (by simp);simp only[En.up];rw[pz oM,pz oM];omega
     ·exact .inl (h0 e (by simp[he]))
    ·rcases List.mem_cons.1 he with rfl | he
     ·exact .inl (h0 e (by simp))
     ·exact ih (fun z hz=>h0 z (by simp[hz])) he
  intro e he
  rcases this e he with h1 | h1 <;> omega
 ·exact uC (P:=fun e=>e.fst<i+1) (Nat.lt_succ_self i) (fun e he=>he) (fun e he=>he) h.bf
 ·exact uL (P:=fun x=>0≤x∧x<((i+1:Nat):Int)) oM h.bm
 ·rw[jX oM ha];split
  ·exact h.bp _ hf
  ·exact h.bp a ha
 ·rw[jX oM ha,jX oM hb,Cn.add (x:=(jg i r.cell es:Int)) (y:=(i:Int)) hbm.2 a b];rw[← h.cn a b ha hb,← h.cn a _ ha hf,← h.cn i b oM hb,← h.cn a i ha oM,← h.cn _ b hf hb];generalize part.getD a 0=pa;generalize part.getD b 0=pb;generalize part.getD i 0=pi;generalize part.getD (jg i r.cell es) 0=pf;by_cases h1:pa=pi <;> by_cases h2:pb=pi <;> simp[h1,h2] <;> omega
theorem Sd.inner {n i:Nat}{x:Side}(hi:i<n)(hx:x.sign=1∨x.sign = -1):∀ (l:List Side) {t:Nat} {es:List En} {part:List Int} {zl:List (Int×Int)} {ml:List (Int×List Int)},Sd n t (i+1) es part zl ml→t+l.length<1000000→(∀ r∈l,r.sign=1∨r.sign = -1) →
  Sd n (t+l.length) (i+1) (l.foldl (kO i x.sign) (es,part)).1 (l.foldl (kO i x.sign) (es,part)).2 (l.foldl (rH x) zl) (l.foldl (jH i) ml)
 | [],_,_,_,_,_,h,_,_=>h
 | r::l,t,es,part,zl,ml,h,ht,hr=>by
  simp only[List.length_cons] at ht;have h1:=h.next (x:=x) (r:=r) hi oM hx (hr r (by simp));have:=Sd.inner hi hx l h1 oM (fun q hq=>hr q (by simp[hq]));simp only[List.foldl_cons,List.length_cons];rw[show t+(l.length+1)=t+1+l.length by omega];exact this
theorem Sd.outer {tl:List Cl}{n:Nat}:∀ (l:List Side) {t k:Nat} {es:List En} {part:List Int} {zl:List (Int×Int)} {ml:List (Int×List Int)},Sd n t k es part zl ml→k+l.length≤n→t+64 * l.length<1000000→(∀ x∈l,x.sign=1∨x.sign = -1)→(∀ x∈l,(bL tl x).length≤64∧∀ r∈bL tl x,r.sign=1∨r.sign = -1) →
  ∃ t',Sd n t' (k+l.length) ((l.zipIdx k).foldl (mG tl) (es,part)).1 ((l.zipIdx k).foldl (mG tl) (es,part)).2 (l.foldl (fun zl x=>(bL tl x).foldl (rH x) zl) zl) ((l.zipIdx k).foldl (fun ml p=>(bL tl p.1).foldl (jH p.2) ml) ml)
 | [],t,_,_,_,_,_,h,_,_,_,_=>⟨t,h⟩
 | x::l,t,k,es,part,zl,ml,h,hk,ht,hs,hq=>by
  simp only[List.length_cons] at hk ht;have h0:=hq x (by simp);have h1:=(h.open oM).inner (x:=x) oM (hs x (by simp)) (bL tl x) oM h0.2;obtain ⟨t',h2⟩:=Sd.outer l h1 oM oM (fun y hy=>hs y (by simp[hy])) (fun y hy=>hq y (by simp[hy]));refine⟨t',?_⟩;simp only[List.zipIdx_cons,List.foldl_cons,List.length_cons];rw[show k+(l.length+1)=k+1+l.length by omega];exact h2
theorem m4 {α β:Type}{R:α→β→Prop}{p:α→Bool}{q:β→Bool}(h:∀ a b,R a b→p a=q b):∀ {l:List α} {m:List β},aC R l m→l.any p=m.any q
 | [],[],_=>rfl
 | a::l,b::m,hr=>by simp only[List.any_cons,h a b hr.1,m4 h hr.2]
 | [],_::_,hr=>hr.elim
 | _::_,[],hr=>hr.elim
theorem zW {ml:List (Int×List Int)}(h2:∀ p∈ml,p.2.length=2)(a b:Int):Rch (jK (ff ml)) a b↔Cn (gy ml) a b:=by
 have hstep:∀ x y,y∈i4 (ff ml) x→Cn (gy ml) x y:=fun x y hy=>by
  obtain ⟨p,hp,h⟩:=(kg ml x y).1 hy
  rcases h with h | h
  ·exact .one ⟨p,hp,by rw[h]; rfl,by rw[h]; simp⟩
  ·exact (Cn.one (E:=gy ml) ⟨p,hp,by rw[h]; rfl,by rw[h]; simp⟩).symm
 have hadj:∀ x,jK (ff ml) x≠none:=fun x=>by simp[jK]
 constructor
 ·intro h;induction h with
  | refl _ _=>exact .refl _
  | step x y _ l hl hy _ ih =>
   simp only[jK,Option.some.injEq] at hl;subst hl;exact (hstep x y hy).trans ih
 ·intro h;induction h with
  | refl a=>exact .refl a (hadj a)
  | @step x y z e _ ih =>
   have key:∀ u v,gy ml u v→v=u∨v∈i4 (ff ml) u:=fun u v ⟨p,hp,h3,h4⟩=>by
    have:=h2 p hp
    match hq:p.2,this with
    | [c,d],_ =>
     rw[hq] at h3 h4;simp at h3 h4;subst h3
     rcases h4 with h4 | h4
     ·exact .inl h4
     ·exact .inr ((kg ml c v).2 ⟨p,hp,.inl (by rw[hq,h4])⟩)
   rcases e with e | e
   ·rcases key x y e with rfl | h5
    ·exact ih
    ·exact .step x y z _ I h5 ih
   ·rcases key y x e with rfl | h5
    ·exact ih
    ·refine .step x y z _ I ?_ ih;obtain ⟨p,hp,h6⟩:=(kg ml y x).1 h5;exact (kg ml x y).2 ⟨p,hp,h6.symm⟩
theorem qG {l:List Int}(hn:l.Nodup)(hb:∀ x∈l,0≤x):(l.map Int.toNat).Nodup:=by
 rw[List.Nodup,List.pairwise_map];refine List.Pairwise.imp_of_mem ?_ hn;intro a b ha hb' hne e;have:=hb a ha;have:=hb b hb';omega
theorem qH {l:List Int}{n:Nat}(hn:l.Nodup)(hb:∀ x∈l,0≤x∧x<(n:Int)):l.length≤n:=by
 have h1:=qG hn fun x hx=>(hb x hx).1;have:=fc (l:=List.range n) h1 List.nodup_range fun x hx=>by
  obtain ⟨y,hy,rfl⟩:=List.mem_map.1 hx;have:=hb y hy;exact List.mem_range.2 oM
 simpa using this
theorem pP {tl:List Cl}{c:Cl}(hok:AOk tl c)(h0:0<c.sides.length):ir tl c=fE tl c:=by
 obtain ⟨h64,hs,hq⟩:=hok;have start:Sd c.sides.length 0 0 [] (List.replicate c.sides.length 0) [] []:=⟨trivial,trivial,by simp,by simp,by simp,by simp,by simp,fun a b ha=>by omega⟩;obtain ⟨t,hd⟩:=start.outer c.sides (tl:=tl) oM oM hs hq;have e1:((c.sides.zipIdx 0).foldl (mG tl) ([],List.replicate c.sides.length 0))=lB tl c.sides c.sides.length:=rfl;rw[e1] at hd;have hz:aC RZ (lB tl c.sides c.sides.length).1 (mF tl c.sides):=hd.z;have hm:aC RM (lB tl c.sides c.sides.length).1 (iZ tl c.sides):=hd.m;unfold ir fE;rw[m4 (p:=fun e=>decide (e.sum≠0)) (q:=fun p:Int×Int=>decide (p.2≠0)) (fun a b h=>by rw[h.2]) hz];rw[m4 (p:=fun e=>decide (e.many≠2)) (q:=fun p:Int×List Int=>decide ((p.2.length:Int)≠2)) (fun a b h=>by rw[h.2.1]) hm];split
 ·rfl
 ·split
  ·rfl
  ·rename_i hno;have h2:∀ p∈iZ tl c.sides,p.2.length=2:=fun p hp=>by
    have:=List.any_eq_false.1 ((Bool.not_eq_true _).mp hno) p hp;simp at this;omega
   have hbm:∀ p∈iZ tl c.sides,∀ x∈p.2,0≤x∧x<((0+c.sides.length:Nat):Int):=hd.bm;rw[Nat.zero_add] at hbm;have hcn:∀ a b:Nat,a<c.sides.length→b<c.sides.length→((lB tl c.sides c.sides.length).2.getD a 0=(lB tl c.sides c.sides.length).2.getD b 0↔Rch (jK (ff (iZ tl c.sides))) a b):=fun a b ha hb=>by
    rw[zW h2];exact hd.cn a b oM oM
   have hln:=hd.len;have hmem:∀ x:Int,x∈mL (ff (iZ tl c.sides))↔Rch (jK (ff (iZ tl c.sides))) 0 x:=fun x=>wI (cnt:=nG (ff (iZ tl c.sides))) (fun v v' h=>kC h) (nx _) (Nat.lt_succ_of_le (List.length_filter_le _ _)) (by simp[jK]) x;have hnd:(mL (ff (iZ tl c.sides))).Nodup:=kB _ _ _ _ (by simp);have hin:∀ x∈mL (ff (iZ tl c.sides)),0≤x∧x<(c.sides.length:Int):=fun x hx=>by
    have hr:=(zW h2 0 x).1 ((hmem x).1 hx);have:∀ a b,Cn (gy (iZ tl c.sides)) a b→(0≤a∧a<(c.sides.length:Int))→(0≤b∧b<(c.sides.length:Int)):=by
     intro a b h;induction h with
     | refl _=>exact fun h=>h
     | step e _ ih =>
      intro _
      rcases e with e | e
      ·exact ih (ky hbm e).2
      ·exact ih (ky hbm e).1
    exact this 0 x hr oM
   generalize (lB tl c.sides c.sides.length).2=part at *;generalize mL (ff (iZ tl c.sides))=seen at *;by_cases hall:∀ a,a<c.sides.length→part.getD a 0=part.getD 0 0
   ·have hf:part.any (fun x=>decide (x≠part.getD 0 0))=false:=by
     rw[List.any_eq_false];intro x hx;obtain ⟨i,hi,rfl⟩:=List.getElem_of_mem hx;have:=hall i oM;rw[List.getD_eq_getElem?_getD,gE hi] at this;simpa using this
    have hlen:seen.length=c.sides.length:=by
     refine Nat.le_antisymm (qH hnd hin) ?_;have h3:=fc (m:=List.range c.sides.length) (l:=seen.map Int.toNat) List.nodup_range (qG hnd fun x hx=>(hin x hx).1) fun i hi=>by
      have hi:=List.mem_range.1 hi;exact List.mem_map.2 ⟨(i:Int),(hmem i).2 ((hcn 0 i h0 hi).1 (hall i hi).symm),by simp⟩
     simpa using h3
    rw[hf,hlen];simp
   ·have ht:part.any (fun x=>decide (x≠part.getD 0 0))=true:=by
     simp only[Classical.not_forall] at hall;obtain ⟨a,ha,hne⟩:=hall;rw[List.any_eq_true];refine⟨part.getD a 0,?_,by simpa using hne⟩;rw[List.getD_eq_getElem?_getD,gE oM];exact gM _
    have hlen:(seen.length:Int)≠c.sides.length:=by
     simp only[Classical.not_forall] at hall;obtain ⟨a,ha,hne⟩:=hall;have hna:(a:Int) ∉ seen:=fun h=>hne ((hcn 0 a h0 ha).2 ((hmem a).1 h)).symm;have:=qH (l:=(a:Int)::seen) (n:=c.sides.length) (List.nodup_cons.2 ⟨hna,hnd⟩) fun x hx=>by
      rcases List.mem_cons.1 hx with rfl | hx
      ·omega
      ·exact hin x hx
     simp at this;omega
    rw[ht,if_pos rfl,if_pos hlen]
theorem fH {tl:List Cl}:∀ {l:List Cl} {n:Int},fV tl l n=none→l.Pairwise (fun a b=>a.id<b.id)∧(∀ x∈l,n<x.id)∧∀ x∈l,cN tl x=0
 | [],_,_=>⟨List.Pairwise.nil,by simp,by simp⟩
 | x::r,n,h=>by
  unfold fV at h;split at h
  ·cases h
  ·rename_i hid;split at h
   ·cases h
   ·rename_i hf;obtain ⟨h1,h2,h3⟩:=fH h;refine⟨List.pairwise_cons.2 ⟨h2,h1⟩,fun y hy=>?_,fun y hy=>?_⟩
    ·rcases List.mem_cons.1 hy with rfl | hy
     ·omega
     ·have:=h2 y hy; omega
    ·rcases List.mem_cons.1 hy with rfl | hy
     ·exact Decidable.of_not_not hf
     ·exact h3 y hy
theorem fJ (l:List Cl):aM l=aJ l:=by
 unfold aM aJ;split
 ·rfl
 ·cases h:fV (am l) (aa l) 0 with
  | some p=>rfl
  | none =>
   obtain ⟨h1,_,h3⟩:=fH h;have ht:=dN h1;have key:∀ m:List Cl,(∀ x∈m,x∈aa l)→lE (aa l) m=nR (am l) m:=by
    intro m;induction m with
    | nil=>intro _; rfl
    | cons x r ih =>
     intro hm;have hx:=hm x (by simp);unfold lE nR;rw[ih fun y hy=>hm y (by simp[hy])];by_cases hd:x.dim>1
     ·have hok:=ws h3 hx;have hn:0<x.sides.length:=by
       have hf:=h3 x hx;unfold cN at hf;split at hf
       ·cases hf
       ·split at hf
        ·cases hf
        ·rename_i hc;simp[a7] at hc;have:=hc.2 hd;omega
      rw[ht] at hok ⊢;rw[pP hok hn]
     ·simp[hd]
   rw[key _ fun x hx=>hx]
set_option maxRecDepth 10000
theorem zK {l:List Cl}(h:(aJ l).2=0):fV (am l) (aa l) 0=none:=by
 unfold aJ at h;split at h
 ·simp at h
 ·cases h1:fV (am l) (aa l) 0 with
  | none=>rfl
  | some p=>rw[h1] at h; exact absurd h (sD h1)
section
variable {A:List (List Int)}(hA:uP A)
include hA
end
theorem A9 {tl:List Cl}{c:Cl}(h1:0≤c.dim∧c.dim≤8)(h2:a7 c=false)(h3:∀ x∈c.sides,∃ d,aA tl x.cell=some d∧d.dim=c.dim - 1)(h4:c.sides.Pairwise fun a b=>a.cell<b.cell)(h5:∀ x∈c.sides,x.sign=1∨x.sign = -1)(h6:c.dim=1→nF c.sides=0):cN tl c=0:=by
 have e1:fe c=false:=by unfold fe; simp; omega
 have e3:(List.range c.sides.length).any (fQ tl c)=false:=by
  rw[List.any_eq_false];intro i hi;have hi:=List.mem_range.1 hi;obtain ⟨d,hd1,hd2⟩:=h3 _ (gM hi);unfold fQ;rw[gE hi];show ¬ ci _ _ i c.sides[i]=true;unfold ci;rw[hd1];simp only[Option.isSome_some,Bool.not_true,Bool.false_or,Option.getD_some,hd2,ne_eq,not_true_eq_false,decide_false];by_cases hi0:i>0
  ·have hlt:=List.pairwise_iff_getElem.1 h4 (i - 1) i oM hi oM;rw[gE oM];simp;omega
  ·simp[hi0]
 have e4:c.sides.any cg=false:=by
  rw[List.any_eq_false];intro x hx
  rcases h5 x hx with h | h <;> simp[cg,h]
 have e5:(decide (c.dim=1)&&decide (nF c.sides≠0))=false:=by
  by_cases hd:c.dim=1
  ·rw[h6 hd]; simp
  ·simp[hd]
 unfold cN;rw[e1,h2,e3,e4,e5];rfl
section
variable {A B:List (List Int)}(hA:uP A)(hB:uP B)
include hA hB
omit hA in
omit hA in
end
section
variable {A B:List (List Int)}(hA:uP A)(hB:uP B)
include hA hB
end
structure Few (a:List Cl)(A:List (List Int)):Prop where
 good:uP A
 cells:a=A.map (celC A)
 small:∀ s∈A,s.length≤3
 few:A.length≤14
structure Fm (tl:List Cl)(c:Cl):Prop where
 dim:0≤c.dim∧c.dim≤8
 cnt:a7 c=false
 found:∀ x∈c.sides,∃ d,aA tl x.cell=some d∧d.dim=c.dim - 1
 asc:c.sides.Pairwise fun a b=>a.cell<b.cell
 sg:∀ x∈c.sides,x.sign=1∨x.sign = -1
 one:c.dim=1→nF c.sides=0
theorem Fm.ok {tl:List Cl}{c:Cl}(h:Fm tl c):cN tl c=0:=A9 h.dim h.cnt h.found h.asc h.sg h.one
theorem BW {l:List Side}(hs:l.Pairwise fun a b=>a.cell≤b.cell)(hd:∀ i x y,l[i]?=some x→l[i+1]?=some y→x.cell≠y.cell):l.Pairwise fun a b=>a.cell<b.cell:=by
 induction l with
 | nil=>exact List.Pairwise.nil
 | cons a r ih =>
  obtain ⟨h1,h2⟩:=List.pairwise_cons.1 hs;have hr:=ih h2 fun i x y hx hy=>hd (i+1) x y (by simpa using hx) (by simpa using hy);refine List.pairwise_cons.2 ⟨fun b hb=>?_,hr⟩;cases r with
  | nil=>simp at hb
  | cons z q =>
   have hz:a.cell<z.cell:=by
    have:=h1 z (by simp);have:=hd 0 a z rfl rfl;omega
   rcases List.mem_cons.1 hb with rfl | hb
   ·exact hz
   ·have:=(List.pairwise_cons.1 hr).1 b hb;omega
theorem Bs {tl:List Cl}{c:Cl}(h:cN tl c=0)(hs:c.sides.Pairwise fun a b=>a.cell≤b.cell):Fm tl c:=by
 unfold cN at h;split at h
 ·cases h
 ·rename_i h1;split at h
  ·cases h
  ·rename_i h2;split at h
   ·cases h
   ·rename_i h3;split at h
    ·cases h
    ·rename_i h4;split at h
     ·cases h
     ·rename_i h5;have hbad:∀ i x,c.sides[i]?=some x→ci tl c i x=false:=fun i x hx=>by
       have hi:=(List.getElem?_eq_some_iff.1 hx).1;have:=List.any_eq_false.1 ((Bool.not_eq_true _).mp h3) i (List.mem_range.2 hi);unfold fQ at this;rw[hx] at this;simpa using this
      refine⟨?_,by simpa using h2,fun x hx=>?_,BW hs fun i x y hx hy e=>?_,fun x hx=>?_,fun hd=>?_⟩
      ·simp[fe] at h1; omega
      ·obtain ⟨i,hi,rfl⟩:=List.getElem_of_mem hx;have:=hbad i _ (gE hi);unfold ci at this;simp only[Bool.or_eq_false_iff,Bool.not_eq_false',decide_eq_false_iff_not,ne_eq,Decidable.not_not] at this;obtain ⟨⟨g1,g2⟩,_⟩:=this;obtain ⟨d,hd⟩:=Option.isSome_iff_exists.1 g1;rw[hd] at g2;exact⟨d,hd,g2⟩
      ·have:=hbad (i+1) y hy;unfold ci at this;rw[show i+1 - 1=i by omega,hx] at this;simp[e] at this
      ·have:=List.any_eq_false.1 ((Bool.not_eq_true _).mp h4) x hx;simp[cg] at this;by_cases h6:x.sign=1
       ·exact .inl h6
       ·exact .inr (this h6)
      ·simpa [hd] using h5
structure Rt (l:List Cl):Prop where
 few:l.length≤4000
 asc:l.Pairwise fun a b=>a.id<b.id
 pos:∀ x∈l,0<x.id
 form:∀ x∈l,Fm l x
 around:∀ x∈l,x.dim>1→fE l x=0
theorem Rt.canon {l:List Cl}(h:Rt l):aa l=l:=by
 unfold aa;rw[(cH (key:=Cl.id) (h.asc.imp fun h=>by omega) (aF.refl l)).symm];have:∀ c∈l,fB c=c:=fun c hc=>by
  unfold fB;rw[(cH (key:=Side.cell) ((h.form c hc).asc.imp fun h=>by omega) (aF.refl c.sides)).symm]
 rw[List.map_congr_left this];simp
theorem Rt.tab {l:List Cl}(h:Rt l):am l=l:=by rw[dN (by rw[h.canon]; exact h.asc),h.canon]
theorem Rt.find {l:List Cl}(h:Rt l){c:Cl}(hc:c∈l):aA l c.id=some c:=by
 refine uy ?_ hc;rw[List.Nodup,List.pairwise_map];exact h.asc.imp fun h=>by omega
theorem jR {tl:List Cl}:∀ {l:List Cl},nR tl l=none→∀ x∈l,x.dim>1→fE tl x=0
 | [],_,x,hx,_=>by simp at hx
 | y::r,h,x,hx,hd=>by
  unfold nR at h;split at h
  ·cases h
  ·rename_i hn
   rcases List.mem_cons.1 hx with rfl | hx
   ·exact Decidable.of_not_not fun h=>hn ⟨hd,h⟩
   ·exact jR h x hx hd
theorem re {tl:List Cl}:∀ {l:List Cl} {p:Int×Int},nR tl l=some p→p.2≠0
 | [],_,h=>by cases h
 | y::r,p,h=>by
  unfold nR at h;split at h
  ·rename_i hn; cases h; exact hn.2
  ·exact re h
theorem ny (l:List Cl):∀ c∈aa l,c.sides.Pairwise fun a b=>a.cell≤b.cell:=fun c hc=>by
 obtain ⟨d,_,rfl⟩:=List.mem_map.1 hc;exact co d.sides
theorem wj {l:List Cl}(h:(aJ l).2=0):Rt (aa l):=by
 have h1:=zK h;obtain ⟨h2,h3,h4⟩:=fH h1;have ht:=dN h2;have h5:l.length≤4000:=yo h;refine⟨by rw[bU]; exact h5,h2,h3,fun x hx=>Bs (by rw[← ht]; exact h4 x hx) (ny l x hx),?_⟩;have h6:nR (am l) (aa l)=none:=by
  unfold aJ at h;rw[if_neg oM,h1] at h;cases hc:nR (am l) (aa l) with
  | none=>rfl
  | some p =>
   rw[hc] at h;exact absurd h (re hc)
 rw[ht] at h6;exact jR h6
theorem xA {l m:List Int}(h:l.Perm m):l.sum=m.sum:=by
 induction h with
 | nil=>rfl
 | cons x _ ih=>simp[ih]
 | swap x y l=>simp; omega
 | trans _ _ ih1 ih2=>exact ih1.trans ih2
theorem s6 {α:Type}{key:α→Int}(l:List α):(sortBy key l).Perm l:=by
 have hi:∀ (x:α) (l:List α),(ins key x l).Perm (x::l):=by
  intro x l;induction l with
  | nil=>exact .refl _
  | cons y r ih =>
   unfold ins;split
   ·exact .refl _
   ·exact (ih.cons y).trans (.swap x y r)
 induction l with
 | nil=>exact .refl _
 | cons x r ih=>exact (hi x _).trans (ih.cons x)
def inner (tl:List Cl)(x:Side)(r:Int):Int:=((bL tl x).map fun q=>if q.cell=r then x.sign * q.sign else 0).sum
structure Nm (l:List Cl)(k:Int):Prop where
 inj:∀ a∈l,∀ b∈l,lm a.id k=lm b.id k→a=b
 pos:∀ a∈l,0<lm a.id k
section
variable {l:List Cl}(h:Rt l){k:Int}(hn:Nm l k)(t:Int)
include h hn
omit hn in
omit h hn in
omit h hn in
omit h hn in
omit hn in
omit h hn in
end
set_option maxRecDepth 100000
def part (l:List Cl)(p:Int→Bool):List Cl:=l.filter fun c=>p c.id
theorem Rt.same {l:List Cl}(h:Rt l){a b:Cl}(ha:a∈l)(hb:b∈l)(e:a.id=b.id):a=b:=by
 have f1:=h.find ha;have f2:=h.find hb;rw[e,f2] at f1;injection f1 with f1
 exact f1.symm
set_option maxHeartbeats 1000000
theorem aC.set {α β:Type}{R:α→β→Prop}{a:α}{b:β}(h:R a b):∀ {l:List α} {m:List β} (k:Nat),aC R l m→aC R (l.set k a) (m.set k b)
 | [],[],_,_=>trivial
 | _::_,_::_,0,h'=>⟨h,h'.2⟩
 | _::_,_::_,k+1,h'=>⟨h'.1,aC.set h k h'.2⟩
 | [],_::_,_,h'=>h'.elim
 | _::_,[],_,h'=>h'.elim
def ShC (a b:Cl):Prop:=a.id=b.id∧a.dim=b.dim∧a.sides.Perm b.sides
def ShL (l m:List Cl):Prop:=∃ l1:List Cl,l1.Perm l∧aC ShC l1 m
theorem ShL.fits {l m:List Cl}(h:ShL l m)(hf:be l):be m:=by
 obtain ⟨l1,h1,h2⟩:=h;refine⟨by rw[← h2.length,h1.length_eq]; exact hf.1,fun c hc=>?_⟩;have:∀ {l m:List Cl},aC ShC l m→∀ c∈m,∃ d∈l,ShC d c:=by
  intro l;induction l with
  | nil=>intro m h c hc; cases m with | nil=>cases hc | cons _ _=>exact h.elim
  | cons x t ih =>
   intro m h c hc;cases m with
   | nil=>cases hc
   | cons y m =>
    rcases List.mem_cons.1 hc with rfl | hc
    ·exact⟨x,by simp,h.1⟩
    ·obtain ⟨d,hd,he⟩:=ih h.2 c hc;exact⟨d,by simp[hd],he⟩
 obtain ⟨d,hd,he⟩:=this h2 c hc;rw[← he.2.2.length_eq];exact hf.2 d (h1.mem_iff.1 hd)
end Go.Proofs.YtackilpikhkijaaGreatDoor
namespace Go.Sy
open Go
structure Md where
 ro:Option Nat
 ds:List Deferred
def wf (ro:Option Nat):Fence:={ fn:=fun _=>True,depth:=none,alive:=false,round:=ro }
def ma (a:Act):Act:={ a with defers:=[] }
theorem mY (a:Act):(ma a).eval=a.eval:=by funext x; cases x <;> rfl
theorem zN (a:Act)(d:Option Tmp)(v:Value):ma (a.put d v)=(ma a).put d v:=by cases d <;> rfl
theorem ot (a:Act)(d:Option Tmp)(v:Value):(a.put d v).defers=a.defers:=by cases d <;> rfl
def Okd (ds:List Deferred)(N:Nat)(f:Fr)(a:Act):Prop:=a.defers=ds∧Ok N f (ma a)
section
variable {P:Program}{M:Md}{N:Nat}{E:World}{Q:Exit→Act→World→Prop}{f f':Fr}{g g':PH}{s s':Own}{ops:Array Oper}
theorem Okd.put {ds:List Deferred}{a:Act}(h:Okd ds N f a){d:Nat}(hlt:d<N)(v:Value):Okd ds N ((d,v)::f) (a.put (some d) v):=⟨h.1,by rw[zN]; exact h.2.put hlt v⟩
theorem Okd.sub {ds:List Deferred}{a:Act}(h:Okd ds N f a)(hs:Sub f' f):Okd ds N f' a:=⟨h.1,h.2.sub hs⟩
theorem Okd.ev {ds:List Deferred}{a:Act}(h:Okd ds N f a){x:Operand}{v:Value}(hx:Sy.ev f x=some v):a.eval x=v:=by rw[← mY]; exact h.2.ev hx
def XC (P:Program)(M:Md)(N:Nat)(E:World)(c:Code)(Q:Exit→Act→World→Prop)(f:Fr)(g:PH)(s:Own):Prop:=∀ a w,Okd M.ds N f a→At E g s w→c.wpIn (wf M.ro) 0 P Q a w
def XT (M:Md)(N:Nat)(E:World)(Q:Exit→Act→World→Prop)(e:Exit)(f:Fr)(g:PH)(s:Own):Prop:=∀ a w,Okd M.ds N f a→At E g s w→Q e a w
def XL (P:Program)(M:Md)(N:Nat)(E:World)(ops:Array Oper)(Q:Exit→Act→World→Prop)(l:List Oper)(f:Fr)(g:PH)(s:Own):Prop:=∀ a w,Okd M.ds N f a→At E g s w→wpListIn (wf M.ro) 0 P ops Q l a w
def XO (P:Program)(M:Md)(N:Nat)(E:World)(o:Oper)(f:Fr)(g:PH)(s:Own)(K:Value→PH→Own→Prop):Prop :=
 ∀ a w,Okd M.ds N f a→At E g s w→∀ (Q:Exit→Act→World→Prop) (next:Act→World→Prop),
  (∀ v g' s' w',K v g' s'→At E g' s' w'→next (a.put o.dst v) w')→o.wpIn (wf M.ro) 0 P a w next Q
theorem XC.to {c:Code}(h:∀ w,At E g s w→At E g' s' w)(hc:XC P M N E c Q f g' s'):XC P M N E c Q f g s:=fun a w ha hw=>hc a w ha (h w hw)
theorem XT.drop {e:Exit}(hs:s'.Sublist s)(h:XT M N E Q e f g s'):XT M N E Q e f g s:=fun a w ha hw=>h a w ha (hw.sublist hs)
theorem XL.to {l:List Oper}(h:∀ w,At E g s w→At E g' s' w)(hc:XL P M N E ops Q l f g' s'):XL P M N E ops Q l f g s:=fun a w ha hw=>hc a w ha (h w hw)
theorem XC.facts {c:Code}(h:(∃ w,At E g s w)→XC P M N E c Q f g s):XC P M N E c Q f g s:=fun a w ha hw=>h ⟨w,hw⟩ a w ha hw
theorem XL.facts {l:List Oper}(h:(∃ w,At E g s w)→XL P M N E ops Q l f g s):XL P M N E ops Q l f g s:=fun a w ha hw=>h ⟨w,hw⟩ a w ha hw
theorem XT.facts {e:Exit}(h:(∃ w,At E g s w)→XT M N E Q e f g s):XT M N E Q e f g s:=fun a w ha hw=>h ⟨w,hw⟩ a w ha hw
theorem XC.skip (h:XT M N E Q .normal f g s):XC P M N E .skip Q f g s:=fun a w ha hw=>wpIn_skip (h a w ha hw)
theorem XC.ret (h:XT M N E Q .ret f g s):XC P M N E .ret Q f g s:=fun a w ha hw=>wpIn_ret (h a w ha hw)
theorem XC.exit {id:Nat}(h:XT M N E Q (.exit id) f g s):XC P M N E (.exit id) Q f g s:=fun a w ha hw=>wpIn_exit (h a w ha hw)
theorem XC.seq {x y:Code}(h:XC P M N E x (Exit.then (y.wpIn (wf M.ro) 0 P Q) Q) f g s):XC P M N E (.seq x y) Q f g s:=fun a w ha hw=>wpIn_seq (h a w ha hw)
theorem XC.block {id:Nat}{c:Code}(h:XC P M N E c (Exit.inBlock id Q) f g s):XC P M N E (.block id c) Q f g s:=fun a w ha hw=>wpIn_block (h a w ha hw)
theorem XC.cond {c:Operand}{x y:Code}{t:Bool}(hc:ev f c=some (.bool t))(h:XC P M N E (if t then x else y) Q f g s):XC P M N E (.cond c x y) Q f g s :=
 fun a w ha hw=>wpIn_cond (ha.ev hc) (h a w ha hw)
theorem XC.condT {c:Operand}{x y:Code}(hc:ev f c=some (.bool true))(h:XC P M N E x Q f g s):XC P M N E (.cond c x y) Q f g s:=XC.cond hc h
theorem XC.condF {c:Operand}{x y:Code}(hc:ev f c=some (.bool false))(h:XC P M N E y Q f g s):XC P M N E (.cond c x y) Q f g s:=XC.cond hc h
theorem XC.ifB {c:Operand}{x y:Code}{t:Bool}(hc:ev f c=some (.bool t))(h1:t=true→XC P M N E x Q f g s)(h2:t=false→XC P M N E y Q f g s) :
  XC P M N E (.cond c x y) Q f g s:=by
 cases t
 ·exact XC.condF hc (h2 I)
 ·exact XC.condT hc (h1 I)
theorem XC.ifP {c:Operand}{x y:Code}{p:Prop}[Decidable p](hc:ev f c=some (.bool (decide p)))(h1:p→XC P M N E x Q f g s)(h2:¬ p→XC P M N E y Q f g s) :
  XC P M N E (.cond c x y) Q f g s :=
 XC.ifB hc (fun h=>h1 (of_decide_eq_true h)) (fun h=>h2 (of_decide_eq_false h))
theorem XT.thenN {c:Code}(h:XC P M N E c Q f g s):XT M N E (Exit.then (c.wpIn (wf M.ro) 0 P Q) Q) .normal f g s:=h
theorem XT.thenX {K:Act→World→Prop}{id:Nat}(h:XT M N E Q (.exit id) f g s):XT M N E (Exit.then K Q) (.exit id) f g s:=h
theorem XT.blockN {id:Nat}(h:XT M N E Q .normal f g s):XT M N E (Exit.inBlock id Q) .normal f g s:=h
theorem XT.blockX {id:Nat}(h:XT M N E Q .normal f g s):XT M N E (Exit.inBlock id Q) (.exit id) f g s:=fun a w ha hw=>by simpa [Exit.inBlock] using h a w ha hw
def Ai {ι:Type}(ds:List Deferred)(N:Nat)(E:World)(F:ι→Fr)(G:ι→PH)(S:ι→Own)(J:ι→Prop)(μ:ι→Nat)(i:ι)(a:Act)(w:World):Prop :=
 ∃ j,Okd ds N (F j) a∧At E (G j) (S j) w∧J j∧μ j<μ i
theorem XT.again {ι:Type}{F:ι→Fr}{G:ι→PH}{S:ι→Own}{J:ι→Prop}{μ:ι→Nat}{i:ι}(j:ι)(hf:Sub (F j) f)(hg:G j=g)(hs:S j=s)(hJ:J j)(hμ:μ j<μ i) :
  XT M N E (Exit.then (Ai M.ds N E F G S J μ i) Q) .normal f g s:=fun _ _ ha hw=>⟨j,ha.sub hf,by rw[hg,hs]; exact hw,hJ,hμ⟩
theorem XC.loop {ι:Type}{c:Code}(F:ι→Fr)(G:ι→PH)(S:ι→Own)(J:ι→Prop)(μ:ι→Nat)(i:ι)(hf:Sub (F i) f)(hg:G i=g)(hs:S i=s)(h0:J i)
  (round:∀ i,J i→XC P M N E c (Exit.then (Ai M.ds N E F G S J μ i) Q) (F i) (G i) (S i)):XC P M N E (.loop c) Q f g s:=by
 intro a w ha hw;have key:∀ n,∀ (i:ι) (a:Act) (w:World),μ i=n→Okd M.ds N (F i) a→At E (G i) (S i) w→J i→∀ (b:Frame) (k:List Item) (cs:List Frame),b.roundOf=(wf M.ro).round→(wf M.ro).fn b.fn→(wf M.ro).room (cs.length+1+0) →
   ∃ e a' w',Q e a' w'∧ArrivesIn (Machine.fenced P (wf M.ro)) P (lone (b.atR a (.code c :: .inLoop c::k)) cs w) b k cs e a' w':=by
  intro n;induction n using Nat.strongRecOn with
  | _ n ih =>
   intro i a w hn ha hI hJ b k cs hro hb hr;obtain ⟨e,a₁,w₁,hq,harr⟩:=round i hJ a w ha hI b (.inLoop c::k) cs hro hb hr;cases e with
   | normal =>
    obtain ⟨j,hok,hI₁,hJ₁,hlt⟩:=hq;obtain ⟨e₂,a₂,w₂,hq₂,harr₂⟩:=ih (μ j) (hn ▸ hlt) j a₁ w₁ rfl hok hI₁ hJ₁ b k cs hro hb hr;exact⟨e₂,a₂,w₂,hq₂,.of_steps (StepsIn.trans harr (.one (fenced_calm hb hr I) stepR_inLoop)) harr₂⟩
   | exit id=>exact⟨_,a₁,w₁,hq,.pass (x:=.inLoop c) rfl (fun _ _=>.inl (by simp)) harr⟩
   | goto l=>exact⟨_,a₁,w₁,hq,.pass (x:=.inLoop c) rfl (fun _ _=>.inl (by simp)) harr⟩
   | ret=>exact⟨_,a₁,w₁,hq,.pass (x:=.inLoop c) rfl (fun _ _=>.inl (by simp)) harr⟩
   | panic ch=>exact⟨_,a₁,w₁,hq,.pass (x:=.inLoop c) rfl (fun _ _=>.inl (by simp)) harr⟩
   | outgrown=>exact⟨_,a₁,w₁,hq,.pass (x:=.inLoop c) rfl (fun _ _=>.inl (by simp)) harr⟩
 intro b k cs hro hb hr;obtain ⟨e,a',w',hq,harr⟩:=key _ i a w rfl (ha.sub hf) (by rw[hg,hs]; exact hw) h0 b k cs hro hb hr;exact⟨e,a',w',hq,.of_steps (.one (fenced_calm hb hr I) stepR_loop) harr⟩
theorem XC.region {id:Nat}(h:XL P M N E ops Q ops.toList f g s):XC P M N E (.region id ops false) Q f g s:=fun a w ha hw=>wpIn_region_list (h a w ha hw)
theorem XL.nil (h:XT M N E Q .normal f g s):XL P M N E ops Q [] f g s:=fun a w ha hw=>h a w ha hw
theorem SO.xo {o:Oper}{K:Value→PH→Own→Prop}(hno:∀ c,o.op ≠ .defer c)(h:SO P N E o f g s K):XO P M N E o f g s K:=by
 intro a w ha hw Q next hn;refine⟨fun _ _=>trivial,?_⟩;rw[Oper.semAt_eq _ _ _ hno];have h1:=h (ma a) w ha.2 hw (fun _ _ _=>False) (fun a' w'=>a'.defers=[]∧∃ v g' s',a'=(ma a).put o.dst v∧K v g' s'∧At E g' s' w') (fun v g' s' w' hK hw'=>⟨ot _ _ _,v,g',s',rfl,hK,hw'⟩);unfold Oper.wp at h1;rw[mY] at h1;have key:∀ v w',(((ma a).put o.dst v).defers=[]∧∃ v' g' s',(ma a).put o.dst v=(ma a).put o.dst v'∧K v' g' s'∧At E g' s' w')→next (a.put o.dst v) w':=by
  rintro v w' ⟨_,v',g',s',he,hK,hw'⟩;have:a.put o.dst v=a.put o.dst v':=by
   cases hd:o.dst with
   | none=>rfl
   | some d =>
    rw[hd] at he;have h2:=congrArg Act.tmps he;cases a;simp only[Act.put,ma] at h2 ⊢;rw[h2]
  rw[this];exact hn v' g' s' w' hK hw'
 generalize (execOp a.eval o).run P w=r at h1;cases r with
 | ok n w' =>
  cases n <;> simp only[Oper.upon] at h1 <;> first | exact h1.elim | skip
  ·exact key _ _ h1
  ·exact key _ _ h1
  ·rename_i f' args;exact⟨fun h=>(by cases h),(CallsIn.more (n:=0) ((callsIn_wide (n:=0)).2 (Calls.mono h1 (fun e w'' he=>by cases e with | returned v=>exact key _ _ he | panicked c=>exact he.elim | outgrown=>obtain ⟨_,_,h2⟩:=he; exact h2.elim))) (Nat.zero_le _))⟩
  ·exact absurd h1.1 (by rw[ot]; simp)
  ·exact⟨fun h=>(by cases h),fun c cs _=>let ⟨v,w'',r,st⟩:=h1 c cs; ⟨v,w'',key _ _ r,stepsIn_wide.2 st⟩⟩
 | halt x w'=>cases x <;> simp only[Oper.upon] at h1 <;> exact h1.elim
theorem XL.step {o:Oper}{l:List Oper}{K:Value→PH→Own→Prop}(hg:Gd N ops f o true)(ho:XO P M N E o f g s K)
  (h:∀ v g' s' a,K v g' s'→Okd M.ds N f a→∃ f',Okd M.ds N f' (a.put o.dst v)∧XL P M N E ops Q l f' g' s'):XL P M N E ops Q (o::l) f g s:=by
 intro a w ha hw;unfold wpListIn;have hwt:Region.wanted o (yielded ops a.tmps)=true:=hg (ma a) ha.2;rw[if_pos hwt];refine ho a w ha hw Q _ fun v g' s' w' hK hw'=>?_;obtain ⟨f',hf',hn⟩:=h v g' s' a hK ha;exact hn _ _ hf' hw'
theorem XL.x {d:Nat}{op:Op}{ty:TypeId}{pos:String}{af:Array Edge}{l:List Oper}{K:Value→PH→Own→Prop}(ho:XO P M N E ⟨some d,op,ty,pos,af,none⟩ f g s K)(hd:d<N)
  (h:∀ v g' s',K v g' s'→XL P M N E ops Q l ((d,v)::f) g' s'):XL P M N E ops Q (⟨some d,op,ty,pos,af,none⟩::l) f g s :=
 XL.step (Gd.none rfl) ho fun v g' s' _ hK ha=>⟨_,ha.put hd v,h v g' s' hK⟩
theorem XL.go {d:Nat}{op:Op}{ty:TypeId}{pos:String}{af:Array Edge}{gd:Option (Nat×Bool)}{l:List Oper}{K:Value→PH→Own→Prop}(hg:Gd N ops f ⟨some d,op,ty,pos,af,gd⟩ true)(ho:SO P N E ⟨some d,op,ty,pos,af,gd⟩ f g s K)(hd:d<N)
  (h:∀ v g' s',K v g' s'→XL P M N E ops Q l ((d,v)::f) g' s') (hno:∀ c,op ≠ .defer c:=by intro _ h; cases h):XL P M N E ops Q (⟨some d,op,ty,pos,af,gd⟩::l) f g s :=
 XL.step hg (ho.xo hno) fun v g' s' _ hK ha=>⟨_,ha.put hd v,h v g' s' hK⟩
theorem XL.o {d:Nat}{op:Op}{ty:TypeId}{pos:String}{af:Array Edge}{l:List Oper}{K:Value→PH→Own→Prop}(ho:SO P N E ⟨some d,op,ty,pos,af,none⟩ f g s K)(hd:d<N)
  (h:∀ v g' s',K v g' s'→XL P M N E ops Q l ((d,v)::f) g' s') (hno:∀ c,op ≠ .defer c:=by intro _ h; cases h):XL P M N E ops Q (⟨some d,op,ty,pos,af,none⟩::l) f g s :=
 XL.go (Gd.none rfl) ho hd h hno
theorem XL.on {op:Op}{ty:TypeId}{pos:String}{af:Array Edge}{l:List Oper}{K:Value→PH→Own→Prop}(ho:SO P N E ⟨none,op,ty,pos,af,none⟩ f g s K)
  (h:∀ v g' s',K v g' s'→XL P M N E ops Q l f g' s') (hno:∀ c,op ≠ .defer c:=by intro _ h; cases h):XL P M N E ops Q (⟨none,op,ty,pos,af,none⟩::l) f g s :=
 XL.step (Gd.none rfl) (ho.xo hno) fun v g' s' _ hK ha=>⟨f,ha,h v g' s' hK⟩
theorem XL.gq {d:Nat}{op:Op}{ty:TypeId}{pos:String}{af:Array Edge}{gd:Option (Nat×Bool)}{l:List Oper}{v:Value}(hg:Gd N ops f ⟨some d,op,ty,pos,af,gd⟩ true)(hq:SQ P N E ⟨some d,op,ty,pos,af,gd⟩ f g s v)(hd:d<N)
  (h:XL P M N E ops Q l ((d,v)::f) g s) (hno:∀ c,op ≠ .defer c:=by intro _ h; cases h):XL P M N E ops Q (⟨some d,op,ty,pos,af,gd⟩::l) f g s :=
 XL.go hg hq.so hd (fun v' g' s' ⟨e1,e2,e3⟩=>by subst e1; subst e2; subst e3; exact h) hno
theorem XL.q {d:Nat}{op:Op}{ty:TypeId}{pos:String}{af:Array Edge}{l:List Oper}{v:Value}(hq:SQ P N E ⟨some d,op,ty,pos,af,none⟩ f g s v)(hd:d<N)
  (h:XL P M N E ops Q l ((d,v)::f) g s) (hno:∀ c,op ≠ .defer c:=by intro _ h; cases h):XL P M N E ops Q (⟨some d,op,ty,pos,af,none⟩::l) f g s:=XL.gq (Gd.none rfl) hq hd h hno
theorem XL.gu {d:Nat}{op:Op}{ty:TypeId}{pos:String}{af:Array Edge}{gd:Option (Nat×Bool)}{l:List Oper}{v:Value}(hg:Gd N ops f ⟨some d,op,ty,pos,af,gd⟩ true)(hq:SU P N ⟨some d,op,ty,pos,af,gd⟩ f v)(hd:d<N)
  (h:XL P M N E ops Q l ((d,v)::f) g s) (hno:∀ c,op ≠ .defer c:=by intro _ h; cases h):XL P M N E ops Q (⟨some d,op,ty,pos,af,gd⟩::l) f g s:=XL.gq hg hq.sq hd h hno
theorem XL.u {d:Nat}{op:Op}{ty:TypeId}{pos:String}{af:Array Edge}{l:List Oper}{v:Value}(hq:SU P N ⟨some d,op,ty,pos,af,none⟩ f v)(hd:d<N)
  (h:XL P M N E ops Q l ((d,v)::f) g s) (hno:∀ c,op ≠ .defer c:=by intro _ h; cases h):XL P M N E ops Q (⟨some d,op,ty,pos,af,none⟩::l) f g s:=XL.q hq.sq hd h hno
theorem XL.off {d:Nat}{op:Op}{ty:TypeId}{pos:String}{af:Array Edge}{gd:Option (Nat×Bool)}{l:List Oper}(hg:Gd N ops f ⟨some d,op,ty,pos,af,gd⟩ false)(hd:d<N)
  (h:XL P M N E ops Q l ((d,undef)::f) g s):XL P M N E ops Q (⟨some d,op,ty,pos,af,gd⟩::l) f g s:=by
 intro a w ha hw;unfold wpListIn;have hwt:Region.wanted (⟨some d,op,ty,pos,af,gd⟩:Oper) (yielded ops a.tmps)=false:=hg (ma a) ha.2;rw[if_neg (by rw[hwt]; simp)];exact⟨fun _ _=>trivial,h _ _ (ha.put hd undef) hw⟩
theorem At.obj {w:World}{b i:Nat}{o o':Obj}(h:At E g s w)(hi:s[i]?=some (pt b o)):At E g (s.set i (pt b o')) (w.putObj b o'):=by
 have h2:=h.fresh _ (List.mem_of_getElem? hi) b rfl;refine h.turn hi I ⟨I,lR _⟩ I (by simp[World.putObj]) (fun k _ hk=>World.putObj_heap_other (fun e=>hk (by simp[pt,e]))) ?_ (fun b' hb'=>?_)
 ·simp only[pt,Option.bind_some];exact World.putObj_heap_same h2.2
 ·simp only[pt,Option.some.injEq] at hb';subst hb';exact⟨by simpa [World.putObj] using h2.2,.inl I⟩
theorem At.here {w:World}{b i:Nat}{o:Obj}(h:At E g s w)(hi:s[i]?=some (pt b o)):w.heap[b]?=some o:=by
 have:=h.own _ (List.mem_of_getElem? hi);simpa [pt] using this
end
def Ah (P:Program)(E:World)(l:Nat)(args:Array Value)(g:PH)(s:Own)(R:Value→PH→Own→Prop):Prop :=
 ∀ w,At E g s w→YieldAt Fence.wide 0 P l args w fun e w'=>∃ v g' s',e = .returned v∧At E g' s' w'∧R v g' s'
def Bv (P:Program)(E:World)(gf:FuncId)(lb:List Value){α:Type}(encs:α→List Value)(xs:List α)(g0:PH):Prop :=
 ∀ (l:Nat) (ι:Type) (G:ι→PH) (S:ι→Own) (J:List α→ι→Prop) (i0:ι),J [] i0→(∀ pre i,J pre i→Le g0 (G i)) →
  (∀ pre x suf i sx,xs=pre++x::suf→J pre i→Ah P E l (encs x).toArray (G i) (S i++sx) (fun v g' s'=>v = .bool true∧∃ j,J (pre++[x]) j∧g'=G j∧s'=S j++sx)) →
  ∀ sx,Ctr P E gf (.func (.yield l) #[] #[]::lb).toArray (G i0) (S i0++sx) (fun _ g' s'=>∃ j,J xs j∧g'=G j∧s'=S j++sx)
section
variable {P:Program}{M:Md}{N:Nat}{E:World}{Q:Exit→Act→World→Prop}{f:Fr}{g:PH}{s:Own}{dst:Option Tmp}{ty:TypeId}{pos:String}{af:Array Edge}{gd:Option (Nat×Bool)}
theorem XO.yield {x:Operand}{l:List Operand}{tys:Array TypeId}{vs:List Value}{k:Nat}{R:Value→PH→Own→Prop}(hx:ev f x=some (.func (.yield k) #[] #[]))(hl:evs f l=some vs)(hY:Ah P E k vs.toArray g s R) :
  XO P M N E ⟨dst,.call ⟨.value x,l.toArray,tys⟩,ty,pos,af,gd⟩ f g s R:=by
 intro a w ha hw Q next hn;refine⟨fun _ _=>trivial,?_⟩;rw[Oper.semAt_eq _ _ _ (fun _ h=>by cases h)];obtain ⟨fn,tmps,assign,body,hy,hR⟩:=hY w hw;have h1:a.eval x = .func (.yield k) #[] #[]:=ha.ev hx;have h2:l.map a.eval=vs:=by have:=ha.2.evs hl; rwa [mY] at this
 have h3:(execOp a.eval ⟨dst,.call ⟨.value x,l.toArray,tys⟩,ty,pos,af,gd⟩).run P w = .ok (.round k fn tmps assign body) w:=by
  simp only[execOp,resolve,h1,List.map_toArray,h2];simp[Deferred.ofValue,Sem.run_bind,invoke,hy]
 rw[h3];refine⟨fun h=>(by cases h),RoundIn.mono hR fun e w' he=>?_⟩;obtain ⟨v,g',s',rfl,hat,hRR⟩:=he;exact hn v g' s' w' hRR hat
theorem Ctr.ofX {n:FuncId}{fn:Func}{c:Code}{args:List Value}{R:Value→PH→Own→Prop}
  (hf:P.funcs[n]?=some fn) (hb:fn.body=some c) (hN:fn.ntmps=N) (hle:args.length≤N)
  (h:XC P ⟨none,[]⟩ N E c (bodyPostM (wf none) 0 P fn (mC E R)) (kU 0 args) g s):Ctr P E n args.toArray g s R:=by
 intro w hw;refine (callsIn_wide (n:=0)).1 (callsIn_of_wp_marks (F:=wf none) hf hb trivial (h _ w ⟨I,⟨I,?_,fun t v hv=>?_⟩⟩ hw) I)
 ·simp[ma,hN]; omega
 ·obtain ⟨_,h2⟩:=ju args 0 t v hv;have hlt:t<args.length:=(List.getElem?_eq_some_iff.1 (by simpa using h2)).1;simp only[Nat.sub_zero] at h2;obtain ⟨_,h3⟩:=List.getElem?_eq_some_iff.1 h2;simp[ma,Array.getElem?_append,hlt,h3]
theorem XT.leave0 {fn:Func}{R:Value→PH→Own→Prop}{e:Exit}(he:e = .ret∨e = .normal)(h:ST N E (bodyPost P fn (mC E R)) e f g s):XT ⟨none,[]⟩ N E (bodyPostM (wf none) 0 P fn (mC E R)) e f g s:=by
 intro a w ha hw;have h1:=h (ma a) w ha.2 hw
 rcases he with rfl | rfl
 all_goals
  obtain ⟨_,v,h2,h3⟩:=h1;show LeavesInM _ _ _ _ _ _ a.defers _ _;rw[ha.1];exact⟨v,h2,h3⟩
theorem XT.leave1 {fn:Func}{R:Value→PH→Own→Prop}{e:Exit}{D:Nat}(he:e = .ret∨e = .normal)(h:ST N E (bodyPost P fn (mC E R)) e f g s) :
  XT ⟨none,[⟨.collected D,#[]⟩]⟩ N E (bodyPostM (wf none) 0 P fn (mC E R)) e f g (pt D (.deferred (some []))::s):=by
 intro a w ha hw;have hD:w.heap[D]?=some (.deferred (some [])):=At.here (i:=0) hw rfl;have hw2:=(At.obj (i:=0) (o':=.deferred none) hw rfl).sublist (List.sublist_cons_self _ _);have h1:=h (ma a) _ ha.2 hw2
 rcases he with rfl | rfl
 all_goals
  obtain ⟨_,v,h2,h3⟩:=h1;show LeavesInM _ _ _ _ _ _ a.defers _ _;rw[ha.1];exact⟨by simp,.inl ⟨D,_,I,run_takeDeferred hD,v,h2,h3⟩⟩
theorem AV {a:Act}{t t':Nat}{u u':Value}(h:Ok N f (ma a))(ht:t<N)(ht':t'<N):Ok N ((t',u')::(t,u)::f) { tmps:=((#[t,t']:Array Tmp).zip [u,u'].toArray).foldl (fun t (p,v)=>t.setIfInBounds p v) a.tmps,defers:=[] }:=by
 have:=(h.put ht u).put ht' u';simpa [Act.put,ma] using this
def uM {α ι:Type}(E:World)(G:ι→PH)(S:ι→Own)(J:List α→ι→Prop)(pre:List α)(x:α)(sx:Own):Exit→Act→World→Prop:=fun e _ w'=>e = .normal∧∃ j,At E (G j) (S j++sx) w'∧J (pre++[x]) j
def rz {N:Nat}(E:World)(g:PH)(s:Own)(fb:Fr):Exit→Act→World→Prop:=fun e a' w'=>e = .normal∧Okd [] N fb a'∧At E g s w'
theorem XT.roundEnd {α ι:Type}{G:ι→PH}{S:ι→Own}{J:List α→ι→Prop}{pre:List α}{x:α}{sx:Own}(j:ι)(hg:G j=g)(hs:S j++sx=s)(hj:J (pre++[x]) j):XT M N E (uM E G S J pre x sx) .normal f g s:=fun _ _ _ hw=>⟨rfl,j,by rw[hg,hs]; exact hw,hj⟩
theorem XT.assignEnd {fb:Fr}{ro:Option Nat}(hf:Sub fb f):XT ⟨ro,[]⟩ N E (rz (N:=N) E g s fb) .normal f g s:=fun _ _ ha hw=>⟨rfl,ha.sub hf,hw⟩
theorem XC.rangeFunc {α ι:Type}{gop:Operand}{ps:Array Tmp}{assign body:Code}{gf:FuncId}{lb:List Value}{encs:α→List Value}{xs:List α}{g0:PH}(G:ι→PH)(S:ι→Own)(J:List α→ι→Prop)(i0:ι)(sx0:Own)(fa:α→Fr)(fb:List α→α→ι→Fr)
  (hro:M.ro=none) (hg:ev f gop=some (.func (.func gf) #[] lb.toArray)) (eg:∀ args w,(callFunc gf args).run P w = .ok (.enter gf args) w) (hps:∀ x,(encs x).length=ps.size)
  (hG:G i0=g) (hS:S i0++sx0=s) (hseq:Bv P E gf lb encs xs g0) (hmono:∀ pre i,J pre i→Le g0 (G i)) (h0:J [] i0)
  (hfa:∀ x a,Ok N f (ma a)→Ok N (fa x) { tmps:=(ps.zip (encs x).toArray).foldl (fun t (p,v)=>t.setIfInBounds p v) a.tmps,defers:=[] })
  (hassign:∀ l pre x i sx,J pre i→XC P ⟨some l,[]⟩ N E assign (rz (N:=N) E (G i) (S i++sx) (fb pre x i)) (fa x) (G i) (S i++sx))
  (hbody:∀ l pre x suf i sx,xs=pre++x::suf→J pre i→XC P ⟨some l,[]⟩ N E body (uM E G S J pre x sx) (fb pre x i) (G i) (S i++sx))
  (hdone:∀ D j,J xs j→XT ⟨none,⟨.collected D,#[]⟩::M.ds⟩ N E Q .normal f (G j) (pt D (.deferred (some []))::(S j++sx0))):XC P M N E (.rangeFunc gop ps assign body) Q f g s:=by
 subst hG hS;intro a w ha hw;rw[hro];refine wpIn_rangeFunc ?_;intro fn _;obtain ⟨rec,hrec⟩:∃ rec:LoopState→Option Code→Loop,rec=fun st pe=>{ state:=st,pending:=pe,fn,tmps:=a.tmps,params:=ps,assign,body,defers:=w.heap.size }:=⟨_,rfl⟩;obtain ⟨L,hL⟩:∃ L,L=w.heap.size+1:=⟨_,rfl⟩;obtain ⟨D,hD⟩:∃ D,D=w.heap.size:=⟨_,rfl⟩;obtain ⟨W1,hW1⟩:∃ W1,(w.alloc (.deferred (some []))).alloc (.loop (rec .ready none))=W1:=⟨_,rfl⟩;have hA:At E (G i0) (pt L (.loop (rec .ready none))::pt D (.deferred (some []))::(S i0++sx0)) W1:=by
  rw[← hW1,hL,hD];have h1:At E (G i0) (pt w.heap.size (.deferred (some []))::(S i0++sx0)) (w.alloc (.deferred (some []))):=hw.alloc (e:=pt w.heap.size (.deferred (some []))) rfl rfl;have h2:=h1.alloc (e:=pt (w.alloc (.deferred (some []))).heap.size (.loop (rec .ready none))) rfl rfl;rw[World.size_alloc] at h2;exact h2
 obtain ⟨S2,hS2⟩:∃ S2:ι→Own,S2=fun i=>S i++(pt L (.loop (rec .ready none))::pt D (.deferred (some []))::sx0):=⟨_,rfl⟩;have hA2:At E (G i0) (S2 i0++[]) W1:=by
  rw[hS2,List.append_nil];dsimp only;refine hA.perm ?_;have h1:(pt L (.loop (rec .ready none))::pt D (.deferred (some []))::(S i0++sx0))=[pt L (.loop (rec .ready none)),pt D (.deferred (some []))]++(S i0++sx0):=rfl;have h2:S i0++(pt L (.loop (rec .ready none))::pt D (.deferred (some []))::sx0)=S i0++([pt L (.loop (rec .ready none)),pt D (.deferred (some []))]++sx0):=rfl;rw[h1,h2,← List.append_assoc,← List.append_assoc];exact List.perm_append_comm.append_right _
 refine⟨L,[{ target:=.collected D,args:=#[] }],W1,{ target:=.fn (.func gf) lb.toArray,args:=#[.func (.yield L) #[] #[]] },W1,gf,(.func (.yield L) #[] #[]::lb).toArray,W1,?_,?_,fun _ _=>trivial,?_,fun h=>(by cases h),?_⟩
 ·rw[← hW1,hrec,hL,hD]; exact run_enterLoop_outer _ _ _ _ _
 ·have h1:a.eval gop = .func (.func gf) #[] lb.toArray:=ha.ev hg;simp only[resolve,h1];simp[go_sem]
 ·have:(#[.func (.yield L) #[] #[]]++lb.toArray:Array Value)=(.func (.yield L) #[] #[]::lb).toArray:=by simp
  simp[invoke,go_sem,eg]
 ·refine (callsIn_wide (n:=0 - 1)).2 ((hseq L ι G S2 J i0 h0 hmono ?_ [] W1 hA2).mono ?_)
  ·intro pre x suf i sx hxs hJ W hW;rw[hS2] at hW;simp only[List.append_assoc,List.cons_append] at hW;have hlen:(S i).length=(S i).length:=rfl;have gl:∀ (i:ι) (u u':Ent) (r:Own),(S i++u::u'::r)[(S i).length]?=some u:=fun i u u' r=>by simp
   have hl:=hW.here (gl i _ _ _);have hy:=run_yield (P:=P) (args:=(encs x).toArray) hl (by rw[hrec]; simpa using hps x);rw[hrec] at hy;refine⟨fn,_,assign,body,hy,roundIn_of_wpIn trivial ?_⟩;refine Code.wpIn_mono (fun e a1 w1 h1=>?_) (hassign L pre x i _ hJ { tmps:=(ps.zip (encs x).toArray).foldl (fun t (p,v)=>t.setIfInBounds p v) a.tmps,defers:=[] } W ⟨I,hfa x a ha.2⟩ hW);obtain ⟨rfl,ha1,hw1⟩:=h1;have hl1:=hw1.here (gl i _ _ _);refine⟨_,run_beginRound hl1 (by rw[hrec]),?_⟩;have hset:∀ (i:ι) (u u' v:Ent) (r:Own),(S i++u::u'::r).set (S i).length v=S i++v::u'::r:=fun i u u' v r=>by simp
   have hw2:=hw1.obj (o':=.loop { rec .ready none with state:=.busy }) (gl i _ _ _);rw[hset] at hw2;refine Code.wpIn_mono (fun e a3 w3 h3=>?_) (hbody L pre x suf i _ hxs hJ a1 _ ha1 hw2);obtain ⟨rfl,j,hw3,hJ3⟩:=h3;have hl3:=hw3.here (gl j _ _ _);have he:=run_endRound (P:=P) none hl3;have hw4:=hw3.obj (o':=.loop { (rec .ready none) with state:=.ready,pending:=none }) (gl j _ _ _);rw[hset] at hw4;refine⟨_,_,he,.bool true,G j,S2 j++sx,I,?_,I,j,hJ3,I,I⟩;rw[hS2];simp only[List.append_assoc,List.cons_append];rw[hrec] at hw4 ⊢;exact hw4
  ·rintro e W2 ⟨v,g',s',rfl,hat,j,hJ,rfl,rfl⟩;rw[hS2,List.append_nil] at hat;have gl:∀ (i:ι) (u u':Ent) (r:Own),(S i++u::u'::r)[(S i).length]?=some u:=fun i u u' r=>by simp
   have hl:=hat.here (gl j _ _ _);have he:=run_endLoop (P:=P) hl (by rw[hrec]; simp);have h2:=hat.obj (o':=.loop { (rec .ready none) with state:=.exhausted }) (gl j _ _ _);have hset:∀ (i:ι) (u u' v:Ent) (r:Own),(S i++u::u'::r).set (S i).length v=S i++v::u'::r:=fun i u u' v r=>by simp
   rw[hset] at h2;have hpn:(rec .ready none).pending=none:=by rw[hrec]
   refine⟨none,_,he.trans (congrArg (fun p=>Result.ok p _) hpn),?_⟩;refine hdone D j hJ _ _ ⟨by rw[← ha.1]; rfl,ha.2⟩ ?_;have h3:=(h2.sublist (s':=S j++pt D (.deferred (some []))::sx0) (by exact (List.Sublist.refl _).append (List.sublist_cons_self _ _))).perm List.perm_middle;exact h3
end
end Go.Sy
namespace Go.Sy
open Go
section
variable {P:Program}{M:Md}{N:Nat}{E:World}{Q:Exit→Act→World→Prop}{f:Fr}{g:PH}{s:Own}{dst:Option Tmp}{ty:TypeId}{pos:String}{af:Array Edge}{gd:Option (Nat×Bool)}
end
end Go.Sy
namespace Go.Sy
open Go
section
variable {P:Program}{M:Md}{N:Nat}{E:World}{Q:Exit→Act→World→Prop}{f:Fr}{g:PH}{s:Own}{dst:Option Tmp}{ty:TypeId}{pos:String}{af:Array Edge}{gd:Option (Nat×Bool)}
end
end Go.Sy
namespace Go.Proofs.YtackilpikhkijaaGreatDoor
open _root_.Go.Proofs.Tryz _root_.Go.Proofs.YtackilpikhkijaaGreatDoor.Tryz
open Go Go.Sy Go.Pl Go.Proofs
set_option maxRecDepth 100000
set_option maxHeartbeats 1000000
theorem mW {α β:Type}{l:List α}{k:Nat}(h:k<l.length)(p:α→Bool)(f:α→β):((l.take (k+1)).filter p).map f=((l.take k).filter p).map f++(if p l[k] then [f l[k]] else []):=by
 rw[tS h,List.filter_append,List.map_append];congr 1;simp only[List.filter_cons,List.filter_nil];split <;> rfl
theorem sz {α β:Type}(l:List α)(k:Nat)(p:α→Bool)(f:α→β):(((l.take k).filter p).map f).length≤k:=by
 rw[List.length_map];refine Nat.le_trans (List.length_filter_le _ _) ?_;rw[List.length_take]; omega
theorem Tryz.buildE53 (w:World):(Instr.build 53 #[]).run Tryz.prog w = .ok (.agg #[vi 0,vi 0,.slice none 0 0]) w:=by
 simp[Instr.build,Instr.fill];rfl
def yG (l:List Cl)(d:Int):List Int:=((am l).filter fun c=>decide (c.dim=d)).map Cl.id
theorem SU.maxI {P:Program}{N:Nat}{f:Fr}{dst:Option Tmp}{ty:TypeId}{pos:String}{af:Array Edge}{gd:Option (Nat×Bool)}{x y:Operand}{T U:TypeId}{m n:Int}(hx:ev f x=some (vi m))(hy:ev f y=some (vi n)) :
  SU P N ⟨dst,.call ⟨.builtin .max,#[x,y],#[T,U]⟩,ty,pos,af,gd⟩ f (vi (max m n)):=fun a w ha=>by
 have h:=run_max_int2 (P:=P) (w:=w) #[T,U] ty .i64 .i64 m n;have h2:(if m<n then n else m)=max m n:=by split <;> omega
 rw[h2] at h;simp[execOp,resolve,invoke,builtin,ha.ev hx,ha.ev hy,h]
theorem nk (E:World)(g:PH)(s:Own)(v:Value)(l:List Cl)(d:Int)(hv:ao g v l)(hf:be l) :
  Ctr Tryz.prog E 38 #[.agg #[v],vi d] g s (fun r g' s'=>s=s'∧Le g g'∧dJ g' r (yG l d)):=by
 have hft:=bJ hf;have hfl:=hft.1;obtain ⟨p,c,rfl⟩:=hv.form;refine Ctr.of (args:=[.agg #[.slice p l.length c],vi d]) func38 I ntmps38 (bE I) ?_;refine rZ (bW (bO I) fun b2=>?_);refine aT I (rZ (aT I (rZ (lK (qV 0 ar ag I I I) (lW (cL call66 I (df E g _ _ l hv hf)) ?_)))));rintro v9 g1 _ ⟨rfl,hle,hc⟩;obtain ⟨rs,hrs,hall⟩:=hc;obtain ⟨q,dd,rfl⟩:=hrs.form;refine aT I (sQ (rZ (aT I (bK ?_))));have hrl:=hall.length;unfold yG;generalize am l=A at *;refine SC.nilRow 3 1 ?_;refine oP (ι:=Value×Nat) (fun i=>[(1,vi d),(5,i.1),(6,.slice q rs.length dd),(7,vi i.2)]) (fun _=>g1) (fun i=>rowA encInt 3 i.1 (((A.take i.2).filter fun c=>decide (c.dim=d)).map Cl.id)::pt b2 (.cells #[.slice p l.length c] 29 (0,0))::s)
  (fun i=>i.2≤A.length) (fun i=>A.length - i.2) (.slice none 0 0,0) sB rfl rfl (Nat.zero_le _) ?_
 rintro ⟨ov,k⟩ hk;dsimp only at hk ⊢;refine sQ (sW I (lM I (lU (eN aH I) (lU (lS I I) (tZ ?_)))));refine iP I (fun hlt=>?_) (fun hlt=>?_)
 ·have hkl:k<A.length:=oM;have hkr:k<rs.length:=oM;have hb1:=hrs.based oM;have hcr:=hall.get (gE hkl) (gE hkr);have hgr:rs[((k:Nat):Int).toNat]?=some rs[k]:=gE hkr;have hsucc:=mW hkl (fun c=>decide (c.dim=d)) Cl.id;have hlek:=sz A k (fun c=>decide (c.dim=d)) Cl.id;have hxl:=hft.2 _ (gM hkl);generalize A[k]=x at *;generalize rs[k]=r at *;refine kP (tN (sQ (bK (sW rfl (lM rfl (lU (iA aH au rfl rfl hb1 oM sL) (lU (fC aq rfl zT3 rfl hb1) (lK (aZ (e:=encCell) (o:=1) (u:=vi x.dim) iT3 rfl hrs.rd hgr (by rw[← hcr.2.1]; rfl)) ?_))))))));refine lM I (lU (eQ I I) (tZ ?_));refine iP I (fun hd=>?_) (fun hd=>?_)
  ·refine rG (lM rfl (lM rfl (lM rfl (lU (iA aH au rfl rfl hb1 oM sL) (lU (fC aq rfl zT3 rfl hb1) (lK (aZ (e:=encCell) (o:=0) (u:=vi x.id) iT3 rfl hrs.rd hgr (by rw[← hcr.1]; rfl)) ?_))))));refine lW (bS sty83 I I I (ae sB) dC) ?_;rintro _ _ _ ⟨b29,rfl,rfl,rfl⟩;refine lW (aP (e:=encInt) 0 x.id sty83 I I I I I oM oM) ?_;rintro ov' _ _ ⟨rfl,rfl⟩;refine lA I (nL (bN (tN (rG (lM I (lU (aD I I oM) (lA I (nL ?_))))))));refine ST.to (fun w hw=>?_) (g':=g1) (s':=rowA encInt 3 ov' (((A.take (k+1)).filter fun c=>decide (c.dim=d)).map Cl.id)::pt b2 (.cells #[.slice p l.length c] 29 (0,0))::s) ?_
   ·rw[hsucc,if_pos (decide_eq_true hd)]; exact hw
   exact gA (ov',k+1) sB I I (by dsimp only; omega) lN
  ·refine kP (bN (tN (rG (lM I (lU (aD I I oM) (lA I (nL ?_)))))));refine ST.to (fun w hw=>?_) (g':=g1) (s':=rowA encInt 3 ov (((A.take (k+1)).filter fun c=>decide (c.dim=d)).map Cl.id)::pt b2 (.cells #[.slice p l.length c] 29 (0,0))::s) ?_
   ·rw[hsucc,if_neg (by rw[decide_eq_false hd]; simp),List.append_nil]; exact hw
   exact gA (ov,k+1) sB I I (by dsimp only; omega) lN
 ·have hkk:A.take k=A:=tL oM;rw[hkk];refine xI (tX (tX (bX (tN (sW I (aT I (rE (fT fun g2 hle2 hs2=>?_))))))));refine dR (s':=s) uR ?_;exact ST.ret1 (.inl I) results38 I ⟨I,hle.trans hle2,hs2⟩
theorem tg (E:World)(g:PH)(s:Own)(c:Cl)(r:Rc)(id:Int)(hc:aw g c r)(hl:c.sides.length<1099511627776) :
  Ctr Tryz.prog E 120 #[rcv r,vi id] g s (fun x g' s'=>x=vb (l8 c id)∧g=g'∧s=s'):=by
 obtain ⟨ri,rd,⟨rp,rn,rc⟩⟩:=r;have hs:SlA encSide g (.slice rp rn rc) c.sides:=hc.2.2;have hn:rn=c.sides.length:=Sl.slen hs;subst hn;refine Ctr.of (args:=[rcv ⟨ri,rd,⟨rp,c.sides.length,rc⟩⟩,vi id]) func120 I ntmps120 (bE I) ?_;refine rZ (bW (bO I) fun b2=>?_);refine aT I (sQ (rZ (aT I (bK ?_))));refine oP (ι:=Nat) (fun k=>[(1,vi id),(2,pp b2 0),(5,vi k)]) (fun _=>g) (fun _=>pt b2 (.cells #[vi ri,vi rd,.slice rp c.sides.length rc] 53 (0,0))::s)
  (fun k=>k≤c.sides.length∧(c.sides.take k).any (fun x=>decide (x.cell=id))=false) (fun k=>c.sides.length - k) 0 sB rfl rfl ⟨Nat.zero_le _,rfl⟩ ?_
 rintro k ⟨hk,hno⟩;refine sQ (sW I (lU (fA aq I aU I) (lK (qL (v:=.slice rp c.sides.length rc) bw I (cO 0 I I)) (lU (eN aN I) (lU (lS I I) (tZ ?_))))));refine iP I (fun hlt=>?_) (fun hlt=>?_)
 ·have hkl:k<c.sides.length:=oM;have hb1:=hs.based oM;have hgk:c.sides[((k:Nat):Int).toNat]?=some c.sides[k]:=gE hkl;have htk:(c.sides.take (k+1)).any (fun x=>decide (x.cell=id))=((c.sides.take k).any (fun x=>decide (x.cell=id))||decide (c.sides[k].cell=id)):=by
   rw[tS hkl,List.any_append]; simp
  have hmem:c.sides[k]∈c.sides:=gM hkl;generalize c.sides[k]=x at *;refine kP (tN (sQ (bK (rZ (lU (fA aq I aU I) (lK (qL (v:=.slice rp c.sides.length rc) bw I (cO 0 I I)) (lM I (lU (iA aN aG I I hb1 oM sL) (lU (fC cl I zT3 I hb1) (lK (aZ (e:=encSide) (o:=0) (u:=vi x.cell) iT3 I hs.rd hgk I) (lM I (lU (eQ I I) (tZ ?_)))))))))))));refine iP I (fun he=>?_) (fun he=>?_)
  ·refine rZ (aT I (rE (bR (tR (tR (bR (tR (dR (s':=s) uR ?_))))))));exact ST.ret1 (.inl I) results120 I ⟨by rw[show l8 c id=true from List.any_eq_true.2 ⟨x,hmem,decide_eq_true he⟩],I,I⟩
  ·refine kP (bN (tN (rG (lM I (lU (aD I I oM) (lA I (nL ?_)))))));exact gA (k+1) sB rfl rfl ⟨oM,by rw[htk,hno,decide_eq_false he]; rfl⟩ oM
 ·have hkk:c.sides.take k=c.sides:=tL oM;rw[hkk] at hno;refine xI (tX (tX (bX (tN (rZ (aT I (rE (dR (s':=s) uR ?_))))))));exact ST.ret1 (.inl I) results120 I ⟨by rw[show l8 c id=false from hno],I,I⟩
theorem dh (E:World)(g:PH)(s:Own)(v:Value)(l:List Cl)(id:Int)(hv:ao g v l)(hf:be l) :
  Ctr Tryz.prog E 77 #[.agg #[v],vi id] g s (fun r g' s'=>s=s'∧Le g g'∧dJ g' r (aj l id)):=by
 have hft:=bJ hf;have hfl:=hft.1;obtain ⟨p,c,rfl⟩:=hv.form;refine Ctr.of (args:=[.agg #[.slice p l.length c],vi id]) func77 I ntmps77 (bE I) ?_;refine rZ (bW (bO I) fun b2=>?_);refine aT I (rZ (aT I (rZ (lK (qV 0 ar ag I I I) (lW (cL call66 I (df E g _ _ l hv hf)) ?_)))));rintro v9 g1 _ ⟨rfl,hle,hc⟩;obtain ⟨rs,hrs,hall⟩:=hc;obtain ⟨q,dd,rfl⟩:=hrs.form;refine aT I (sQ (rZ (aT I (bK ?_))));have hrl:=hall.length;unfold aj;generalize am l=A at *;refine SC.nilRow 3 1 ?_;refine oP (ι:=Value×Nat) (fun i=>[(1,vi id),(5,i.1),(6,.slice q rs.length dd),(7,vi i.2)]) (fun _=>g1) (fun i=>rowA encInt 3 i.1 (((A.take i.2).filter fun c=>l8 c id).map Cl.id)::pt b2 (.cells #[.slice p l.length c] 29 (0,0))::s)
  (fun i=>i.2≤A.length) (fun i=>A.length - i.2) (.slice none 0 0,0) sB rfl rfl (Nat.zero_le _) ?_
 rintro ⟨ov,k⟩ hk;dsimp only at hk ⊢;refine sQ (sW I (lM I (lU (eN aH I) (lU (lS I I) (tZ ?_)))));refine iP I (fun hlt=>?_) (fun hlt=>?_)
 ·have hkl:k<A.length:=oM;have hkr:k<rs.length:=oM;have hb1:=hrs.based oM;have hcr:=hall.get (gE hkl) (gE hkr);have hgr:rs[((k:Nat):Int).toNat]?=some rs[k]:=gE hkr;have hsucc:=mW hkl (fun c=>l8 c id) Cl.id;have hlek:=sz A k (fun c=>l8 c id) Cl.id;have hxl:=hft.2 _ (gM hkl);generalize A[k]=x at *;generalize rs[k]=r at *;refine kP (tN (sQ (bK (sW I (lM I (lU (iA aH au I I hb1 oM sL) (lK (eA du au I hrs.rd hgr) (lM I (lW (cL call120 I (tg E g1 _ x r id hcr hxl)) ?_)))))))));rintro _ _ _ ⟨rfl,rfl,rfl⟩;refine tZ ?_;refine iQ I (fun hd=>?_) (fun hd=>?_)
  ·refine rG (lM rfl (lM rfl (lM rfl (lU (iA aH au rfl rfl hb1 oM sL) (lU (fC aq rfl zT3 rfl hb1) (lK (aZ (e:=encCell) (o:=0) (u:=vi x.id) iT3 rfl hrs.rd hgr (by rw[← hcr.1]; rfl)) ?_))))));refine lW (bS sty83 I I I (ae sB) dC) ?_;rintro _ _ _ ⟨b28,rfl,rfl,rfl⟩;refine lW (aP (e:=encInt) 0 x.id sty83 I I I I I oM oM) ?_;rintro ov' _ _ ⟨rfl,rfl⟩;refine lA I (nL (bN (tN (rG (lM I (lU (aD I I oM) (lA I (nL ?_))))))));refine ST.to (fun w hw=>?_) (g':=g1) (s':=rowA encInt 3 ov' (((A.take (k+1)).filter fun c=>l8 c id).map Cl.id)::pt b2 (.cells #[.slice p l.length c] 29 (0,0))::s) ?_
   ·rw[hsucc,if_pos (hd)]; exact hw
   exact gA (ov',k+1) sB I I (by dsimp only; omega) lN
  ·refine kP (bN (tN (rG (lM I (lU (aD I I oM) (lA I (nL ?_)))))));refine ST.to (fun w hw=>?_) (g':=g1) (s':=rowA encInt 3 ov (((A.take (k+1)).filter fun c=>l8 c id).map Cl.id)::pt b2 (.cells #[.slice p l.length c] 29 (0,0))::s) ?_
   ·rw[hsucc,if_neg (by rw[hd]; simp),List.append_nil]; exact hw
   exact gA (ov,k+1) sB I I (by dsimp only; omega) lN
 ·have hkk:A.take k=A:=tL oM;rw[hkk];refine xI (tX (tX (bX (tN (sW I (aT I (rE (fT fun g2 hle2 hs2=>?_))))))));refine dR (s':=s) uR ?_;exact ST.ret1 (.inl I) results77 I ⟨I,hle.trans hle2,hs2⟩
theorem bo (E:World)(g:PH)(s:Own)(v:Value)(l:List Cl)(id:Int)(hv:ao g v l)(hf:be l) :
  Ctr Tryz.prog E 41 #[.agg #[v],vi id] g s (fun r g' s'=>s=s'∧Le g g'∧∃ x,r = .tuple #[rcv x,vb (findC l id).isSome]∧aw g' ((findC l id).getD bA) x):=by
 have hft:=bJ hf;have hfl:=hft.1;obtain ⟨p,c,rfl⟩:=hv.form;have hsrt:=gC l;have hnd:=la l;refine Ctr.of (args:=[.agg #[.slice p l.length c],vi id]) func41 I ntmps41 (bE I) ?_;refine rZ (bW (bO I) fun b2=>?_);refine bW (aL zeroValue53) fun b4=>?_;refine aT I (rZ (lK (qV 1 ar ag I I I) (lW (cL call66 I (df E g _ _ l hv hf)) ?_)));rintro v9 g1 _ ⟨rfl,hle,hc⟩;obtain ⟨rs,hrs,hall⟩:=hc;have hcs:ao g1 _ (am l):=⟨rs,hrs,hall⟩;obtain ⟨q,dd,rfl⟩:=hrs.form;refine aT I (sW I (lM I (lW (cL call67 I (gL E g1 _ _ (am l) id hcs hfl hsrt)) ?_)));rintro _ _ _ ⟨rfl,rfl,rfl⟩;refine aT I (sQ (sW I (lU (lS I I) (tZ ?_))));have hrl:=hall.length;unfold findC;generalize am l=A at *;have haf:=oW hsrt id;refine iP I (fun hneg=>?_) (fun hneg=>?_)
 ·rcases haf with ⟨h1,h2⟩ | ⟨x,k,h1,h2,h3⟩
  ·have hno:(A.find? fun c=>decide (c.id=id))=none:=h1;refine rZ (lU (SU.build I (buildE53)) (oZ (sK 0 au I I I I I sB) ?_));refine aT I (rE (tR ?_));exact ST.retCD1 0 s (.inl rfl) results41 rfl rfl du au rfl rfl uR ⟨rfl,hle,rA,by rw[hno]; rfl,by rw[hno]; exact wl g1⟩
  ·rw[h2] at hneg; omega
 ·rcases haf with ⟨h1,h2⟩ | ⟨x,k,h1,h2,h3⟩
  ·rw[h2] at hneg; omega
  ·have hyes:(A.find? fun c=>decide (c.id=id))=some x:=h1;rw[h2];have hkl:k<A.length:=(List.getElem?_eq_some_iff.1 h3).1;have hkr:k<rs.length:=oM;have hb1:=hrs.based oM;have hcr:=hall.get h3 (gE hkr);have hgr:rs[((k:Nat):Int).toNat]?=some rs[k]:=gE hkr;generalize rs[k]=r at *;obtain ⟨ri,rd,⟨rp,rn,rc⟩⟩:=r;refine kP (tN (sW I (lM I (lU (iA aH au I I hb1 oM sL) (lK (eA du au I hrs.rd hgr) (oZ (sK 0 au I I I I I sB) ?_))))));refine aT I (rE ?_);exact ST.retCD1 0 s (.inl rfl) results41 rfl rfl du au rfl rfl uR ⟨rfl,hle,⟨ri,rd,⟨rp,rn,rc⟩⟩,by rw[hyes]; rfl,by rw[hyes]; exact hcr⟩
end Go.Proofs.YtackilpikhkijaaGreatDoor
namespace Go.Sy
open Go
section
variable {α:Type}{k:Nat}{P:Program}{N:Nat}{E:World}{f:Fr}{g:PH}{s:Own}{dst:Option Tmp}{ty:TypeId}{pos:String}{af:Array Edge}{gd:Option (Nat×Bool)}
theorem SO.makeC {x y:Operand}{t T:TypeId}{bytes n:Nat}{z:Value}(e:Enc α k)(hT:STy P t T k bytes z)(hx:ev f x=some (vi 0))(hy:ev f y=some (vi n))(hb:n * bytes≤140737488355328)(hlen:n≤4611686018427387904) :
  SO P N E ⟨dst,.makeSlice t x y,ty,pos,af,gd⟩ f g s fun v' g' s'=>g=g'∧s'=rowA e T v' []::s :=
 SO.of_run fun ac w ha hw=>by
  obtain ⟨ti,ht1,ht2,ht3,ht4⟩:=hT.info;have hbi:(ti.bytes:Int) * ((n:Nat):Int)≤281474976710656:=by
   rw[ht4,← Int.natCast_mul,Nat.mul_comm]; omega
  have h5:=run_make (P:=P) w t T ti z hT.und ht1 ht2 .i64 .i64 0 n oM oM hbi oM;simp only[Int.toNat_natCast] at h5;rw[ht3] at h5;have hrun:(execOp ac.eval ⟨dst,.makeSlice t x y,ty,pos,af,gd⟩).run P w = .ok (.value (.slice (some ⟨w.heap.size,0,none⟩) 0 n)) (w.alloc (.cells (madeCells z.cells (n * k)) T)):=by
   simp[execOp,ha.ev hx,ha.ev hy,h5]
  have hnew:(w.alloc (.cells (madeCells z.cells (n * k)) T)).heap[w.heap.size]?=some (.cells (madeCells z.cells (n * k)) T (0,0)):=heap_alloc_new w _;refine⟨_,_,g,_,hrun,?_,I,I⟩;cases n with
  | zero =>
   have h6:=hw.emptyRow T k (some ⟨w.heap.size,0,none⟩);have h7:=h6.alloc (e:=pt w.heap.size (.cells (madeCells z.cells (0 * k)) T (0,0))) (o:=.cells (madeCells z.cells (0 * k)) T (0,0)) rfl rfl;exact h7.sublist (List.sublist_cons_self _ _)
  | succ n =>
   have hsz:(madeCells z.cells ((n+1) * k)).size=(n+1) * k:=by simp[madeCells]
   exact hw.alloc (e:=rowA e T (.slice (some ⟨w.heap.size,0,none⟩) 0 (n+1)) []) (o:=.cells (madeCells z.cells ((n+1) * k)) T (0,0)) I ⟨by simp,.inr ⟨_,n,_,I,I,by simp,by unfold maxLen; omega,hsz,by simp⟩⟩
def pI:Enc Int 1:=⟨fun n=>[.int .u8 n],fun _=>rfl,fun _ u hu=>by simp at hu; subst hu; rfl,by decide⟩
def Bj:Enc Int 1:=⟨fun n=>[.int .u64 n],fun _=>rfl,fun _ u hu=>by simp at hu; subst hu; rfl,by decide⟩
def byt (l:List Int):List UInt8:=l.map fun n=>UInt8.ofNat n.toNat
def txt (l:List UInt8):Value:=.string ⟨l.toArray⟩
theorem yb (l:List Int):∀ s:ByteArray,l.foldl (fun r n=>r.push (UInt8.ofNat n.toNat)) s=⟨s.data++(byt l).toArray⟩:=by
 induction l with
 | nil=>intro s; simp[byt]
 | cons a t ih =>
  intro s;simp only[List.foldl_cons];rw[ih];simp[byt,ByteArray.push]
theorem vH (l:List Int):l.flatMap pI.enc=l.map (Value.int .u8):=by
 induction l with
 | nil=>rfl
 | cons a t ih=>simp only[List.flatMap_cons,List.map_cons,ih]; rfl
theorem SQ.bytesText {x:Operand}{S D e:TypeId}{p:Option Addr}{c:Nat}{l:List Int}(hs:P.underlying S=some (.slice e))(he:P.underlying e=some (.int .u8))(hd:P.underlying D=some .string)
  (hx:ev f x=some (.slice p l.length c)) (hr:Rd g s (.slice p l.length c) (l.flatMap pI.enc)) :
  SQ P N E ⟨dst,.convert S D x,ty,pos,af,gd⟩ f g s (txt (byt l)):=fun a w ha hw=>by
 have h1:(convert S D (.slice p l.length c)).run P w = .ok (txt (byt l)) w:=by
  rw[run_convert_bytes_string w S D e p l.length c hs he hd];rw[vH] at hr;cases l with
  | nil =>
   cases p with
   | none=>simp[Conv.bytesToString,txt,byt]; rfl
   | some a =>
    have h2:=run_bytesToString (P:=P) w a 0 c [] (by simp[loadCells]; exact cM (P:=P) (w:=w) (b:=a.block) (o:=a.off) 0 0 [] #[] rfl (fun j y hy=>by simp at hy));rw[List.length_nil,h2];rfl
  | cons n t =>
   obtain ⟨q,n',c',he1,hsp,hc0⟩:=hr E w hw 0 (.int .u8 n) rfl;injection he1 with he1 he2 he3
   subst he1;obtain ⟨qb,qo,qs⟩:=q;dsimp only at hsp;subst hsp;have h2:=run_bytesToString (P:=P) w ⟨qb,qo,none⟩ (n::t).length c (n::t) (by
    have:=cM (P:=P) (w:=w) (b:=qb) (o:=qo) (n::t).length 0 ((n::t).map (Value.int .u8)) #[] (by simp) (fun j y hy=>by
     obtain ⟨q',n2,c2,he4,_,hc1⟩:=hr E w hw j y hy;injection he4 with he4
     injection he4 with he4
     subst he4;simpa using hc1)
    simpa [loadCells] using this)
   rw[h2,yb];simp[txt]
 simp[execOp,ha.ev hx,h1]
theorem tU (l:List UInt8):(⟨l.toArray⟩:ByteArray).toList=l:=by rw[ByteArray.toList_eq]
theorem SU.neqT {x y:Operand}{T U:TypeId}{l m:List UInt8}(hx:ev f x=some (txt l))(hy:ev f y=some (txt m)) :
  SU P N ⟨dst,.binOp .neq T x y U,ty,pos,af,gd⟩ f (.bool (decide (l≠m))):=fun ac w ha=>by
 have hg:(eqGuard .neq T x y (txt l) (txt m)).run P w = .ok () w:=by simp[eqGuard,txt]
 have hb:(binOp .neq T (txt l) (txt m)).run P w = .ok (.bool (decide (l≠m))) w:=by
  unfold txt;rw[binOp_string_neq,tU,tU];by_cases h:l=m <;> simp[h,bne] <;> rfl
 simp only[execOp,ha.ev hx,ha.ev hy,Sem.run_bind,hg,Result.andThen_ok,hb];rfl
end
end Go.Sy
namespace Go.Proofs.YtackilpikhkijaaGreatDoor
open _root_.Go.Proofs.Tryz _root_.Go.Proofs.YtackilpikhkijaaGreatDoor.Tryz
open Go Go.Sy Go.Pl Go.Proofs Go.Shelf
set_option maxRecDepth 100000
set_option maxHeartbeats 1000000
theorem Br {f:Fr}{t:Nat}{a b:Int}(h:a8 f t=some (vi a))(e:a=b):a8 f t=some (vi b):=e ▸ h
theorem Tryz.sty182:STy Tryz.prog 182 114 1 8 (.int .u64 0):=⟨underlying182,⟨t114,by kernel_rfl,by kernel_rfl,by kernel_rfl,by kernel_rfl⟩,rfl,by decide⟩
theorem Tryz.sty151:STy Tryz.prog 151 5 1 1 (.int .u8 0):=⟨underlying151,⟨t5,by kernel_rfl,by kernel_rfl,by kernel_rfl,by kernel_rfl⟩,rfl,by decide⟩
def ew (l:List Int):List Int:=(l.reverse.dropWhile (· == 0)).reverse
theorem oe {m:List Int}(h:0<m.length)(h0:m.getD (m.length - 1) 1=0):ew (m.take (m.length - 1))=ew m:=by
 rcases List.eq_nil_or_concat m with rfl | ⟨a,x,rfl⟩
 ·simp at h
 ·have hx:x=0:=by simpa [List.getD_eq_getElem?_getD] using h0
  subst hx;simp[ew]
theorem od {m:List Int}(h:(decide ((m.length:Int)>0)&&decide (m.getD (m.length - 1) 1=0))=false):ew m=m:=by
 rcases List.eq_nil_or_concat m with rfl | ⟨a,x,rfl⟩
 ·rfl
 ·have hx:x≠0:=by simpa [List.getD_eq_getElem?_getD] using h
  simp[ew,hx]
theorem xC (E:World)(g:PH)(s:Own)(v:Value)(l:List Int)(hv:SlA Bj g v l)(hl:l.length<1099511627776) :
  Ctr Tryz.prog E 182 #[v] g s (fun r g' s'=>g=g'∧s=s'∧SlA Bj g r (ew l)):=by
 refine Ctr.of (args:=[v]) func182 I ntmps182 (bE I) ?_;refine rZ (aT I (sQ (bK ?_)));refine oP (ι:=Value×List Int) (fun i=>[(0,i.1)]) (fun _=>g) (fun _=>s) (fun i=>SlA Bj g i.1 i.2∧ew i.2=ew l∧i.2.length≤l.length) (fun i=>i.2.length) (v,l) ⟨I,trivial⟩ I I ⟨hv,I,lR _⟩ ?_;rintro ⟨v1,m⟩ ⟨hm,htr,hle⟩;dsimp only at hm htr hle ⊢;obtain ⟨p,c,rfl⟩:=SlA.form hm;have hcap:=(SlA.cap hm).2;have f1:(m.length:Int)>0→(decide ((m.length:Int)>0)&&decide (m.getD (m.length - 1) 1=0))=decide (m.getD (m.length - 1) 1=0):=fun h=>by rw[decide_eq_true h,Bool.true_and]
 have f2:¬ (m.length:Int)>0→(decide ((m.length:Int)>0)&&decide (m.getD (m.length - 1) 1=0))=false:=fun h=>by simp only[h,decide_false,Bool.false_and]
 have hgl:(m.length:Int)>0→m[((m.length:Int) - 1).toNat]?=some (m.getD (m.length - 1) 1):=fun h=>by
  have h1:((m.length:Int) - 1).toNat=m.length - 1:=oM;have h2:m.length - 1<m.length:=oM;rw[h1,List.getD_eq_getElem?_getD,gE h2]; rfl
 have hbs:(m.length:Int)>0→based (.slice p m.length c)=true:=fun h=>SlA.based hm oM;refine sQ ?_;refine SC.cutB 14 ((decide ((m.length:Int)>0)&&decide (m.getD (m.length - 1) 1=0))) ?_ ?_
 ·refine rG (lM I (lU (eN pC I) (lU (gR I I) (lM I ?_))));refine sP ?_ ?_
  ·intro h6;refine lY I I I (mV I) (lY I I I (mV I) (lY I I I (eN pC I) (lY I I I (sU I I oM) (lY I I I (iA pC sizeOf114 I I (hbs h6) oM sL) (SL.gq (gT I I I dC) (eB isAgg114 I (SlA.rd hm) (hgl h6) I) dC (lY I I I (eQ I I) (lU (wT I I) (nL ?_))))))));exact ST.mid1 (by (rw[f1 h6]; rfl)) mI
  ·intro h6;refine lZ I I I (lZ I I I (lZ I I I (lZ I I I (lZ I I I (lZ I I I (lZ I I I (lU (wF I I) (nL ?_))))))));exact ST.mid1 (by (rw[f2 h6]; rfl)) mI
 refine iQ I (fun hc=>?_) (fun hc=>?_)
 ·rw[Bool.and_eq_true,decide_eq_true_iff,decide_eq_true_iff] at hc;obtain ⟨hpos,hlast⟩:=hc;have h1:((m.length:Int) - 1).toNat=m.length - 1:=oM;refine kP (tN (bK (rG (lM I (lM I (lU (eN pC I) (lU (sU I I oM) (lU (SU.sliceH pC sizeOf114 I I oM oM) (lA I (nL (bN ?_)))))))))));refine gA (sliced p 0 ((m.length:Int) - 1).toNat c 1,m.take (m.length - 1)) ⟨I,trivial⟩ I I ⟨?_,?_,?_⟩ (by dsimp only; rw[List.length_take]; omega)
  ·have:=SlA.cut hm (l:=0) (m:=m.length - 1) (Nat.zero_le _) oM;dsimp only;rw[h1];simpa using this
  ·dsimp only; rw[oe oM hlast]; exact htr
  ·dsimp only; rw[List.length_take]; omega
 ·refine xI (tX (tX (bX (tN (sW I (aT I (rE ?_)))))));exact ST.ret1 (.inl I) results182 I ⟨I,I,by rw[← htr,od hc]; exact hm⟩
theorem rS (E:World)(g:PH)(s:Own)(v:Value)(l:List Int)(hv:SlA encInt g v l)(hl:l.length<1099511627776) :
  Ctr Tryz.prog E 108 #[v] g s (fun r g' s'=>g=g'∧s=s'∧SlA encInt g r (ew l)):=by
 refine Ctr.of (args:=[v]) func108 I ntmps108 (bE I) ?_;refine rZ (aT I (sQ (bK ?_)));refine oP (ι:=Value×List Int) (fun i=>[(0,i.1)]) (fun _=>g) (fun _=>s) (fun i=>SlA encInt g i.1 i.2∧ew i.2=ew l∧i.2.length≤l.length) (fun i=>i.2.length) (v,l) ⟨I,trivial⟩ I I ⟨hv,I,lR _⟩ ?_;rintro ⟨v1,m⟩ ⟨hm,htr,hle⟩;dsimp only at hm htr hle ⊢;obtain ⟨p,c,rfl⟩:=SlA.form hm;have hcap:=(SlA.cap hm).2;have f1:(m.length:Int)>0→(decide ((m.length:Int)>0)&&decide (m.getD (m.length - 1) 1=0))=decide (m.getD (m.length - 1) 1=0):=fun h=>by rw[decide_eq_true h,Bool.true_and]
 have f2:¬ (m.length:Int)>0→(decide ((m.length:Int)>0)&&decide (m.getD (m.length - 1) 1=0))=false:=fun h=>by simp only[h,decide_false,Bool.false_and]
 have hgl:(m.length:Int)>0→m[((m.length:Int) - 1).toNat]?=some (m.getD (m.length - 1) 1):=fun h=>by
  have h1:((m.length:Int) - 1).toNat=m.length - 1:=oM;have h2:m.length - 1<m.length:=oM;rw[h1,List.getD_eq_getElem?_getD,gE h2]; rfl
 have hbs:(m.length:Int)>0→based (.slice p m.length c)=true:=fun h=>SlA.based hm oM;refine sQ ?_;refine SC.cutB 14 ((decide ((m.length:Int)>0)&&decide (m.getD (m.length - 1) 1=0))) ?_ ?_
 ·refine rG (lM I (lU (eN aI I) (lU (gR I I) (lM I ?_))));refine sP ?_ ?_
  ·intro h6;refine lY I I I (mV I) (lY I I I (mV I) (lY I I I (eN aI I) (lY I I I (sU I I oM) (lY I I I (iA aI zT3 I I (hbs h6) oM sL) (SL.gq (gT I I I dC) (eB iT3 I (SlA.rd hm) (hgl h6) I) dC (lY I I I (eQ I I) (lU (wT I I) (nL ?_))))))));exact ST.mid1 (by (rw[f1 h6]; rfl)) mI
  ·intro h6;refine lZ I I I (lZ I I I (lZ I I I (lZ I I I (lZ I I I (lZ I I I (lZ I I I (lU (wF I I) (nL ?_))))))));exact ST.mid1 (by (rw[f2 h6]; rfl)) mI
 refine iQ I (fun hc=>?_) (fun hc=>?_)
 ·rw[Bool.and_eq_true,decide_eq_true_iff,decide_eq_true_iff] at hc;obtain ⟨hpos,hlast⟩:=hc;have h1:((m.length:Int) - 1).toNat=m.length - 1:=oM;refine kP (tN (bK (rG (lM I (lM I (lU (eN aI I) (lU (sU I I oM) (lU (SU.sliceH aI zT3 I I oM oM) (lA I (nL (bN ?_)))))))))));refine gA (sliced p 0 ((m.length:Int) - 1).toNat c 1,m.take (m.length - 1)) ⟨I,trivial⟩ I I ⟨?_,?_,?_⟩ (by dsimp only; rw[List.length_take]; omega)
  ·have:=SlA.cut hm (l:=0) (m:=m.length - 1) (Nat.zero_le _) oM;dsimp only;rw[h1];simpa using this
  ·dsimp only; rw[oe oM hlast]; exact htr
  ·dsimp only; rw[List.length_take]; omega
 ·refine xI (tX (tX (bX (tN (sW I (aT I (rE ?_)))))));exact ST.ret1 (.inl I) results108 I ⟨I,I,by rw[← htr,od hc]; exact hm⟩
theorem qj (E:World)(g:PH)(s:Own)(v:Value)(hv:v.cells = #[v]) :
  Ctr Tryz.prog E 183 #[v] g s (fun r g' s'=>s=s'∧Le g g'∧∃ b,r = .func (.func 207) #[] #[pp b 0]∧g' b=some (.cells #[v] 182 (0,0))):=by
 refine Ctr.of (args:=[v]) func183 I ntmps183 (bE I) ?_;refine rZ (bW (bO I) fun b1=>?_);refine aT I (rZ (lU (SU.mkFunc I) (aT I (rE ?_))));rw[hv];refine ST.freeze fun g1 hle hb=>?_;exact ST.ret1 (.inl I) results183 I ⟨I,hle,_,I,hb⟩
def qr (l:List Int):List (Nat×Int):=(l.zipIdx.map fun p=>(p.2,p.1)).reverse
theorem nj (l:List Int):(qr l).length=l.length:=by simp[qr]
theorem y5 {l:List Int}{k:Nat}(h:k<l.length):(qr l)[l.length - 1 - k]?=some (k,l[k]):=by
 unfold qr;rw[List.getElem?_reverse (by simp; omega)];simp only[List.length_map,List.length_zipIdx];rw[show l.length - 1 - (l.length - 1 - k)=k by omega];simp[h]
theorem nZ (E:World)(g0:PH)(b:Nat)(v:Value)(l:List Int)(hb:g0 b=some (.cells #[v] 182 (0,0)))(hv:SlA Bj g0 v l)(hl:l.length<1099511627776) :
  Bv Tryz.prog E 207 [pp b 0] (fun x:Nat×Int=>[vi x.1,.int .u64 x.2]) (qr l) g0:=by
 intro k ι G S J i0 h0 hmono hY sx;obtain ⟨p,c,rfl⟩:=SlA.form hv;refine Ctr.ofX (args:=[.func (.yield k) #[] #[],pp b 0]) func207 I ntmps207 (bE I) ?_;refine XC.seq ?_;refine XC.region ?_;refine XL.q (qL (v:=.slice p l.length c) isAgg182 I (cK (hmono _ _ h0 _ _ hb) I)) dC ?_;refine XL.u (eN pC I) dC ?_;refine XL.u (sU I I oM) dC ?_;refine XL.u (aS I) dC ?_;refine XL.nil ?_;refine XT.thenN ?_;refine XC.block ?_;refine XC.loop (ι:=ι×Nat) (fun i=>[(0,.func (.yield k) #[] #[]),(1,pp b 0),(3,vi ((i.2:Int) - 1))]) (fun i=>G i.1) (fun i=>S i.1++sx) (fun i=>i.2≤l.length∧J ((qr l).take (l.length - i.2)) i.1) (fun i=>i.2) (i0,l.length)
  sB rfl rfl ⟨lR _,by simpa using h0⟩ ?_
 rintro ⟨j,n⟩ ⟨hn,hJ⟩;dsimp only at hn hJ ⊢;have hle:=hmono _ _ hJ;refine XC.seq ?_;refine XC.seq ?_;refine XC.region ?_;refine XL.u (mV I) dC ?_;refine XL.u (gQ I I) dC ?_;refine XL.nil ?_;refine XT.thenN ?_;refine XC.ifP I (fun hge=>?_) (fun hge=>?_)
 ·have hn1:n - 1<l.length:=oM;have hv':=SlA.mono hv hle;have hb1:=SlA.based hv' oM;have hgx:l[((n:Int) - 1).toNat]?=some l[n - 1]:=by rw[show ((n:Int) - 1).toNat=n - 1 by omega]; exact gE hn1
  have hrg:=y5 hn1;rw[show l.length - 1 - (n - 1)=l.length - n by omega] at hrg;have hsp:qr l=(qr l).take (l.length - n)++(n - 1,l[n - 1])::(qr l).drop (l.length - n+1):=by
   obtain ⟨h1,h2⟩:=List.getElem?_eq_some_iff.1 hrg;rw[← h2,List.getElem_cons_drop,List.take_append_drop]
  have hy:=hY _ _ _ j sx hsp hJ;have htk:(qr l).take (l.length - (n - 1))=(qr l).take (l.length - n)++[(n - 1,l[n - 1])]:=by
   obtain ⟨h1,h2⟩:=List.getElem?_eq_some_iff.1 hrg;rw[show l.length - (n - 1)=l.length - n+1 by omega,tS h1,h2]
  generalize l[n - 1]=x at *;have hvn:vi ((n - 1:Nat):Int)=vi ((n:Int) - 1):=congrArg vi oM;dsimp only at hy;rw[hvn] at hy;refine XC.skip ?_;refine XT.thenN ?_;refine XC.seq ?_;refine XC.block ?_;refine XC.seq ?_;refine XC.region ?_;refine XL.u (mV I) dC ?_;refine XL.u (mV I) dC ?_;refine XL.q (qL (v:=.slice p l.length c) isAgg182 I (cK (hle _ _ hb) I)) dC ?_;refine XL.u (mV I) dC ?_;refine XL.u (iA pC sizeOf114 I I hb1 oM sL) dC ?_;refine XL.q (eB isAgg114 I (SlA.rd hv') hgx I) dC ?_;refine XL.x (XO.yield I I hy) dC ?_;rintro _ _ _ ⟨rfl,j',hJ',rfl,rfl⟩;refine XL.u (SU.not I) dC ?_;refine XL.nil ?_;refine XT.thenN ?_;refine XC.condF I ?_;refine XC.skip ?_;refine XT.blockN ?_;refine XT.thenN ?_;refine XC.region ?_;refine XL.u (mV I) dC ?_;refine XL.u (sU I I oM) dC ?_;refine XL.u (aS I) dC ?_;refine XL.nil ?_;exact XT.again (j',n - 1) ⟨I,I,Br I oM,trivial⟩ I I ⟨by dsimp only; omega,by dsimp only; rw[htk]; exact hJ'⟩ (by dsimp only; omega)
 ·have hn0:n=0:=oM;subst hn0;refine XC.exit ?_;refine XT.thenX ?_;refine XT.thenX ?_;refine XT.blockX ?_;exact XT.leave0 (.inr I) (ST.ret0 (.inr I) results207 ⟨j,by have:=hJ; rwa [tL (by rw[nj]; omega)] at this,I,I⟩)
def tz:Ren :=
 {
  f:=fun x =>
   match x with
   | 161=>184
   | 231=>208
   | 227=>209
   | 233=>210
   | 235=>211
   | 228=>220
   | 197=>221
   | 151=>222
   | 260=>226
   | 152=>227
   | 137=>228
   | 119=>229
   | 224=>230
   | 225=>231
   | 217=>232
   | 266=>233
   | n=>n,
  t:=fun x =>
   match x with
   | 9=>9
   | 4=>4
   | 3=>3
   | 5=>5
   | 117=>235
   | 116=>234
   | 0=>0
   | 124=>238
   | 105=>246
   | 21=>21
   | 119=>251
   | 46=>170
   | 139=>254
   | 138=>253
   | n=>n,
  g:=fun x =>
   match x with
   | 3=>0
   | 4=>1
   | n=>n }
theorem Tryz.lays161:Lays.n161 Tryz.prog tz :=
  {
  mixed:=Eq.refl true,f119:=Eq.trans func229 (congrArg some kR),
  f137:=Eq.trans func228 (congrArg some kR),
  f151:=Eq.trans func222 (congrArg some kR),
  f152:=Eq.trans func227 (congrArg some kR),
  f161:=Eq.trans func184 (congrArg some kR),
  f197:=Eq.trans func221 (congrArg some kR),
  f217:=Eq.trans func232 (congrArg some kR),
  f224:=Eq.trans func230 (congrArg some kR),
  f225:=Eq.trans func231 (congrArg some kR),
  f227:=Eq.trans func209 (congrArg some kR),
  f228:=Eq.trans func220 (congrArg some kR),
  f231:=Eq.trans func208 (congrArg some kR),
  f233:=Eq.trans func210 (congrArg some kR),
  f235:=Eq.trans func211 (congrArg some kR),
  f260:=Eq.trans func226 (congrArg some kR),
  f266:=Eq.trans func233 (congrArg some kR),t0:=underlying0,
  a0:=isAgg0,z0:=sizeOf0,v0:=zeroValue0,t3:=uT3,a3:=iT3,
  z3:=zT3,v3:=zeroValue3,t4:=uT4,a4:=isAgg4,z4:=zT4,
  v4:=zeroValue4,t5:=uT5,a5:=isAgg5,z5:=sizeOf5,v5:=zeroValue5,
  t9:=uT9,a9:=isAgg9,z9:=sizeOf9,v9:=zeroValue9,t21:=underlying21,
  a21:=isAgg21,z21:=sizeOf21,v21:=zeroValue21,t46:=ft,a46:=isAgg170,
  z46:=sizeOf170,v46:=zeroValue170,t105:=underlying246,a105:=isAgg246,
  z105:=sizeOf246,v105:=zeroValue246,t116:=underlying234,a116:=isAgg234,
  z116:=sizeOf234,t117:=underlying235,a117:=isAgg235,z117:=sizeOf235,
  v117:=zeroValue235,t119:=underlying251,a119:=isAgg251,z119:=sizeOf251,
  t124:=underlying238,a124:=isAgg238,z124:=sizeOf238,v124:=zeroValue238,
  t138:=underlying253,a138:=isAgg253,z138:=sizeOf253,v138:=zeroValue253,
  t139:=underlying254,a139:=isAgg254,z139:=sizeOf254,v139:=zeroValue254,
  g3:=kR,g4:=kR }
def lD (l:List UInt8):List UInt8:=l.dropWhile (· == 0)
theorem pL (E:World)(g:PH)(s:Own)(l:List UInt8) :
  Ctr Tryz.prog E 184 #[txt l,txt [0]] g s (fun r g' s'=>r=txt (lD l)∧g=g'∧s=s'):=by
 intro w hw;refine (Any.strings_TrimLeft_one lays161 ⟨l.toArray⟩ 0 dC w).mono ?_;rintro e w' ⟨rfl,rfl⟩;exact⟨_,g,s,I,hw,I,I,I⟩
def by4 (x:Int):List Int:=[IntKind.u8.wrap (x.fdiv (2 ^ min (24:Int).toNat IntKind.u64.bits)),IntKind.u8.wrap (x.fdiv (2 ^ min (16:Int).toNat IntKind.u64.bits)),IntKind.u8.wrap (x.fdiv (2 ^ min (8:Int).toNat IntKind.u64.bits)),IntKind.u8.wrap x]
def byP (x:Nat×Int):List Int:=by4 x.2
theorem vP (l:List (Nat×Int)):(l.flatMap byP).length=4 * l.length:=by
 induction l with
 | nil=>rfl
 | cons a t ih=>simp only[List.flatMap_cons,List.length_append,ih,List.length_cons,byP,by4,List.length_nil]; omega
theorem tV (l:List Int):(ew l).length≤l.length:=by
 unfold ew;rw[List.length_reverse];have:=(List.dropWhile_sublist (l:=l.reverse) (· == 0)).length_le;simpa using this
def md (l:List Int):List UInt8:=lD (byt ((qr (ew l)).flatMap byP))
def yx (neg:Bool)(bs:List UInt8):Value:=.agg #[vb (neg&&decide (bs≠[])),txt bs]
theorem Tryz.build75 (a:Bool)(l:List UInt8)(w:World):(Instr.build 75 #[(0,vb a),(1,txt l)]).run Tryz.prog w = .ok (.agg #[vb a,txt l]) w:=by
 have h1:(vb a).cells = #[vb a]:=rfl;have h2:(txt l).cells = #[txt l]:=rfl;simp[Instr.build,Instr.fill,h1,h2];rfl
theorem rW (E:World)(g:PH)(s:Own)(v:Value)(l:List Int)(neg:Bool)(hv:SlA Bj g v l)(hl:l.length<1099511627776) :
  Ctr Tryz.prog E 148 #[v,vb neg] g s (fun r g' s'=>r=yx neg (md l)∧s=s'∧Le g g'):=by
 have htl:=tV l;refine Ctr.ofX (args:=[v,vb neg]) func148 I ntmps148 (bE I) ?_;refine XC.seq ?_;refine XC.region ?_;refine XL.o (aL zeroValue75) dC ?_;rintro _ _ _ ⟨b4,rfl,rfl,rfl⟩;refine XL.nil ?_;refine XT.thenN ?_;refine XC.seq ?_;refine XC.region ?_;refine XL.u (mV I) dC ?_;refine XL.o (cL call182 I (xC E g _ v l hv hl)) dC ?_;rintro v10 _ _ ⟨rfl,rfl,hm⟩;obtain ⟨q,d,rfl⟩:=SlA.form hm;refine XL.u (aS I) dC ?_;refine XL.nil ?_;refine XT.thenN ?_;refine XC.seq ?_;refine XC.region ?_;refine XL.u (mV I) dC ?_;refine XL.u (eN pC I) dC ?_;refine XL.u (SU.eq (v':=vi ((4 * (ew l).length:Nat))) (SU.mul I I oM) (congrArg vi oM)) dC ?_;refine XL.o (SO.makeC pI sty151 I I oM oM) dC ?_;rintro v14 _ _ ⟨rfl,rfl⟩;refine XL.facts fun ⟨w0,hw0⟩=>?_;obtain ⟨p14,c14,rfl⟩:=ah (i:=0) hw0 rfl;clear hw0 w0;refine XL.o (aL zeroValue151) dC ?_;rintro _ _ _ ⟨b5,rfl,rfl,rfl⟩;refine XL.on (sK 0 sizeOf151 I I I I I sB) ?_;rintro _ _ _ ⟨rfl,rfl⟩;refine XL.nil ?_;refine XT.thenN ?_;refine XC.seq ?_;refine XC.seq ?_;refine XC.region ?_;refine XL.u (mV I) dC ?_;refine XL.o (cL call183 I (qj E _ _ _ I)) dC ?_;rintro _ g1 _ ⟨rfl,hle,bb,rfl,hbb⟩;refine XL.nil ?_;refine XT.thenN ?_;refine XC.block ?_;refine XC.to (g':=g1) (s':=rowA pI 5 (.slice p14 0 c14) []::pt b5 (.cells #[.slice p14 0 c14] 151 (0,0))::pt b4 (.cells #[vb false,txt []] 75 (0,0))::s) (fun w hw=>hw.perm (List.Perm.swap _ _ _)) ?_;refine XC.rangeFunc (α:=Nat×Int) (ι:=Value×List Int) (encs:=fun x=>[vi x.1,.int .u64 x.2]) (xs:=qr (ew l)) (g0:=g1) (fun _=>g1) (fun i=>rowA pI 5 i.1 i.2::pt b5 (.cells #[i.1] 151 (0,0))::pt b4 (.cells #[vb false,txt []] 75 (0,0))::[]) (fun pre i=>i.2=pre.flatMap byP) (.slice p14 0 c14,[]) s
  (fun x=>[(18,.int .u64 x.2),(17,vi x.1),(5,pp b5 0)]) (fun _ x _=>[(7,.int .u64 x.2),(5,pp b5 0)]) rfl rfl call207 (fun _=>rfl) rfl rfl (nZ E g1 bb _ _ hbb (SlA.mono hm hle) oM) (fun _ _ _=>Le.refl _) rfl
  (fun x a h=>AV (h.sub (g:=[(5,pp b5 0)]) ⟨rfl,trivial⟩) dC dC) ?_ ?_ ?_
 ·intro k pre x i sx hJ;refine XC.region ?_;refine XL.u (aS I) dC ?_;refine XL.nil ?_;exact XT.assignEnd sB
 ·rintro k pre ⟨xi,x⟩ suf ⟨bv,bs⟩ sx hxs hJ;dsimp only at hJ ⊢;have hpl:pre.length<(ew l).length:=by
   have:=congrArg List.length hxs;rw[nj,List.length_append,List.length_cons] at this;omega
  have hbl:bs.length=4 * pre.length:=by rw[hJ,vP]
  refine XC.facts fun ⟨w0,hw0⟩=>?_;obtain ⟨q2,d2,rfl⟩:=ah (i:=0) hw0 rfl;clear hw0 w0;refine XC.block ?_;refine XC.region ?_;refine XL.q (qL (v:=.slice q2 bs.length d2) isAgg151 I (cO 1 I I)) dC ?_;refine XL.u (mV I) dC ?_;refine XL.u (SU.shr I I dC) dC ?_;refine XL.u (SU.convert lv uT5 I) dC ?_;refine XL.u (mV I) dC ?_;refine XL.u (SU.shr I I dC) dC ?_;refine XL.u (SU.convert lv uT5 I) dC ?_;refine XL.u (mV I) dC ?_;refine XL.u (SU.shr I I dC) dC ?_;refine XL.u (SU.convert lv uT5 I) dC ?_;refine XL.u (mV I) dC ?_;refine XL.u (SU.convert lv uT5 I) dC ?_;refine XL.o (bS sty151 I I I (ae sB) dC) dC ?_;rintro _ _ _ ⟨b31,rfl,rfl,rfl⟩;refine XL.to (fun w hw=>At.litRow (e:=pI) (l:=by4 x) (n:=3) hw I I dC) ?_;refine XL.o (SO.appendE (m:=4) 1 (bs++by4 x).length ((bs++by4 x).flatMap pI.enc) sty151 I I I I I (Rd.rowA 0 I) (pI.length (by4 x)) (pI.ones _) (by simp[by4]) (by simp) (by simp[by4]; omega) (by simp[by4]; omega)) dC ?_;rintro v32 _ _ ⟨rfl,rfl⟩;refine XL.facts fun ⟨w0,hw0⟩=>?_;obtain ⟨q3,d3,rfl⟩:=ah (e:=pI) (l:=bs++by4 x) (i:=1) hw0 rfl;clear hw0 w0;refine XL.on (sK 2 sizeOf151 I I I I I sB) ?_;rintro _ _ _ ⟨rfl,rfl⟩;refine XL.nil ?_;refine XT.blockN ?_;refine XT.drop (List.sublist_cons_self _ _) ?_;exact XT.roundEnd (.slice q3 (bs++by4 x).length d3,bs++by4 x) I I (by dsimp only; rw[List.flatMap_append,hJ]; simp[byP])
 ·rintro D ⟨bv,bs⟩ hJ;dsimp only at hJ ⊢;refine XT.facts fun ⟨w0,hw0⟩=>?_;obtain ⟨q2,d2,rfl⟩:=ah (i:=1) hw0 rfl;clear hw0 w0;refine XT.blockN ?_;refine XT.thenN ?_;refine XC.seq ?_;refine XC.region ?_;refine XL.q (qL (v:=.slice q2 bs.length d2) isAgg151 I (cO 2 I I)) dC ?_;refine XL.q (SQ.bytesText underlying151 uT5 uT9 I (Rd.rowA 1 I)) dC ?_;refine XL.o (cL call184 I (pL E g1 _ (byt bs))) dC ?_;rintro _ _ _ ⟨rfl,rfl,rfl⟩;refine XL.u (aS I) dC ?_;refine XL.nil ?_;refine XT.thenN ?_;have hbs:lD (byt bs)=md l:=by unfold md; rw[hJ]
  rw[hbs];generalize md l=T at *;cases neg
  ·refine XC.seq ?_;refine XC.region ?_;refine XL.u (mV I) dC ?_;refine XL.u (mV I) dC ?_;refine XL.off (gZ I I I dC) dC ?_;refine XL.off (gZ I I I dC) dC ?_;refine XL.u (wF I I) dC ?_;refine XL.u (mV I) dC ?_;refine XL.u (SU.build I (build75 _ _)) dC ?_;refine XL.on (sK 3 qq I I I I I sB) ?_;rintro _ _ _ ⟨rfl,rfl⟩;refine XL.nil ?_;refine XT.thenN ?_;refine XC.ret ?_;exact XT.leave1 (.inl I) (ST.retCD 2 s (.inl I) results148 I isAgg75 qq I I (.cons _ (.cons _ (.cons _ (.refl _)))) ⟨I,I,hle⟩)
  ·refine XC.seq ?_;refine XC.region ?_;refine XL.u (mV I) dC ?_;refine XL.u (mV I) dC ?_;refine XL.gu (gT I I I dC) (mV I) dC ?_;refine XL.gu (gT I I I dC) (SU.neqT I I) dC ?_;refine XL.u (wT I I) dC ?_;refine XL.u (mV I) dC ?_;refine XL.u (SU.build I (build75 _ _)) dC ?_;refine XL.on (sK 3 qq I I I I I sB) ?_;rintro _ _ _ ⟨rfl,rfl⟩;refine XL.nil ?_;refine XT.thenN ?_;refine XC.ret ?_;exact XT.leave1 (.inl I) (ST.retCD 2 s (.inl I) results148 I isAgg75 qq I I (.cons _ (.cons _ (.cons _ (.refl _)))) ⟨I,I,hle⟩)
open Go Go.Sy Go.Pl Go.Proofs
theorem SU.negK {P:Program}{N:Nat}{f:Fr}{dst:Option Tmp}{ty:TypeId}{pos:String}{af:Array Edge}{gd:Option (Nat×Bool)}{x:Operand}{T:TypeId}{k:IntKind}{n:Int}(hx:ev f x=some (.int k n)):SU P N ⟨dst,.unOp .neg T x,ty,pos,af,gd⟩ f (.int k (k.wrap (0 - n))):=fun a w ha=>by
 simp only[execOp,ha.ev hx]; rfl
theorem Ak (n:Int):IntKind.u64.wrap n=n % 18446744073709551616:=by simp[IntKind.wrap,IntKind.bits,IntKind.signed]
theorem BG (m:Nat)(h:m<18446744073709551616):IntKind.u64.wrap (BitVec.ofInt IntKind.u64.bits (m:Int) &&& BitVec.ofInt IntKind.u64.bits 4294967295).toNat=((m % 4294967296:Nat):Int):=by
 have h1:(BitVec.ofInt IntKind.u64.bits (m:Int) &&& BitVec.ofInt IntKind.u64.bits 4294967295).toNat=m % 4294967296:=by
  have hb:IntKind.u64.bits=64:=rfl;rw[hb,BitVec.toNat_and];have e1:(BitVec.ofInt 64 (m:Int)).toNat=m:=by
   rw[BitVec.toNat_ofInt];omega
  have e2:(BitVec.ofInt 64 4294967295).toNat=2 ^ 32 - 1:=by decide
  rw[e1,e2,Nat.and_two_pow_sub_one_eq_mod]
 rw[h1];exact IntWalk.u64_in _ oM
theorem Cb (m:Nat):((m:Nat):Int).fdiv (2 ^ min (32:Int).toNat IntKind.u64.bits)=((m / 4294967296:Nat):Int):=by
 have h1:((2:Int) ^ min (32:Int).toNat IntKind.u64.bits)=4294967296:=by decide
 rw[h1,Int.fdiv_eq_ediv_of_nonneg _ dC];omega
theorem Tryz.buildE75 (w:World):(Instr.build 75 #[]).run Tryz.prog w = .ok (.agg #[vb false,txt []]) w:=by
 simp[Instr.build,Instr.fill];rfl
def wi (n:Int):List Int:=[((n.natAbs % 4294967296:Nat):Int),((n.natAbs / 4294967296:Nat):Int)]
theorem zz (E:World)(g:PH)(s:Own)(n:Int)(h0 : -9223372036854775808≤n)(h1:n<9223372036854775808) :
  Ctr Tryz.prog E 129 #[vi n] g s (fun r g' s'=>r=yx (decide (n<0)) (md (wi n))∧s=s'∧Le g g'):=by
 refine Ctr.of (args:=[vi n]) func129 I ntmps129 (bE I) ?_;refine rZ (bW (aL zeroValue75) fun b2=>?_);refine tZ (sW I (lU (SU.convert uT3 lv I) (aT I ?_)));refine SC.cut (ι:=Unit) (fun _=>[(0,vi n),(2,pp b2 0),(3,.int .u64 (n.natAbs:Int))]) (fun _=>g) (fun _=>pt b2 (.cells #[vb false,txt []] 75 (0,0))::s) (fun _=>True) ?_ ?_
 ·refine sW I (lU (lS I I) (tZ ?_));refine iP I (fun hn=>?_) (fun hn=>?_)
  ·have hw:IntKind.u64.wrap (0 - IntKind.u64.wrap n)=(n.natAbs:Int):=by
    rw[Ak,Ak]; omega
   refine rG (lM I (lU (SU.negK I) (lA I (nL ?_))));exact ST.mid () ⟨rfl,rfl,by rw[← hw]; rfl,trivial⟩ rfl rfl trivial
  ·have hw:IntKind.u64.wrap n=(n.natAbs:Int):=by
    rw[Ak]; omega
   refine kP ?_;exact ST.mid () ⟨rfl,rfl,by rw[← hw]; rfl,trivial⟩ rfl rfl trivial
 rintro _ -;try dsimp only
 refine sW I (lU (SU.eq (v':=.int .u64 ((n.natAbs % 4294967296:Nat):Int)) (SU.and I I) (congrArg _ (BG _ oM))) (lM I (lU (SU.eq (v':=.int .u64 ((n.natAbs / 4294967296:Nat):Int)) (SU.shr I I dC) (congrArg _ (Cb _))) (lW (bS sty182 I I I (ae sB) dC) ?_))));rintro _ _ _ ⟨b14,rfl,rfl,rfl⟩;refine SL.freeze fun g1 hle1 hb=>?_;refine lM I (lU (lS I I) (lW (cL call148 I (rW E g1 _ _ (wi n) _ (SlA.lit hb I I) (by simp[wi]))) ?_));rintro _ g2 _ ⟨rfl,rfl,hle2⟩;refine oZ (sK 0 qq I I I I I sB) ?_;refine tZ (rE ?_);exact ST.retCD 0 s (.inl I) results129 I isAgg75 qq I I uR ⟨I,I,hle1.trans hle2⟩
def hiB (x:Int):Int:=IntKind.u8.wrap (IntKind.i64.wrap (x.tdiv 256))
def loB (x:Int):Int:=IntKind.u8.wrap (x.tmod 256)
def eH:List Int→List Int
 | []=>[]
 | x::D=>eH D++((if decide (D≠[])||decide (x≥256) then [hiB x] else [])++[loB x])
theorem rg:∀ D:List Int,(eH D).length≤2 * D.length
 | []=>by simp[eH]
 | x::D=>by
  have:=rg D;simp only[eH,List.length_append,List.length_cons,List.length_nil];split <;> simp <;> omega
theorem rR (E:World)(g:PH)(s:Own)(v:Value)(neg:Bool)(l:List Int)(hv:SlA encInt g v l)(hl:l.length<1099511627776) :
  Ctr Tryz.prog E 61 #[vb neg,v] g s (fun r g' s'=>r = .agg #[vb (neg&&decide (ew l≠[])),txt (byt (eH (ew l)))]∧s=s'∧Le g g'):=by
 have htl:=tV l;refine Ctr.of (args:=[vb neg,v]) func61 I ntmps61 (bE I) ?_;refine rZ (bW (aL zeroValue75) fun b4=>?_);refine tZ (sW I (lW (cL call108 I (rS E g _ v l hv hl)) ?_));rintro v8 _ _ ⟨rfl,rfl,hm⟩;obtain ⟨q,d,rfl⟩:=SlA.form hm;refine aT I (sQ (sW I (lU (eN aI I) (lU (eQ I I) (tZ ?_)))));generalize ew l=t at *;refine iP I (fun hz=>?_) (fun hz=>?_)
 ·have ht0:t=[]:=List.eq_nil_of_length_eq_zero oM;subst ht0;refine rZ (lU (SU.build I (buildE75)) (oZ (sK 0 qq I I I I I sB) ?_));refine tZ (rE (tR ?_));exact ST.retCD 0 s (.inl I) results61 I isAgg75 qq I I uR ⟨by cases neg <;> rfl,I,Le.refl g⟩
 ·refine kP (tN (rZ (aT I (sQ (sW I (lU (eN aI I) (lU (sU I I oM) (aT I (bK (SC.nilRow 5 1 ?_))))))))));refine oP (ι:=Nat×Value) (fun i=>[(0,vb neg),(1,.slice q t.length d),(4,pp b4 0),(5,i.2),(6,vi ((i.1:Int) - 1))]) (fun _=>g) (fun i=>rowA pI 5 i.2 (eH (t.drop i.1))::pt b4 (.cells #[vb false,txt []] 75 (0,0))::s) (fun i=>i.1≤t.length) (fun i=>i.1) (t.length,.slice none 0 0)
   sB rfl (by dsimp only; rw[List.drop_length]; rfl) (lR _) ?_
  rintro ⟨n,bv⟩ hn;dsimp only at hn ⊢;refine sQ (sW I (lU (gQ I I) (tZ ?_)));refine iP I (fun hge=>?_) (fun hge=>?_)
  ·have hn1:n - 1<t.length:=oM;have hb1:=SlA.based hm oM;have hgx:t[((n:Int) - 1).toNat]?=some t[n - 1]:=by rw[show ((n:Int) - 1).toNat=n - 1 by omega]; exact gE hn1
   have hdr:t.drop (n - 1)=t[n - 1]::t.drop n:=by
    have:=List.drop_eq_getElem_cons hn1;rwa [show n - 1+1=n by omega] at this
   have hne:decide (t.drop n≠[])=decide ((n:Int) - 1<(t.length:Int) - 1):=by
    rw[decide_eq_decide];constructor
    ·intro h;have:=List.length_pos_iff.2 h;rw[List.length_drop] at this;omega
    ·intro h e;have:=congrArg List.length e;rw[List.length_drop,List.length_nil] at this;omega
   have hlb:=rg (t.drop n);rw[List.length_drop] at hlb;generalize t[n - 1]=x at *;have hst:eH (t.drop (n - 1))=eH (t.drop n)++((if decide ((n:Int) - 1<(t.length:Int) - 1)||decide (x≥256) then [hiB x] else [])++[loB x]):=by rw[hdr,eH,hne]
   generalize eH (t.drop n)=B at *;have f1:(n:Int) - 1<(t.length:Int) - 1→(decide ((n:Int) - 1<(t.length:Int) - 1)||decide (x≥256))=true:=fun h=>by rw[decide_eq_true h,Bool.true_or]
   have f2:¬ (n:Int) - 1<(t.length:Int) - 1→(decide ((n:Int) - 1<(t.length:Int) - 1)||decide (x≥256))=decide (x≥256):=fun h=>by rw[decide_eq_false h,Bool.false_or]
   refine kP (tN (sQ (bK ?_)));refine SC.cut (ι:=Value) (fun i=>[(0,vb neg),(1,.slice q t.length d),(4,pp b4 0),(5,i),(6,vi ((n:Int) - 1))]) (fun _=>g) (fun i=>rowA pI 5 i (B++(if decide ((n:Int) - 1<(t.length:Int) - 1)||decide (x≥256) then [hiB x] else []))::pt b4 (.cells #[vb false,txt []] 75 (0,0))::s) (fun _=>True) ?_ ?_
   ·refine SC.cutB 31 ((decide ((n:Int) - 1<(t.length:Int) - 1)||decide (x≥256))) ?_ ?_
    ·refine rG (lM I (lM I (lU (eN aI I) (lU (sU I I oM) (lU (lS I I) (lM I ?_))))));refine sP ?_ ?_
     ·intro h25;refine lZ I I I (lZ I I I (lZ I I I (lZ I I I (lZ I I I (lU (wT I I) (nL ?_))))));exact ST.mid1 (by (rw[f1 h25]; rfl)) mI
     ·intro h25;refine lY I I I (mV I) (lY I I I (mV I) (lY I I I (iA aI zT3 I I hb1 oM sL) (SL.gq (gT I I I dC) (eB iT3 I (SlA.rd hm) hgx I) dC (lY I I I (gQ I I) (lU (wF I I) (nL ?_))))));exact ST.mid1 (by (rw[f2 h25]; rfl)) mI
    refine iQ I (fun hc=>?_) (fun hc=>?_)
    ·refine rG (lM I (lM I (lM I (lU (iA aI zT3 I I hb1 oM sL) (lK (eB iT3 I (SlA.rd hm) hgx I) (lU (SU.quo I I dC) (lU (SU.eq (v':=.int .u8 (hiB x)) (SU.convert uT3 uT5 I) I) (lW (bS sty151 I I I (ae sB) dC) ?_))))))));rintro _ _ _ ⟨b39,rfl,rfl,rfl⟩;refine lW (aP (e:=pI) 0 (hiB x) sty151 I I I I I oM oM) ?_;rintro bv' _ _ ⟨rfl,rfl⟩;refine lA I (nL ?_);exact ST.mid bv' sB rfl (by rw[if_pos hc]; rfl) trivial
    ·refine kP ?_;exact ST.mid bv sB I (by rw[if_neg (by rw[hc]; simp),List.append_nil]) trivial
   rintro bv2 -;try dsimp only
   have hB2:(B++(if decide ((n:Int) - 1<(t.length:Int) - 1)||decide (x≥256) then [hiB x] else [])).length≤B.length+1:=by
    rw[List.length_append]; split <;> simp
   rw[← List.append_assoc] at hst;generalize (B++(if decide ((n:Int) - 1<(t.length:Int) - 1)||decide (x≥256) then [hiB x] else []))=B2 at *;refine rG (lM I (lM I (lM I (lU (iA aI zT3 I I hb1 oM sL) (lK (eB iT3 I (SlA.rd hm) hgx I) (lU (SU.rem I I dC) (lU (SU.eq (v':=.int .u8 (loB x)) (SU.convert uT3 uT5 I) I) (lW (bS sty151 I I I (ae sB) dC) ?_))))))));rintro _ _ _ ⟨b48,rfl,rfl,rfl⟩;refine lW (aP (e:=pI) 0 (loB x) sty151 I I I I I oM oM) ?_;rintro bv3 _ _ ⟨rfl,rfl⟩;refine lA I (nL (bN (tN (rG (lM I (lU (sU I I oM) (lA I (nL ?_))))))));exact gA (n - 1,bv3) ⟨rfl,rfl,rfl,rfl,Br rfl oM,trivial⟩ rfl (by dsimp only; rw[hst]; rfl) (by dsimp only; omega) (by dsimp only; omega)
  ·have hn0:n=0:=oM;subst hn0;refine SC.facts fun ⟨w0,hw0⟩=>?_;obtain ⟨q2,d2,rfl⟩:=ah (i:=0) hw0 rfl;clear hw0 w0;rw[List.drop_zero] at *;refine xI (tX (tX (bX (tN (sW I (lM I (lK (SQ.bytesText underlying151 uT5 uT9 I (Rd.rowA 0 I)) (lU (SU.build I (build75 _ _)) (oZ (sK 1 qq I I I I I sB) ?_)))))))));refine tZ (rE ?_);exact ST.retCD 1 s (.inl rfl) results61 rfl isAgg75 qq rfl rfl uR ⟨by rw[show decide (t≠[])=true from decide_eq_true (fun e:t=[]=>hz (by rw[e]; rfl)),Bool.and_true]; rfl,rfl,Le.refl g⟩
def kZ (m:Nat):List Int:=if h:m=0 then [] else ((m % 65536:Nat):Int)::kZ (m / 65536)
termination_by m
decreasing_by omega
theorem eU:kZ 0=[]:=by unfold kZ; rfl
theorem fX {m:Nat}(h:m≠0):kZ m=((m % 65536:Nat):Int)::kZ (m / 65536):=by rw[kZ,dif_neg h]
theorem nr:∀ (k m:Nat),m<65536 ^ k→(kZ m).length≤k
 | 0,m,h=>by
  have:m=0:=by simpa using h
  subst this; rw[eU]; simp
 | k+1,m,h=>by
  by_cases h0:m=0
  ·subst h0; rw[eU]; simp
  ·rw[fX h0,List.length_cons];have:=nr k (m / 65536) (by rw[Nat.div_lt_iff_lt_mul dC]; rwa [Nat.pow_succ] at h);omega
theorem ym (m:Nat):ew (kZ m)=kZ m:=by
 have key:∀ m,kZ m=[]∨∃ a x,kZ m=a++[x]∧x≠0:=by
  intro m;induction m using Nat.strongRecOn with
  | _ m ih =>
   by_cases h0:m=0
   ·left; subst h0; exact eU
   ·right;rw[fX h0]
    rcases ih (m / 65536) oM with h | ⟨a,x,h,hx⟩
    ·refine⟨[],_,by rw[h]; rfl,?_⟩;by_cases h1:m / 65536=0
     ·omega
     ·rw[fX h1] at h; cases h
    ·exact⟨_::a,x,by rw[h]; rfl,hx⟩
 rcases key m with h | ⟨a,x,h,hx⟩
 ·rw[h]; rfl
 ·rw[h]; simp[ew,hx]
theorem th (E:World)(g:PH)(s:Own)(n:Int)(h0 : -9223372036854775808≤n)(h1:n<9223372036854775808) :
  Ctr Tryz.prog E 28 #[vi n] g s (fun r g' s'=>r = .agg #[vb (decide (n<0)&&decide (kZ n.natAbs≠[])),txt (byt (eH (kZ n.natAbs)))]∧s=s'∧Le g g'):=by
 have hdl:=nr 4 n.natAbs oM;refine Ctr.of (args:=[vi n]) func28 I ntmps28 (bE I) ?_;refine rZ (bW (aL zeroValue75) fun b2=>?_);refine tZ (rZ (aT I (sW I (lU (SU.convert uT3 lv I) (aT I ?_)))));refine SC.cut (ι:=Unit) (fun _=>[(0,vi n),(2,pp b2 0),(3,.slice none 0 0),(4,.int .u64 (n.natAbs:Int))]) (fun _=>g) (fun _=>pt b2 (.cells #[vb false,txt []] 75 (0,0))::s) (fun _=>True) ?_ ?_
 ·refine sW I (lU (lS I I) (tZ ?_));refine iP I (fun hn=>?_) (fun hn=>?_)
  ·have hw:IntKind.u64.wrap (0 - IntKind.u64.wrap n)=(n.natAbs:Int):=by
    rw[Ak,Ak]; omega
   refine rG (lM I (lU (SU.negK I) (lA I (nL ?_))));exact ST.mid () ⟨rfl,rfl,rfl,by rw[← hw]; rfl,trivial⟩ rfl rfl trivial
  ·have hw:IntKind.u64.wrap n=(n.natAbs:Int):=by
    rw[Ak]; omega
   refine kP ?_;exact ST.mid () ⟨rfl,rfl,rfl,by rw[← hw]; rfl,trivial⟩ rfl rfl trivial
 rintro _ -;try dsimp only
 refine sQ (bK (SC.nilRow 3 1 ?_));refine oP (ι:=Nat×Value×List Int) (fun i=>[(0,vi n),(2,pp b2 0),(3,i.2.1),(4,.int .u64 (i.1:Int))]) (fun _=>g) (fun i=>rowA encInt 3 i.2.1 i.2.2::pt b2 (.cells #[vb false,txt []] 75 (0,0))::s) (fun i=>i.2.2++kZ i.1=kZ n.natAbs∧i.1≤n.natAbs) (fun i=>i.1) (n.natAbs,.slice none 0 0,[])
  sB rfl rfl ⟨rfl,lR _⟩ ?_
 rintro ⟨m,bv,D⟩ ⟨hD,hm⟩;dsimp only at hD hm ⊢;have hDl:D.length≤4:=by have:=congrArg List.length hD; rw[List.length_append] at this; omega
 refine sQ (sW I (lU (gR I I) (tZ ?_)));refine iP I (fun hpos=>?_) (fun hpos=>?_)
 ·have hm0:m≠0:=oM;have hds:=fX hm0;refine kP (tN (bK (sW I (lM I (lU (SU.rem I I dC) (lU (SU.eq (v':=vi ((m % 65536:Nat):Int)) (SU.convert lv uT3 I) (congrArg vi (by rw[show ((m:Int)).tmod 65536=((m % 65536:Nat):Int) by rw[Int.tmod_eq_emod_of_nonneg oM]; omega]; exact IntWalk.i64_in _ oM))) ?_))))));refine lW (bS sty83 I I I (ae sB) dC) ?_;rintro _ _ _ ⟨b17,rfl,rfl,rfl⟩;refine lW (aP (e:=encInt) 0 ((m % 65536:Nat):Int) sty83 I I I I I oM oM) ?_;rintro bv' _ _ ⟨rfl,rfl⟩;refine aT I (rG (lM I (lU (SU.eq (v':=.int .u64 ((m / 65536:Nat):Int)) (SU.quo I I dC) (congrArg _ (by rw[show ((m:Int)).tdiv 65536=((m / 65536:Nat):Int) by rw[Int.tdiv_eq_ediv_of_nonneg oM]; omega]; exact IntWalk.u64_in _ oM))) ?_)));refine lA I (nL (bN ?_));exact gA (m / 65536,bv',D++[((m % 65536:Nat):Int)]) sB I I ⟨by dsimp only; rw[← hD,hds]; simp,by dsimp only; omega⟩ (by dsimp only; omega)
 ·have hm0:m=0:=oM;subst hm0;rw[eU,List.append_nil] at hD;subst hD;refine xI (tX (tX (bX (tN (sQ (fS fun g1 hle1 hs1=>?_))))));refine rG (lM I (lU (lS I I) (lM I (lW (cL call61 I (rR E g1 _ bv _ (kZ n.natAbs) hs1 oM)) ?_))));rintro _ g2 _ ⟨rfl,rfl,hle2⟩;refine oZ (sK 0 qq I I I I I sB) ?_;refine tZ (rE ?_);exact ST.retCD 0 s (.inl rfl) results28 rfl isAgg75 qq rfl rfl uR ⟨by rw[ym]; rfl,rfl,hle1.trans hle2⟩
end Go.Proofs.YtackilpikhkijaaGreatDoor
