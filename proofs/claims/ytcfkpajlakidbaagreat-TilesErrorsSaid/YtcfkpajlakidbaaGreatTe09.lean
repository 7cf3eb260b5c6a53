/- 9 -/
import Derived.Test.YtcfkpajlakidbaaGreatTe05
import Derived.Test.YtcfkpajlakidbaaGreatTe07
import Derived.Test.YtcfkpajlakidbaaGreatTe08
import Derived.SizedLaws
import Derived.Test.YtcfkpajlakidbaaGreatTe04
import Derived.RangeFuncLeaves
import Derived.RangeFuncRecord
import Derived.RangeFuncSeq
import Derived.OrdersIn
import Derived.TacticsIn
import Derived.Test.YtcfkpajlakidbaaGreatTe06
import Derived.Laws.BytesString
import Derived.Laws.Strings
import Derived.Test.YtcfkpajlakidbaaGreatTe02
import Derived.Test.YtcfkpajlakidbaaGreatTe03
import Derived.Scope
set_option linter.unusedSimpArgs false
set_option linter.unusedVariables false
namespace Go.Proofs.YtcfkpajlakidbaaGreat
open _root_.Go.Proofs.Tryz _root_.Go.Proofs.YtcfkpajlakidbaaGreat.Tryz
open Go Go.Sy Go.Pl Go.Proofs
def tV (L:List (Int×List aj)):List (Int×Int):=L.foldl (fun zl p=>p.2.foldl (fun zl r=>e6 zl r.cell (p.1 * r.sign)) zl) []
def yw (L:List (Int×List aj)):List (Int×List Int):=L.zipIdx.foldl (fun ml p=>p.1.2.foldl (dD p.2) ml) []
def jz (L:List (Int×List aj)):Int :=
 if (tV L).any (fun p=>decide (p.2≠0)) then 24
 else if (yw L).any (fun p=>decide ((p.2.length:Int)≠2)) then 25
 else if ((fZ (cj (yw L))).length:Int)≠L.length then 25 else 0
def l9 (tl:List Cl)(c:Cl):List (Int×List aj):=c.sides.map fun x=>(x.sign,ax tl x)
theorem wz (tl:List Cl)(c:Cl):cd tl c=jz (l9 tl c):=by
 have h1:e9 tl c.sides=tV (l9 tl c):=by
  unfold e9 tV l9;rw[List.foldl_map];rfl
 have h2:dA tl c.sides=yw (l9 tl c):=by
  unfold dA yw l9;rw[List.zipIdx_map,List.foldl_map];rfl
 have h3:(l9 tl c).length=c.sides.length:=by simp[l9]
 unfold cd jz;rw[h1,h2,h3]
def wP (φ:Int→Int)(r:aj):aj:=⟨φ r.cell,r.sign⟩
def rB (φ:Int→Int)(L:List (Int×List aj)):List (Int×List aj):=L.map fun p=>(p.1,p.2.map (wP φ))
def uj (L:List (Int×List aj)):List Int:=L.flatMap fun p=>p.2.map aj.cell
def jh {α:Type}(φ:Int→Int)(zl:List (Int×α)):List (Int×α):=zl.map fun p=>(φ p.1,p.2)
section
variable {φ:Int→Int}{K:Int→Prop}(hφ:∀ a b,K a→K b→φ a=φ b→a=b)
include hφ
theorem x2 {zl:List (Int×Int)}{k:Int}(x:Int)(hz:∀ p∈zl,K p.1)(hk:K k):e6 (jh φ zl) (φ k) x=jh φ (e6 zl k x):=by
 induction zl with
 | nil=>rfl
 | cons p r ih =>
  obtain ⟨a,z⟩:=p;have ha:=hz (a,z) (by simp);simp only[jh,zf9,e6] at ih ⊢;by_cases h:k=a
  ·subst h; simp
  ·rw[zf5 h,zf5 fun e=>h (hφ k a hk ha e)];simp only[zf9];rw[ih fun p hp=>hz p (by simp[hp])]
theorem x6 {zl:List (Int×List Int)}{k:Int}(x:Int)(hz:∀ p∈zl,K p.1)(hk:K k):em (jh φ zl) (φ k) x=jh φ (em zl k x):=by
 induction zl with
 | nil=>rfl
 | cons p r ih =>
  obtain ⟨a,z⟩:=p;have ha:=hz (a,z) (by simp);simp only[jh,zf9,em] at ih ⊢;by_cases h:k=a
  ·subst h; simp
  ·rw[zf5 h,zf5 fun e=>h (hφ k a hk ha e)];simp only[zf9];rw[ih fun p hp=>hz p (by simp[hp])]
omit hφ in
theorem x5 {zl:List (Int×Int)}{k x:Int}(hz:∀ p∈zl,K p.1)(hk:K k):∀ p∈e6 zl k x,K p.1:=by
 induction zl with
 | nil=>intro p hp; simp[e6] at hp; subst hp; exact hk
 | cons q r ih =>
  obtain ⟨a,z⟩:=q;have ha:=hz (a,z) (by simp);intro p hp;simp only[e6] at hp;split at hp
  ·rcases ze6.1 hp with rfl | hp
   ·exact ha
   ·exact hz p (by simp[hp])
  ·rcases ze6.1 hp with rfl | hp
   ·exact ha
   ·exact ih (fun p hp=>hz p (by simp[hp])) p hp
omit hφ in
theorem x7 {zl:List (Int×List Int)}{k x:Int}(hz:∀ p∈zl,K p.1)(hk:K k):∀ p∈em zl k x,K p.1:=by
 induction zl with
 | nil=>intro p hp; simp[em] at hp; subst hp; exact hk
 | cons q r ih =>
  obtain ⟨a,z⟩:=q;have ha:=hz (a,z) (by simp);intro p hp;simp only[em] at hp;split at hp
  ·rcases ze6.1 hp with rfl | hp
   ·exact ha
   ·exact hz p (by simp[hp])
  ·rcases ze6.1 hp with rfl | hp
   ·exact ha
   ·exact ih (fun p hp=>hz p (by simp[hp])) p hp
theorem oE (t:Int):∀ (l:List aj) (zl:List (Int×Int)),(∀ r∈l,K r.cell)→(∀ p∈zl,K p.1) →
  (l.map (wP φ)).foldl (fun zl r=>e6 zl r.cell (t * r.sign)) (jh φ zl)=jh φ (l.foldl (fun zl r=>e6 zl r.cell (t * r.sign)) zl)∧∀ p∈l.foldl (fun zl r=>e6 zl r.cell (t * r.sign)) zl,K p.1
 | [],zl,_,hz=>⟨rfl,hz⟩
 | r::l,zl,hl,hz=>by
  have hr:=hl r (by simp);have:=oE t l (e6 zl r.cell (t * r.sign)) (fun q hq=>hl q (by simp[hq])) (x5 hz hr);simp only[zf9,zi3];rw[show (wP φ r).cell=φ r.cell from rfl,show (wP φ r).sign=r.sign from rfl,x2 hφ _ hz hr];exact this
theorem rV (t:Int):∀ (l:List aj) (zl:List (Int×List Int)),(∀ r∈l,K r.cell)→(∀ p∈zl,K p.1) →
  (l.map (wP φ)).foldl (dD t) (jh φ zl)=jh φ (l.foldl (dD t) zl)∧∀ p∈l.foldl (dD t) zl,K p.1
 | [],zl,_,hz=>⟨rfl,hz⟩
 | r::l,zl,hl,hz=>by
  have hr:=hl r (by simp);have:=rV t l (em zl r.cell t) (fun q hq=>hl q (by simp[hq])) (x7 hz hr);simp only[zf9,zi3];rw[show dD t (jh φ zl) (wP φ r)=jh φ (em zl r.cell t) from x6 hφ _ hz hr];exact this
theorem rH:∀ (L:List (Int×List aj)) (zl:List (Int×Int)),(∀ k∈uj L,K k)→(∀ p∈zl,K p.1) →
  (rB φ L).foldl (fun zl p=>p.2.foldl (fun zl r=>e6 zl r.cell (p.1 * r.sign)) zl) (jh φ zl)=jh φ (L.foldl (fun zl p=>p.2.foldl (fun zl r=>e6 zl r.cell (p.1 * r.sign)) zl) zl)
 | [],_,_,_=>rfl
 | p::L,zl,hl,hz=>by
  obtain ⟨h1,h2⟩:=oE hφ p.1 p.2 zl (fun r hr=>hl _ (List.mem_flatMap.2 ⟨p,by simp,ze7.2 ⟨r,hr,rfl⟩⟩)) hz;simp only[rB,zf9,zi3] at h1 ⊢;rw[h1];exact rH L _ (fun k hk=>hl k (by simp only[uj,zh1,ze8]; exact .inr hk)) h2
theorem uO:∀ (L:List (Int×List aj)) (i:Nat) (zl:List (Int×List Int)),(∀ k∈uj L,K k)→(∀ p∈zl,K p.1) →
  ((rB φ L).zipIdx i).foldl (fun ml p=>p.1.2.foldl (dD p.2) ml) (jh φ zl)=jh φ ((L.zipIdx i).foldl (fun ml p=>p.1.2.foldl (dD p.2) ml) zl)
 | [],_,_,_,_=>rfl
 | p::L,i,zl,hl,hz=>by
  obtain ⟨h1,h2⟩:=rV hφ i p.2 zl (fun r hr=>hl _ (List.mem_flatMap.2 ⟨p,by simp,ze7.2 ⟨r,hr,rfl⟩⟩)) hz;simp only[rB,zf9,List.zipIdx_cons,zi3] at h1 ⊢;rw[h1];exact uO L (i+1) _ (fun k hk=>hl k (by simp only[uj,zh1,ze8]; exact .inr hk)) h2
end
theorem vq {α:Type}(φ:Int→Int)(zl:List (Int×α))(q:α→Bool):(jh φ zl).any (fun p=>q p.2)=zl.any (fun p=>q p.2):=by
 simp only[jh,List.any_map];rfl
theorem xE (φ:Int→Int)(ml:List (Int×List Int)):cj (jh φ ml)=cj ml:=by
 simp only[cj,jh,List.foldl_map];rfl
theorem rq {φ:Int→Int}{L:List (Int×List aj)}(hφ:∀ a∈uj L,∀ b∈uj L,φ a=φ b→a=b):jz (rB φ L)=jz L:=by
 have h1:tV (rB φ L)=jh φ (tV L):=rH (K:=fun k=>k∈uj L) (fun a b ha hb=>hφ a ha b hb) L [] (fun _ h=>h) (by simp);have h2:yw (rB φ L)=jh φ (yw L):=uO (K:=fun k=>k∈uj L) (fun a b ha hb=>hφ a ha b hb) L 0 [] (fun _ h=>h) (by simp);unfold jz;rw[h1,h2,vq φ _ fun z=>decide (z≠0),vq φ _ fun l:List Int=>decide ((l.length:Int)≠2),xE];have h3:(rB φ L).length=L.length:=by simp[rB]
 rw[h3]
def code (k q:Nat):Int:=if q<k then ((q * 16+k:Nat):Int) else ((k * 16+(q+1):Nat):Int)
def zX (n:Nat):List (Int×List aj):=(List.range n).reverse.map fun k:Nat=>(bV k,(List.range (n - 1)).reverse.map fun q:Nat=>⟨code k q,bV q⟩)
theorem zj:∀ n,n<10→2<n→jz (zX n)=0:=by decide +kernel
theorem fl (b:Nat)(a:Int)(l:List Int):dv b (a::l)=(if b % 2=1 then [a] else [])++dv (b / 2) l:=by
 unfold dv;have hz:∀ (l:List Int) (i:Nat),((l.zipIdx (i+1)).filter fun p=>b / 2 ^ p.2 % 2 == 1).map (·.1)=((l.zipIdx i).filter fun p=>b / 2 / 2 ^ p.2 % 2 == 1).map (·.1):=by
  intro l;induction l with
  | nil=>intro i; rfl
  | cons x r ih =>
   intro i;have hp:b / 2 ^ (i+1)=b / 2 / 2 ^ i:=by rw[Nat.pow_succ,Nat.mul_comm,Nat.div_div_eq_div_mul]
   simp only[List.zipIdx_cons,zi2,hp];have:=ih (i+1);split
   ·simp only[zf9,this]
   ·exact this
 simp only[List.zipIdx_cons,zi2,Nat.pow_zero,Nat.div_one];by_cases h:b % 2=1
 ·simp only[h,if_true,beq_self_eq_true,zf9];rw[hz l 0];rfl
 ·have h2:(b % 2 == 1)=false:=by simpa using h
  simp only[h,h2,if_false,Bool.false_eq_true];rw[hz l 0];rfl
theorem vN (l:List Int):∀ b,(dv b l).Sublist l:=by
 induction l with
 | nil=>intro b; exact .slnil
 | cons a r ih =>
  intro b;rw[fl];split
  ·exact (ih _).cons_cons a
  ·exact (ih _).cons a
theorem xr (l:List Int):∀ b,b≠0→b<2 ^ l.length→dv b l≠[]:=by
 induction l with
 | nil=>intro b h0 h; simp at h; exact absurd h h0
 | cons a r ih =>
  intro b h0 h;rw[fl];split
  ·simp
  ·rename_i h1;rw[ze4,Nat.pow_succ] at h;simpa using ih (b / 2) oM oM
theorem qH {x l:List Int}(h:x.Sublist l):∃ b,b<2 ^ l.length∧dv b l=x:=by
 induction h with
 | slnil=>exact⟨0,by simp,rfl⟩
 | cons a _ ih =>
  obtain ⟨b,hb,e⟩:=ih;refine⟨2 * b,by rw[ze4,Nat.pow_succ]; omega,?_⟩;rw[fl,zf5 oM,show 2 * b / 2=b by omega,e];rfl
 | cons_cons a _ ih =>
  obtain ⟨b,hb,e⟩:=ih;refine⟨2 * b+1,by rw[ze4,Nat.pow_succ]; omega,?_⟩;rw[fl,zf6 oM,show (2 * b+1) / 2=b by omega,e];rfl
theorem gG (t x:List Int):x∈bg t↔x.Sublist t∧x≠[]:=by
 unfold bg;constructor
 ·intro h;obtain ⟨i,hi,rfl⟩:=ze7.1 h;have:=List.mem_range.1 hi;exact⟨vN _ _,xr _ _ oM oM⟩
 ·rintro ⟨h,hne⟩;obtain ⟨b,hb,rfl⟩:=qH h;have h0:b≠0:=fun e=>by
   subst e;apply hne;have:∀ l:List Int,dv 0 l=[]:=by
    intro l;induction l with
    | nil=>rfl
    | cons a r ih=>rw[fl]; simpa using ih
   exact this t
  exact ze7.2 ⟨b - 1,List.mem_range.2 oM,by rw[show b - 1+1=b by omega]⟩
structure e7 (all:List (List Int)):Prop where
 strict:dz all
 form:∀ s∈all,s≠[]∧cG s∧s.length≤9
 faces:∀ s∈all,2≤s.length→∀ k,k<s.length→s.eraseIdx k∈all
theorem e7.nil:e7 []:=⟨List.Pairwise.nil,by simp,by simp⟩
theorem e7.add {all:List (List Int)}{t:List Int}(h:e7 all)(ht:cG t)(hl:t.length≤9):e7 (dg all t):=by
 refine⟨im all t,fun s hs=>?_,fun s hs h2 k hk=>?_⟩
 ·rcases (fJ all t s).1 hs with h1 | h1
  ·exact h.form s h1
  ·obtain ⟨h2,h3⟩:=(gG t s).1 h1;exact⟨h3,ht.sublist h2,zk1 h2.length_le hl⟩
 ·refine (fJ all t _).2 ?_
  rcases (fJ all t s).1 hs with h1 | h1
  ·exact .inl (h.faces s h1 h2 k hk)
  ·refine .inr ((gG t _).2 ⟨(List.eraseIdx_sublist s k).trans ((gG t s).1 h1).1,fun e=>?_⟩);have:=zd7 List.length e;rw[List.length_eraseIdx] at this;simp[hk] at this;omega
theorem eX:∀ (ls acc:List (List Int)) {all:List (List Int)},aJ acc ls=some all→e7 acc→acc.length≤4000→e7 all∧all.length≤4000
 | [],acc,all,h,hg,hl=>by cases h; exact⟨hg,hl⟩
 | s::r,acc,all,h,hg,hl=>by
  unfold aJ at h;split at h
  ·exact eX r acc h hg hl
  ·rename_i hb;split at h
   ·cases h
   ·rename_i hlen;refine eX r _ h (hg.add (iH s) ?_) oM;cases hc:bG s with
    | nil=>simp
    | cons a q =>
     rw[hc] at hb;simp[ge] at hb;simp;omega
section
variable {all:List (List Int)}(hg:e7 all)
include hg
theorem e7.get_lb {t:List Int}(ht:t∈all):all[lbL all t]?=some t:=by
 obtain ⟨h1,h2⟩:=k5 t hg.strict.srt;have hs:dz (all.take (lbL all t)++all.drop (lbL all t)):=by rw[zi5]; exact hg.strict
 have hd:=(List.pairwise_append.1 hs).2.1;have hm:t∈all.drop (lbL all t):=by
  have:t∈all.take (lbL all t)++all.drop (lbL all t):=by rw[zi5]; exact ht
  rcases ze8.1 this with h | h
  ·have:=h1 t h;rw[bD] at this;exact absurd this dC
  ·exact h
 have e:all[lbL all t]?=(all.drop (lbL all t))[0]?:=by simp
 rw[e];cases hc:all.drop (lbL all t) with
 | nil=>rw[hc] at hm; simp at hm
 | cons y r =>
  rw[hc] at hm hd h2
  rcases ze6.1 hm with rfl | hm
  ·rfl
  ·exact absurd ((zj5.1 hd).1 t hm) (h2 y (by simp))
theorem e7.lb_get {k:Nat}(hk:k<all.length):lbL all all[k]=k:=by
 have h1:=hg.get_lb (gM hk);obtain ⟨h2,h3⟩:=zf1.1 h1;have hself:¬ ah all[k] all[k]<0:=by rw[bD]; decide
 rcases Nat.lt_trichotomy (lbL all all[k]) k with h | h | h
 ·have:=zc5.1 hg.strict _ _ h2 hk h;rw[h3] at this;exact absurd this hself
 ·exact h
 ·have:=zc5.1 hg.strict _ _ hk h2 h;rw[h3] at this;exact absurd this hself
end
def ixC (all:List (List Int))(t:List Int):Int:=((lbL all t:Nat):Int)+1
theorem e7.inj {all:List (List Int)}(hg:e7 all){t u:List Int}(ht:t∈all)(hu:u∈all)(h:ixC all t=ixC all u):t=u:=by
 have h1:=hg.get_lb ht;have h2:=hg.get_lb hu;have:lbL all t=lbL all u:=by unfold ixC at h; omega
 rw[this,h2] at h1;injection h1 with h1
 exact h1.symm
theorem e7.lt {all:List (List Int)}(hg:e7 all){t u:List Int}(ht:t∈all)(hu:u∈all)(h:ah t u<0):ixC all t<ixC all u:=by
 obtain ⟨i1,e1⟩:=zf1.1 (hg.get_lb ht);obtain ⟨i2,e2⟩:=zf1.1 (hg.get_lb hu);unfold ixC
 rcases Nat.lt_trichotomy (lbL all t) (lbL all u) with h1 | h1 | h1
 ·omega
 ·have:t=u:=hg.inj ht hu (by unfold ixC; omega);subst this;rw[bD] at h;exact absurd h dC
 ·have:=zc5.1 hg.strict _ _ i2 i1 h1;rw[e1,e2] at this;exact absurd h (ff this)
def dU (all:List (List Int))(s:List Int):List aj:=if s.length≤1 then [] else (List.range s.length).reverse.map fun k:Nat=>⟨ixC all (s.eraseIdx k),bV k⟩
def fy (all:List (List Int))(s:List Int):Cl:=⟨ixC all s,(s.length:Int) - 1,dU all s⟩
theorem si {s:List Int}(hs:cG s):∀ {i j:Nat},i<j→j<s.length→ah (s.eraseIdx j) (s.eraseIdx i)<0:=by
 induction s with
 | nil=>intro i j _ h; simp at h
 | cons a r ih =>
  intro i j hij hj;obtain ⟨h1,h2⟩:=zj5.1 hs;cases j with
  | zero=>omega
  | succ j =>
   simp only[ze4] at hj;cases i with
   | zero =>
    cases r with
    | nil=>simp at hj
    | cons b q =>
     have hab:=h1 b (by simp);have hl:((a::b::q).eraseIdx (j+1)).length=((a::b::q).eraseIdx 0).length:=by
      simp[List.length_eraseIdx] at hj ⊢;omega
     rw[eC hl];simp only[List.eraseIdx_cons_succ,List.eraseIdx_cons_zero,eP];have:jT a b = -1:=by unfold jT; rw[zf6 hab]
     simp[this]
   | succ i =>
    have h3:=ih h2 (i:=i) (j:=j) oM oM;have hl:(r.eraseIdx j).length=(r.eraseIdx i).length:=by
     rw[List.length_eraseIdx,List.length_eraseIdx,zf6 oM,zf6 oM]
    have hl2:((a::r).eraseIdx (j+1)).length=((a::r).eraseIdx (i+1)).length:=by simp[hl]
    rw[eC hl] at h3;rw[eC hl2];simp only[List.eraseIdx_cons_succ,eP];have:jT a a=0:=by unfold jT; rw[zf5 oM,zf5 oM]
    simpa [this] using h3
theorem nG {A:List Cl}(h:(A.map Cl.id).Nodup){x:Cl}(hx:x∈A):a6 A x.id=some x:=by
 induction A with
 | nil=>simp at hx
 | cons c t ih =>
  simp only[zf9,zj4] at h;unfold a6
  rcases ze6.1 hx with rfl | hx
  ·simp
  ·have hne:¬ c.id=x.id:=fun e=>h.1 (by rw[e]; exact ze7.2 ⟨x,hx,I⟩);rw[List.find?_cons];simp only[hne,decide_false];exact ih h.2 hx
theorem ts (c:Cl):cg (cg c)=cg c:=by
 unfold cg;rw[← df (dx c.sides) (aH.refl _)]
theorem eK (l:List Cl):aa (aa l)=aa l:=by
 have h1:sortBy Cl.id (aa l)=aa l:=(df (fo l) (aH.refl _)).symm;show (sortBy Cl.id (aa l)).map cg=aa l;rw[h1];unfold aa;rw[zi1];exact zc4 fun c _=>ts c
theorem w4 {α:Type}{key:α→Int}{l:List α}(h:l.Pairwise fun a b=>key b<key a):sortBy key l=l.reverse:=by
 refine (df ?_ ⟨by simp,fun c=>?_⟩).symm
 ·unfold Srt;rw[List.pairwise_reverse];exact h.imp fun h=>by omega
 ·rw[List.filter_reverse];have:∀ m:List α,m.Pairwise (fun a b=>key b<key a)→(∀ a∈m,(key a == c)=true)→m.reverse=m:=by
   intro m hm hc
   match m,hm,hc with
   | [],_,_=>rfl
   | [_],_,_=>rfl
   | a::b::r,hm,hc =>
    have h1:=(zj5.1 hm).1 b (by simp);have h2:=hc a (by simp);have h3:=hc b (by simp);simp at h2 h3;omega
  exact this _ (h.sublist List.filter_sublist) fun a ha=>(zg9.1 ha).2
section
variable {all:List (List Int)}(hg:e7 all)
include hg
theorem e7.face {s:List Int}(hs:s∈all){k:Nat}(hk:k<s.length)(h2:2≤s.length):s.eraseIdx k∈all∧(s.eraseIdx k).length=s.length - 1 :=
 ⟨hg.faces s hs h2 k hk,by rw[List.length_eraseIdx,zf6 hk]⟩
theorem e7.sides {s:List Int}(hs:s∈all):sortBy aj.cell (aM all s s.length)=dU all s:=by
 have hne:=(hg.form s hs).1;have hst:=(hg.form s hs).2.1;by_cases h1:s.length≤1
 ·have h0:s.length=1:=by have:=List.length_pos_iff.2 hne; omega
  unfold dU;rw[zf6 h1,h0];have:dT all s 0=[]:=by
   unfold dT;have h3:(s.eraseIdx 0).length=0:=by rw[List.length_eraseIdx,zf6 oM]; omega
   rw[zf5 oM]
  simp[aM,List.range_succ,this,sortBy]
 ·have h2:2≤s.length:=oM;have e:aM all s s.length=(List.range s.length).map fun k:Nat=>(⟨ixC all (s.eraseIdx k),bV k⟩:aj):=by
   unfold aM;rw[List.flatMap_def];have:(List.range s.length).map (dT all s)=(List.range s.length).map fun k:Nat=>[(⟨ixC all (s.eraseIdx k),bV k⟩:aj)]:=zc4 fun k hk=>by
    have hk:=List.mem_range.1 hk;unfold dT;rw[(hg.face hs hk h2).2,zf6 oM];rfl
   rw[this];generalize List.range s.length=R;induction R with
   | nil=>rfl
   | cons x r ih=>simp only[zf9,List.flatten_cons,ih]; rfl
  unfold dU;rw[zf5 h1,e,List.map_reverse];refine w4 ?_;rw[zj6];refine List.Pairwise.imp_of_mem ?_ (List.pairwise_lt_range (n:=s.length));intro i j hi hj hij;have hi:=List.mem_range.1 hi;have hj:=List.mem_range.1 hj;exact hg.lt (hg.face hs hj h2).1 (hg.face hs hi h2).1 (si hst hij hj)
theorem e7.cells:aa (aV all)=all.map (fy all):=by
 rw[m3];apply List.ext_getElem?;intro k;simp only[zh5];by_cases hk:k<all.length
 ·rw[fN hk,gE hk];simp only[Option.map_some,zg3];unfold cg km fy;simp only[hg.sides (gM hk),ixC,hg.lb_get hk]
 ·rw[List.getElem?_eq_none (by rw[be]; omega),List.getElem?_eq_none oM];rfl
theorem e7.ids:((all.map (fy all)).map Cl.id).Pairwise (· < ·):=by
 rw[zi1,zj6];refine List.Pairwise.imp_of_mem ?_ hg.strict;intro a b ha hb h;exact hg.lt ha hb h
theorem e7.find {s:List Int}(hs:s∈all):a6 (all.map (fy all)) (ixC all s)=some (fy all s) :=
 nG (x:=fy all s) (hg.ids.imp fun h=>by omega) (ze7.2 ⟨s,hs,rfl⟩)
end
theorem vG (k:Nat):bV k=1∨bV k = -1:=by unfold bV; omega
theorem mX {all:List (List Int)}{s:List Int}(h:2≤s.length){i:Nat}(hi:i<s.length):(dU all s)[i]?=some ⟨ixC all (s.eraseIdx (s.length - 1 - i)),bV ((s.length - 1 - i:Nat):Int)⟩:=by
 unfold dU;rw[zf5 oM,zh5,List.getElem?_reverse (by simpa using hi)];simp only[zh9];rw[List.getElem?_range oM];rfl
theorem oc {all:List (List Int)}{s:List Int}:(dU all s).length=if s.length≤1 then 0 else s.length:=by
 unfold dU;split <;> simp
section
variable {all:List (List Int)}(hg:e7 all)
include hg
theorem e7.formOk {s:List Int}(hs:s∈all):bP (all.map (fy all)) (fy all s)=0:=by
 obtain ⟨hne,hst,h9⟩:=hg.form s hs;have hp:=List.length_pos_iff.2 hne;have hlen:(fy all s).sides.length=if s.length≤1 then 0 else s.length:=oc
 have hdim:(fy all s).dim=(s.length:Int) - 1:=rfl;have h1:eI (fy all s)=false:=by unfold eI; rw[hdim]; simp; omega
 have h2:aK (fy all s)=false:=by
  unfold aK;rw[hdim,hlen];split
  ·simp; omega
  ·simp; omega
 have h3:(List.range (fy all s).sides.length).any (gy (all.map (fy all)) (fy all s))=false:=by
  rw[zj7];intro i hi;have hi:=List.mem_range.1 hi;rw[hlen] at hi;split at hi
  ·omega
  ·rename_i hl;have h2:2≤s.length:=oM;have hgi:=mX (all:=all) h2 hi;have hf:=hg.face hs (k:=s.length - 1 - i) oM h2;unfold gy;rw[show (fy all s).sides[i]?=_ from hgi];show ¬ bM _ _ i ⟨ixC all (s.eraseIdx (s.length - 1 - i)),_⟩=true;unfold bM;dsimp only;rw[hg.find hf.1];have hd:(fy all (s.eraseIdx (s.length - 1 - i))).dim=(fy all s).dim - 1:=by
    show ((s.eraseIdx (s.length - 1 - i)).length:Int) - 1=(s.length:Int) - 1 - 1;rw[hf.2];omega
   simp only[Option.isSome_some,Bool.not_true,Bool.false_or,Option.getD_some,hd,ne_eq,not_true_eq_false,decide_false];by_cases hi0:i>0
   ·have hgp:=mX (all:=all) h2 (i:=i - 1) oM;rw[show (fy all s).sides[i - 1]?=_ from hgp];have hf2:=hg.face hs (k:=s.length - 1 - (i - 1)) oM h2;have:=hg.lt hf2.1 hf.1 (si hst oM oM);simp;omega
   ·simp[hi0]
 have h4:(fy all s).sides.any bB=false:=by
  rw[zj7];intro x hx;show ¬ bB x=true;have hx:x∈dU all s:=hx;unfold dU at hx;split at hx
  ·simp at hx
  ·obtain ⟨k,_,rfl⟩:=ze7.1 hx
   rcases vG k with h | h <;> simp[bB,h]
 have h5:(decide ((fy all s).dim=1)&&decide (lQ (fy all s).sides≠0))=false:=by
  by_cases hd:(fy all s).dim=1
  ·rw[hdim] at hd;have hl2:s.length=2:=oM;have:lQ (fy all s).sides=0:=by
    show lQ (dU all s)=0;unfold dU;rw[zf5 oM,hl2];simp[List.range_succ,lQ,bV]
   rw[this];simp
  ·simp[hd]
 unfold bP;rw[h1,h2,h3,h4,h5];rfl
end
theorem tF (s:List Int):∀ {k q:Nat},k≤q→(s.eraseIdx k).eraseIdx q=(s.eraseIdx (q+1)).eraseIdx k:=by
 induction s with
 | nil=>intro k q _; rfl
 | cons a r ih =>
  intro k q h;cases k with
  | zero=>simp
  | succ k =>
   cases q with
   | zero=>omega
   | succ q =>
    simp only[List.eraseIdx_cons_succ];rw[ih oM]
theorem mO {s:List Int}(hs:s.Nodup){a b i:Nat}(hab:a<b)(hb:b<s.length)(hi:i<s.length):s[i]∈(s.eraseIdx b).eraseIdx a↔i≠a∧i≠b:=by
 have hinj:∀ {j k:Nat} (hj:j<s.length) (hk:k<s.length),s[j]=s[k]→j=k:=fun {j k} hj hk e=>by
  rcases Nat.lt_trichotomy j k with h | h | h
  ·exact absurd e (zc5.1 hs j k hj hk h)
  ·exact h
  ·exact absurd e.symm (zc5.1 hs k j hk hj h)
 rw[List.mem_eraseIdx_iff_getElem];constructor
 ·rintro ⟨j,hj1,hj2,e⟩;have hj1':=hj1;rw[List.length_eraseIdx,zf6 hb] at hj1';rw[List.getElem_eraseIdx] at e;split at e
  ·have:=hinj _ _ e;omega
  ·have:=hinj _ _ e;omega
 ·rintro ⟨h1,h2⟩
  rcases Nat.lt_or_ge i b with h | h
  ·refine⟨i,by rw[List.length_eraseIdx,zf6 hb]; omega,h1,?_⟩;rw[List.getElem_eraseIdx,dif_pos h]
  ·refine⟨i - 1,by rw[List.length_eraseIdx,zf6 hb]; omega,oM,?_⟩;rw[List.getElem_eraseIdx,dif_neg oM];congr 1;omega
theorem tG {s:List Int}(hs:s.Nodup){a b c d:Nat}(hab:a<b)(hb:b<s.length)(hcd:c<d)(hd:d<s.length)(h:(s.eraseIdx b).eraseIdx a=(s.eraseIdx d).eraseIdx c):a=c∧b=d:=by
 have key:∀ i,i<s.length→((i≠a∧i≠b)↔(i≠c∧i≠d)):=fun i hi=>by
  rw[← mO hs hab hb hi,← mO hs hcd hd hi,h]
 have ha:=key a oM;have hb':=key b hb;have hc:=key c oM;have hd':=key d hd;omega
def Aq (all:List (List Int))(s:List Int)(c:Int):Int:=ixC all ((s.eraseIdx (c % 16).toNat).eraseIdx (c / 16).toNat)
theorem vf {n k q:Nat}(hk:k<n)(hq:q<n - 1):∃ a b:Nat,a<b∧b<n∧code k q=((a * 16+b:Nat):Int)∧((q<k∧a=q∧b=k)∨(k≤q∧a=k∧b=q+1)):=by
 unfold code;by_cases h:q<k
 ·rw[zf6 h]; exact⟨q,k,h,hk,I,.inl ⟨h,I,I⟩⟩
 ·rw[zf5 h]; exact⟨k,q+1,oM,oM,I,.inr ⟨oM,I,I⟩⟩
theorem gB {a b:Nat}(h:b<16):((((a * 16+b:Nat):Int) % 16).toNat=b)∧((((a * 16+b:Nat):Int) / 16).toNat=a):=oM
section
variable {all:List (List Int)}(hg:e7 all)
include hg
theorem e7.aroundOk {s:List Int}(hs:s∈all)(h3:2<s.length):cd (all.map (fy all)) (fy all s)=0:=by
 obtain ⟨hne,hst,h9⟩:=hg.form s hs;have hnd:s.Nodup:=hst.imp fun h=>by omega
 have hE:∀ a b,a<b→b<s.length→(s.eraseIdx b).eraseIdx a∈all:=fun a b hab hb=>by
  have h1:=hg.face hs (k:=b) hb oM;exact (hg.face h1.1 (k:=a) (by rw[h1.2]; omega) (by rw[h1.2]; omega)).1
 have hlook:l9 (all.map (fy all)) (fy all s)=rB (Aq all s) (zX s.length):=by
  unfold l9 rB zX;show (dU all s).map _=_;unfold dU;rw[zf5 oM,zi1,zi1];refine zc4 fun k hk=>?_;have hk:k<s.length:=by simpa using hk
  have hf:=hg.face hs hk oM;simp only[Function.comp_def];congr 1;unfold ax;rw[hg.find hf.1];show dU all (s.eraseIdx k)=_;unfold dU;rw[hf.2,zf5 oM,zi1];refine zc4 fun q hq=>?_;have hq:q<s.length - 1:=by simpa using hq
  obtain ⟨a,b,hab,hb,hc,hcase⟩:=vf hk hq;simp only[Function.comp_def,wP];congr 1;unfold Aq;rw[hc,(gB (a:=a) (b:=b) oM).1,(gB (a:=a) (b:=b) oM).2]
  rcases hcase with ⟨_,rfl,rfl⟩ | ⟨h,rfl,rfl⟩
  ·rfl
  ·rw[tF s h]
 rw[wz,hlook,rq,zj _ oM h3];have hkey:∀ x∈uj (zX s.length),∃ a b:Nat,a<b∧b<s.length∧x=((a * 16+b:Nat):Int):=by
  intro x hx;obtain ⟨p,hp,hx⟩:=List.mem_flatMap.1 hx;obtain ⟨k,hk,rfl⟩:=ze7.1 hp;obtain ⟨r,hr,rfl⟩:=ze7.1 hx;obtain ⟨q,hq,rfl⟩:=ze7.1 hr;obtain ⟨a,b,hab,hb,hc,_⟩:=vf (n:=s.length) (k:=k) (q:=q) (by simpa using hk) (by simpa using hq);exact⟨a,b,hab,hb,hc⟩
 intro x hx y hy h;obtain ⟨a,b,hab,hb,rfl⟩:=hkey x hx;obtain ⟨c,d,hcd,hd,rfl⟩:=hkey y hy;unfold Aq at h;rw[(gB (a:=a) (b:=b) oM).1,(gB (a:=a) (b:=b) oM).2,(gB (a:=c) (b:=d) oM).1,(gB (a:=c) (b:=d) oM).2] at h;obtain ⟨rfl,rfl⟩:=tG hnd hab hb hcd hd (hg.inj (hE a b hab hb) (hE c d hcd hd) h);rfl
end
theorem pd {tl:List Cl}:∀ {l:List Cl} {n:Int},(∀ x∈l,n<x.id)→l.Pairwise (fun a b=>a.id<b.id)→(∀ x∈l,bP tl x=0)→eZ tl l n=none
 | [],_,_,_,_=>rfl
 | x::r,n,h1,h2,h3=>by
  have hx:=h1 x (by simp);obtain ⟨h4,h5⟩:=zj5.1 h2;unfold eZ;rw[zf5 oM,zf5 (by rw[h3 x (by simp)]; simp)];exact pd h4 h5 fun y hy=>h3 y (by simp[hy])
theorem o9 {tl:List Cl}:∀ {l:List Cl},(∀ x∈l,x.dim>1→cd tl x=0)→kF tl l=none
 | [],_=>rfl
 | x::r,h=>by
  unfold kF;rw[zf5 fun ⟨h1,h2⟩=>h2 (h x (by simp) h1)];exact o9 fun y hy=>h y (by simp[hy])
theorem xR {l:List Cl}(h0:l.length≤4000)(h1:∀ x∈aa l,0<x.id)(h2:(aa l).Pairwise fun a b=>a.id<b.id)(h3:∀ x∈aa l,bP (aa l) x=0)(h4:∀ x∈aa l,x.dim>1→cd (aa l) x=0):aU l=(0,0):=by
 unfold aU;rw[zf5 oM,a8 h2,pd h1 h2 h3,o9 h4];rfl
theorem lr (ls:List (List Int)):aU (bA ls)=(0,0):=by
 unfold bA;cases h:aJ [] ls with
 | none=>rfl
 | some all =>
  obtain ⟨hg,hl⟩:=eX ls [] h e7.nil (by simp);dsimp only;have hc:aa (aa (aV all))=all.map (fy all):=by rw[eK,hg.cells]
  have hi:=hg.ids;rw[zj6] at hi;refine xR (by rw[hg.cells]; simpa using hl) ?_ ?_ ?_ ?_ <;> rw[hc]
  ·intro x hx;obtain ⟨s,_,rfl⟩:=ze7.1 hx;show 0<ixC all s;unfold ixC;omega
  ·exact hi
  ·intro x hx;obtain ⟨s,hs,rfl⟩:=ze7.1 hx;exact hg.formOk hs
  ·intro x hx hd;obtain ⟨s,hs,rfl⟩:=ze7.1 hx;refine hg.aroundOk hs ?_;have:(s.length:Int) - 1>1:=hd;omega
open Go.ChangeShapes Go.WideShapes Go.ChangeAt Go.RowKit
set_option maxRecDepth 100000
section
variable {H:Type}{enc:TypeId×Value→H}{W:World}{base:Nat}{spare:Nat→Bool}{hd:Bool}
end
inductive Cn (E:Int→Int→Prop):Int→Int→Prop
 | refl (a:Int):Cn E a a
 | step {a b c:Int} (h:E a b∨E b a) (r:Cn E b c):Cn E a c
theorem Cn.trans {E:Int→Int→Prop}{a b c:Int}(h:Cn E a b)(k:Cn E b c):Cn E a c:=by
 induction h with
 | refl _=>exact k
 | step h _ ih=>exact .step h (ih k)
theorem Cn.one {E:Int→Int→Prop}{a b:Int}(h:E a b):Cn E a b:=.step (.inl h) (.refl b)
theorem Cn.symm {E:Int→Int→Prop}{a b:Int}(h:Cn E a b):Cn E b a:=by
 induction h with
 | refl _=>exact .refl _
 | step h _ ih=>exact ih.trans (.step h.symm (.refl _))
theorem Cn.mono {E E':Int→Int→Prop}(h:∀ a b,E a b→Cn E' a b){a b:Int}(hc:Cn E a b):Cn E' a b:=by
 induction hc with
 | refl _=>exact .refl _
 | step e _ ih =>
  rcases e with e | e
  ·exact (h _ _ e).trans ih
  ·exact (h _ _ e).symm.trans ih
theorem Cn.iso {E:Int→Int→Prop}{a b:Int}(h:∀ b,¬ E a b∧¬ E b a)(hc:Cn E a b):a=b:=by
 cases hc with
 | refl _=>rfl
 | step e _ =>
  rcases e with e | e
  ·exact absurd e (h _).1
  ·exact absurd e (h _).2
theorem Cn.add {E E':Int→Int→Prop}{x y:Int}(h:∀ a b,E' a b↔E a b∨(a=x∧b=y))(a b:Int):Cn E' a b↔Cn E a b∨(Cn E a x∧Cn E y b)∨(Cn E a y∧Cn E x b):=by
 have hxy:Cn E' x y:=.one ((h x y).2 (.inr ⟨rfl,rfl⟩));have hm:∀ {a b:Int},Cn E a b→Cn E' a b:=fun hc=>hc.mono fun a b e=>.one ((h a b).2 (.inl e));constructor
 ·intro hc;induction hc with
  | refl _=>exact .inl (.refl _)
  | step e _ ih =>
   have key:∀ {p q r:Int},Cn E p q→(Cn E q r∨(Cn E q x∧Cn E y r)∨(Cn E q y∧Cn E x r))→Cn E p r∨(Cn E p x∧Cn E y r)∨(Cn E p y∧Cn E x r):=by
    rintro p q r h1 (h2 | ⟨h2,h3⟩ | ⟨h2,h3⟩)
    ·exact .inl (h1.trans h2)
    ·exact .inr (.inl ⟨h1.trans h2,h3⟩)
    ·exact .inr (.inr ⟨h1.trans h2,h3⟩)
   rcases e with e | e
   ·rcases (h _ _).1 e with e | ⟨rfl,rfl⟩
    ·exact key (.one e) ih
    ·rcases ih with h2 | ⟨_,h3⟩ | ⟨_,h3⟩
     ·exact .inr (.inl ⟨.refl _,h2⟩)
     ·exact .inr (.inl ⟨.refl _,h3⟩)
     ·exact .inl h3
   ·rcases (h _ _).1 e with e | ⟨rfl,rfl⟩
    ·exact key (Cn.one e).symm ih
    ·rcases ih with h2 | ⟨_,h3⟩ | ⟨_,h3⟩
     ·exact .inr (.inr ⟨.refl _,h2⟩)
     ·exact .inl h3
     ·exact .inr (.inr ⟨.refl _,h3⟩)
 ·rintro (h1 | ⟨h1,h2⟩ | ⟨h1,h2⟩)
  ·exact hm h1
  ·exact (hm h1).trans (hxy.trans (hm h2))
  ·exact (hm h1).trans (hxy.symm.trans (hm h2))
def c4 (ml:List (Int×List Int))(a b:Int):Prop:=∃ p∈ml,p.2.head?=some a∧b∈p.2
def RZ (e:En)(z:Int×Int):Prop:=e.id=z.1∧e.sum=z.2
def RM (e:En)(p:Int×List Int):Prop:=e.id=p.1∧e.many=p.2.length∧p.2.head?=some (e.fst:Int)
theorem nN {x:Int}(h : -9223372036854775808≤x∧x<9223372036854775808):wr x=x:=zk3 _ oM
theorem yt {i:Nat}{c p:Int}:∀ {es:List En} {zl:List (Int×Int)},ar RZ es zl→(∀ e∈es,wr (e.sum+p)=e.sum+p)→wr (0+p)=p→ar RZ (i7 i c p es) (e6 zl c p)
 | [],[],_,_,hp=>⟨⟨rfl,hp⟩,trivial⟩
 | e::es,(a,z)::zl,h,hb,hp=>by
  obtain ⟨⟨h1,h2⟩,h3⟩:=h;have h1:e.id=a:=h1;have h2:e.sum=z:=h2;simp only[i7,e6];by_cases hc:e.id=c
  ·rw[zf6 hc,zf6 (by rw[← h1,hc])];exact⟨⟨h1,by show wr (e.sum+p)=z+p; rw[hb e (by simp),h2]⟩,h3⟩
  ·rw[zf5 hc,zf5 (by rw[← h1]; exact fun e=>hc e.symm)];exact⟨⟨h1,h2⟩,yt h3 (fun x hx=>hb x (by simp[hx])) hp⟩
 | [],_::_,h,_,_=>h.elim
 | _::_,[],h,_,_=>h.elim
theorem yu {i:Nat}{c p:Int}:∀ {es:List En} {ml:List (Int×List Int)},ar RM es ml→(∀ e∈es,wr (e.many+1)=e.many+1)→ar RM (i7 i c p es) (em ml c i) ∧
  ∀ a b,c4 (em ml c i) a b↔c4 ml a b∨(a=gx i c es∧b=i)
 | [],[],_,_=>by
  refine⟨⟨⟨rfl,by rfl,rfl⟩,trivial⟩,fun a b=>?_⟩;constructor
  ·rintro ⟨q,hq,h1,h2⟩;simp[em] at hq;subst hq;simp at h1 h2;exact .inr ⟨h1.symm,h2⟩
  ·rintro (⟨q,hq,_⟩ | ⟨rfl,rfl⟩)
   ·simp at hq
   ·exact⟨(c,[(i:Int)]),by simp[em],I,by simp⟩
 | e::es,(k,l)::ml,h,hb=>by
  obtain ⟨⟨h1,h2,h4⟩,h3⟩:=h;have h1:e.id=k:=h1;have h2:e.many=l.length:=h2;have h4:l.head?=some (e.fst:Int):=h4;simp only[i7,em,gx];by_cases hc:e.id=c
  ·rw[zf6 hc,zf6 (by rw[← h1,hc]),zf6 hc];have hh:(l++[(i:Int)]).head?=some (e.fst:Int):=by
    cases l with
    | nil=>simp at h4
    | cons x r=>simpa using h4
   refine⟨⟨⟨h1,by show wr (e.many+1)=_; rw[hb e (by simp),h2]; simp,hh⟩,h3⟩,fun a b=>?_⟩;constructor
   ·rintro ⟨q,hq,h5,h6⟩
    rcases ze6.1 hq with rfl | hq
    ·dsimp only at h5 h6;rw[hh] at h5
     rcases ze8.1 h6 with h6 | h6
     ·exact .inl ⟨(k,l),by simp,by rw[h4,h5],h6⟩
     ·simp at h6;injection h5 with h5
      exact .inr ⟨h5.symm,h6⟩
    ·exact .inl ⟨q,by simp[hq],h5,h6⟩
   ·rintro (⟨q,hq,h5,h6⟩ | ⟨rfl,rfl⟩)
    ·rcases ze6.1 hq with rfl | hq
     ·exact⟨(k,l++[(i:Int)]),by simp,by rw[hh,← h4,h5],by simp[h6]⟩
     ·exact⟨q,by simp[hq],h5,h6⟩
    ·exact⟨(k,l++[(i:Int)]),by simp,hh,by simp⟩
  ·rw[zf5 hc,zf5 (by rw[← h1]; exact fun e=>hc e.symm),zf5 hc];obtain ⟨i1,i2⟩:=yu (i:=i) (c:=c) (p:=p) h3 fun x hx=>hb x (by simp[hx]);refine⟨⟨⟨h1,h2,h4⟩,i1⟩,fun a b=>?_⟩;have e1:∀ L,c4 ((k,l)::L) a b↔(l.head?=some a∧b∈l)∨c4 L a b:=fun L=>by
    unfold c4;simp
   rw[e1,e1,i2,or_assoc]
 | [],_::_,h,_=>h.elim
 | _::_,[],h,_=>h.elim
structure Sd (n t k:Nat)(es:List En)(part:List Int)(zl:List (Int×Int))(ml:List (Int×List Int)):Prop where
 z:ar RZ es zl
 m:ar RM es ml
 bz:∀ e∈es,-(t:Int)≤e.sum∧e.sum≤t∧0≤e.many∧e.many≤t
 bf:∀ e∈es,e.fst<k
 bm:∀ p∈ml,∀ x∈p.2,0≤x∧x<k
 len:part.length=n
 bp:∀ a,a<k→0≤part.getD a 0∧part.getD a 0<k
 cn:∀ a b:Nat,a<k→b<k→(part.getD a 0=part.getD b 0↔Cn (c4 ml) a b)
theorem fg {ml:List (Int×List Int)}{k:Nat}(h:∀ p∈ml,∀ x∈p.2,0≤x∧x<(k:Int)){a b:Int}(hl:c4 ml a b):(0≤a∧a<k)∧(0≤b∧b<k):=by
 obtain ⟨p,hp,h1,h2⟩:=hl;exact⟨h p hp a (List.mem_of_head? h1),h p hp b h2⟩
theorem Sd.open {n t k:Nat}{es:List En}{part:List Int}{zl:List (Int×Int)}{ml:List (Int×List Int)}(h:Sd n t k es part zl ml)(hk:k<n):Sd n t (k+1) es (part.set k k) zl ml:=by
 have hl:=h.len;have g1:(part.set k (k:Int)).getD k 0=k:=by rw[zg6,List.getElem?_set]; simp[hl,hk]
 have g2:∀ a,a≠k→(part.set k (k:Int)).getD a 0=part.getD a 0:=fun a ha=>by
  rw[zg6,zg6,List.getElem?_set,zf5 fun e=>ha e.symm]
 have iso:∀ b,¬ c4 ml k b∧¬ c4 ml b k:=fun b=>⟨fun e=>by have:=fg h.bm e; omega,fun e=>by have:=fg h.bm e; omega⟩;refine⟨h.z,h.m,h.bz,fun e he=>by have:=h.bf e he; omega,fun p hp x hx=>by have:=h.bm p hp x hx; omega,by simp[hl],fun a ha=>?_,fun a b ha hb=>?_⟩
 ·by_cases e:a=k
  ·subst e; rw[g1]; omega
  ·rw[g2 a e]; have:=h.bp a oM; omega
 ·by_cases e:a=k <;> by_cases e2:b=k
  ·subst e; subst e2; exact⟨fun _=>.refl _,fun _=>I⟩
  ·subst e;rw[g1,g2 b e2];have:=h.bp b oM;exact⟨fun h=>by omega,fun hc=>by have:=hc.iso iso; omega⟩
  ·subst e2;rw[g1,g2 a e];have:=h.bp a oM;exact⟨fun h=>by omega,fun hc=>by have:=hc.symm.iso iso; omega⟩
  ·rw[g2 a e,g2 b e2];exact h.cn a b oM oM
theorem iI {m:Nat}{old now:Int}{p:List Int}{a:Nat}(h:a<p.length)(hm:a<m):(cZ m old now p).getD a 0=if p.getD a 0=now then old else p.getD a 0:=by
 rw[zg6,zg6];simp only[cZ,List.getElem?_mapIdx,gE h,Option.map_some,Option.getD_some,hm,true_and]
theorem xH {i:Nat}{c:Int}{es:List En}(h:∀ e∈es,e.fst<i+1):gx i c es<i+1:=by
 induction es with
 | nil=>exact Nat.lt_succ_self i
 | cons e r ih =>
  unfold gx;split
  ·exact h e (by simp)
  ·exact ih fun x hx=>h x (by simp[hx])
theorem sw {P:En→Prop}{i:Nat}{c p:Int}(hn:P (En.up ⟨c,0,0,i⟩ p))(hu:∀ e,P e→P (e.up p))(ho:∀ e,P e→P e):∀ {es:List En},(∀ e∈es,P e)→∀ e∈i7 i c p es,P e
 | [],_,e,he=>by simp[i7] at he; subst he; exact hn
 | x::r,h,e,he=>by
  unfold i7 at he;split at he
  ·rcases ze6.1 he with rfl | he
   ·exact hu x (h x (by simp))
   ·exact h e (by simp[he])
  ·rcases ze6.1 he with rfl | he
   ·exact h e (by simp)
   ·exact sw hn hu ho (fun y hy=>h y (by simp[hy])) e he
theorem sE {P:Int→Prop}{c:Int}{i:Int}(hi:P i):∀ {ml:List (Int×List Int)},(∀ p∈ml,∀ x∈p.2,P x)→∀ p∈em ml c i,∀ x∈p.2,P x
 | [],_,p,hp,x,hx=>by simp[em] at hp; subst hp; simp at hx; subst hx; exact hi
 | (k,l)::r,h,p,hp,x,hx=>by
  unfold em at hp;split at hp
  ·rcases ze6.1 hp with rfl | hp
   ·rcases ze8.1 hx with hx | hx
    ·exact h (k,l) (by simp) x hx
    ·simp at hx; subst hx; exact hi
   ·exact h p (by simp[hp]) x hx
  ·rcases ze6.1 hp with rfl | hp
   ·exact h (k,l) (by simp) x hx
   ·exact sE hi (fun q hq=>h q (by simp[hq])) p hp x hx
theorem Sd.next {n t i:Nat}{es:List En}{part:List Int}{zl:List (Int×Int)}{ml:List (Int×List Int)}{x r:aj}(h:Sd n t (i+1) es part zl ml)(hi:i<n)(ht:t<1000000)(hx:x.sign=1∨x.sign = -1)(hr:r.sign=1∨r.sign = -1) :
  Sd n (t+1) (i+1) (jx i x.sign (es,part) r).1 (jx i x.sign (es,part) r).2 (jw x zl r) (dD i ml r):=by
 have hp:=rL hx hr;have hw:wr (x.sign * r.sign)=x.sign * r.sign:=nN oM;unfold jx jw dD;dsimp only;rw[hw];generalize x.sign * r.sign=p at *;have hl:=h.len;have hbm:=yu (i:=i) (c:=r.cell) (p:=p) h.m fun e he=>by have:=h.bz e he; exact nN oM
 have hf:=xH (c:=r.cell) h.bf;refine⟨yt h.z (fun e he=>by have:=h.bz e he; exact nN oM) (by rw[Int.zero_add]; exact nN oM),hbm.1,?_,?_,?_,by rw[jt]; exact hl,fun a ha=>?_,fun a b ha hb=>?_⟩
 ·have:∀ e∈i7 i r.cell p es,(-(t:Int)≤e.sum∧e.sum≤t∧0≤e.many∧e.many≤t)∨(-((t+1:Nat):Int)≤e.sum∧e.sum≤((t+1:Nat):Int)∧0≤e.many∧e.many≤((t+1:Nat):Int)):=by
   have h0:=h.bz;clear h hbm hf hl;generalize hes:i7 i r.cell p es=fs;intro e he;subst hes;induction es with
   | nil =>
    simp[i7] at he;subst he;right;simp only[En.up];rw[nN oM,nN oM];omega
   | cons y q ih =>
    unfold i7 at he;split at he
    ·rcases ze6.1 he with rfl | he
     ·right;have:=h0 y (by simp);simp only[En.up];rw[nN oM,nN oM];omega
     ·exact .inl (h0 e (by simp[he]))
    ·rcases ze6.1 he with rfl | he
     ·exact .inl (h0 e (by simp))
     ·exact ih (fun z hz=>h0 z (by simp[hz])) he
  intro e he
  rcases this e he with h1 | h1 <;> omega
 ·exact sw (P:=fun e=>e.fst<i+1) (Nat.lt_succ_self i) (fun e he=>he) (fun e he=>he) h.bf
 ·exact sE (P:=fun x=>0≤x∧x<((i+1:Nat):Int)) oM h.bm
 ·rw[iI oM ha];split
  ·exact h.bp _ hf
  ·exact h.bp a ha
 ·rw[iI oM ha,iI oM hb,Cn.add (x:=(gx i r.cell es:Int)) (y:=(i:Int)) hbm.2 a b];rw[← h.cn a b ha hb,← h.cn a _ ha hf,← h.cn i b oM hb,← h.cn a i ha oM,← h.cn _ b hf hb];generalize part.getD a 0=pa;generalize part.getD b 0=pb;generalize part.getD i 0=pi;generalize part.getD (gx i r.cell es) 0=pf;by_cases h1:pa=pi <;> by_cases h2:pb=pi <;> simp[h1,h2] <;> omega
theorem Sd.inner {n i:Nat}{x:aj}(hi:i<n)(hx:x.sign=1∨x.sign = -1):∀ (l:List aj) {t:Nat} {es:List En} {part:List Int} {zl:List (Int×Int)} {ml:List (Int×List Int)},Sd n t (i+1) es part zl ml→t+l.length<1000000→(∀ r∈l,r.sign=1∨r.sign = -1) →
  Sd n (t+l.length) (i+1) (l.foldl (jx i x.sign) (es,part)).1 (l.foldl (jx i x.sign) (es,part)).2 (l.foldl (jw x) zl) (l.foldl (dD i) ml)
 | [],_,_,_,_,_,h,_,_=>h
 | r::l,t,es,part,zl,ml,h,ht,hr=>by
  simp only[ze4] at ht;have h1:=h.next (x:=x) (r:=r) hi oM hx (hr r (by simp));have:=Sd.inner hi hx l h1 oM (fun q hq=>hr q (by simp[hq]));simp only[zi3,ze4];rw[show t+(l.length+1)=t+1+l.length by omega];exact this
theorem Sd.outer {tl:List Cl}{n:Nat}:∀ (l:List aj) {t k:Nat} {es:List En} {part:List Int} {zl:List (Int×Int)} {ml:List (Int×List Int)},Sd n t k es part zl ml→k+l.length≤n→t+64 * l.length<1000000→(∀ x∈l,x.sign=1∨x.sign = -1)→(∀ x∈l,(ax tl x).length≤64∧∀ r∈ax tl x,r.sign=1∨r.sign = -1) →
  ∃ t',Sd n t' (k+l.length) ((l.zipIdx k).foldl (kN tl) (es,part)).1 ((l.zipIdx k).foldl (kN tl) (es,part)).2 (l.foldl (fun zl x=>(ax tl x).foldl (jw x) zl) zl) ((l.zipIdx k).foldl (fun ml p=>(ax tl p.1).foldl (dD p.2) ml) ml)
 | [],t,_,_,_,_,_,h,_,_,_,_=>⟨t,h⟩
 | x::l,t,k,es,part,zl,ml,h,hk,ht,hs,hq=>by
  simp only[ze4] at hk ht;have h0:=hq x (by simp);have h1:=(h.open oM).inner (x:=x) oM (hs x (by simp)) (ax tl x) oM h0.2;obtain ⟨t',h2⟩:=Sd.outer l h1 oM oM (fun y hy=>hs y (by simp[hy])) (fun y hy=>hq y (by simp[hy]));refine⟨t',?_⟩;simp only[List.zipIdx_cons,zi3,ze4];rw[show k+(l.length+1)=k+1+l.length by omega];exact h2
theorem lg {α β:Type}{R:α→β→Prop}{p:α→Bool}{q:β→Bool}(h:∀ a b,R a b→p a=q b):∀ {l:List α} {m:List β},ar R l m→l.any p=m.any q
 | [],[],_=>rfl
 | a::l,b::m,hr=>by simp only[List.any_cons,h a b hr.1,lg h hr.2]
 | [],_::_,hr=>hr.elim
 | _::_,[],hr=>hr.elim
theorem ol {ml:List (Int×List Int)}(h2:∀ p∈ml,p.2.length=2)(a b:Int):Rch (gD (cj ml)) a b↔Cn (c4 ml) a b:=by
 have hstep:∀ x y,y∈dJ (cj ml) x→Cn (c4 ml) x y:=fun x y hy=>by
  obtain ⟨p,hp,h⟩:=(ja ml x y).1 hy
  rcases h with h | h
  ·exact .one ⟨p,hp,by rw[h]; rfl,by rw[h]; simp⟩
  ·exact (Cn.one (E:=c4 ml) ⟨p,hp,by rw[h]; rfl,by rw[h]; simp⟩).symm
 have hadj:∀ x,gD (cj ml) x≠none:=fun x=>by simp[gD]
 constructor
 ·intro h;induction h with
  | refl _ _=>exact .refl _
  | step x y _ l hl hy _ ih =>
   simp only[gD,zg3] at hl;subst hl;exact (hstep x y hy).trans ih
 ·intro h;induction h with
  | refl a=>exact .refl a (hadj a)
  | @step x y z e _ ih =>
   have key:∀ u v,c4 ml u v→v=u∨v∈dJ (cj ml) u:=fun u v ⟨p,hp,h3,h4⟩=>by
    have:=h2 p hp
    match hq:p.2,this with
    | [c,d],_ =>
     rw[hq] at h3 h4;simp at h3 h4;subst h3
     rcases h4 with h4 | h4
     ·exact .inl h4
     ·exact .inr ((ja ml c v).2 ⟨p,hp,.inl (by rw[hq,h4])⟩)
   rcases e with e | e
   ·rcases key x y e with rfl | h5
    ·exact ih
    ·exact .step x y z _ I h5 ih
   ·rcases key y x e with rfl | h5
    ·exact ih
    ·refine .step x y z _ I ?_ ih;obtain ⟨p,hp,h6⟩:=(ja ml y x).1 h5;exact (ja ml x y).2 ⟨p,hp,h6.symm⟩
theorem k0 {l:List Int}(hn:l.Nodup)(hb:∀ x∈l,0≤x):(l.map Int.toNat).Nodup:=by
 rw[List.Nodup,zj6];refine List.Pairwise.imp_of_mem ?_ hn;intro a b ha hb' hne e;have:=hb a ha;have:=hb b hb';omega
theorem jn {l:List Int}{n:Nat}(hn:l.Nodup)(hb:∀ x∈l,0≤x∧x<(n:Int)):l.length≤n:=by
 have h1:=k0 hn fun x hx=>(hb x hx).1;have:=cM (l:=List.range n) h1 List.nodup_range fun x hx=>by
  obtain ⟨y,hy,rfl⟩:=ze7.1 hx;have:=hb y hy;exact List.mem_range.2 oM
 simpa using this
theorem n5 {tl:List Cl}{c:Cl}(hok:AOk tl c)(h0:0<c.sides.length):fu tl c=cd tl c:=by
 obtain ⟨h64,hs,hq⟩:=hok;have start:Sd c.sides.length 0 0 [] (List.replicate c.sides.length 0) [] []:=⟨trivial,trivial,by simp,by simp,by simp,by simp,by simp,fun a b ha=>by omega⟩;obtain ⟨t,hd⟩:=start.outer c.sides (tl:=tl) oM oM hs hq;have e1:((c.sides.zipIdx 0).foldl (kN tl) ([],List.replicate c.sides.length 0))=jY tl c.sides c.sides.length:=rfl;rw[e1] at hd;have hz:ar RZ (jY tl c.sides c.sides.length).1 (e9 tl c.sides):=hd.z;have hm:ar RM (jY tl c.sides c.sides.length).1 (dA tl c.sides):=hd.m;unfold fu cd;rw[lg (p:=fun e=>decide (e.sum≠0)) (q:=fun p:Int×Int=>decide (p.2≠0)) (fun a b h=>by rw[h.2]) hz];rw[lg (p:=fun e=>decide (e.many≠2)) (q:=fun p:Int×List Int=>decide ((p.2.length:Int)≠2)) (fun a b h=>by rw[h.2.1]) hm];split
 ·rfl
 ·split
  ·rfl
  ·rename_i hno;have h2:∀ p∈dA tl c.sides,p.2.length=2:=fun p hp=>by
    have:=zj7.1 ((zj1 _).mp hno) p hp;simp at this;omega
   have hbm:∀ p∈dA tl c.sides,∀ x∈p.2,0≤x∧x<((0+c.sides.length:Nat):Int):=hd.bm;rw[Nat.zero_add] at hbm;have hcn:∀ a b:Nat,a<c.sides.length→b<c.sides.length→((jY tl c.sides c.sides.length).2.getD a 0=(jY tl c.sides c.sides.length).2.getD b 0↔Rch (gD (cj (dA tl c.sides))) a b):=fun a b ha hb=>by
    rw[ol h2];exact hd.cn a b oM oM
   have hln:=hd.len;have hmem:∀ x:Int,x∈fZ (cj (dA tl c.sides))↔Rch (gD (cj (dA tl c.sides))) 0 x:=fun x=>p8 (cnt:=kE (cj (dA tl c.sides))) (fun v v' h=>gw h) (iV _) (zk2 (zc1 _ _)) (by simp[gD]) x;have hnd:(fZ (cj (dA tl c.sides))).Nodup:=gv _ _ _ _ (by simp);have hin:∀ x∈fZ (cj (dA tl c.sides)),0≤x∧x<(c.sides.length:Int):=fun x hx=>by
    have hr:=(ol h2 0 x).1 ((hmem x).1 hx);have:∀ a b,Cn (c4 (dA tl c.sides)) a b→(0≤a∧a<(c.sides.length:Int))→(0≤b∧b<(c.sides.length:Int)):=by
     intro a b h;induction h with
     | refl _=>exact fun h=>h
     | step e _ ih =>
      intro _
      rcases e with e | e
      ·exact ih (fg hbm e).2
      ·exact ih (fg hbm e).1
    exact this 0 x hr oM
   generalize (jY tl c.sides c.sides.length).2=part at *;generalize fZ (cj (dA tl c.sides))=seen at *;by_cases hall:∀ a,a<c.sides.length→part.getD a 0=part.getD 0 0
   ·have hf:part.any (fun x=>decide (x≠part.getD 0 0))=false:=by
     rw[zj7];intro x hx;obtain ⟨i,hi,rfl⟩:=zc3 hx;have:=hall i oM;rw[zg6,gE hi] at this;simpa using this
    have hlen:seen.length=c.sides.length:=by
     refine Nat.le_antisymm (jn hnd hin) ?_;have h3:=cM (m:=List.range c.sides.length) (l:=seen.map Int.toNat) List.nodup_range (k0 hnd fun x hx=>(hin x hx).1) fun i hi=>by
      have hi:=List.mem_range.1 hi;exact ze7.2 ⟨(i:Int),(hmem i).2 ((hcn 0 i h0 hi).1 (hall i hi).symm),by simp⟩
     simpa using h3
    rw[hf,hlen];simp
   ·have ht:part.any (fun x=>decide (x≠part.getD 0 0))=true:=by
     simp only[Classical.not_forall] at hall;obtain ⟨a,ha,hne⟩:=hall;rw[zj2];refine⟨part.getD a 0,?_,by simpa using hne⟩;rw[zg6,gE oM];exact gM _
    have hlen:(seen.length:Int)≠c.sides.length:=by
     simp only[Classical.not_forall] at hall;obtain ⟨a,ha,hne⟩:=hall;have hna:(a:Int) ∉ seen:=fun h=>hne ((hcn 0 a h0 ha).2 ((hmem a).1 h)).symm;have:=jn (l:=(a:Int)::seen) (n:=c.sides.length) (zj4.2 ⟨hna,hnd⟩) fun x hx=>by
      rcases ze6.1 hx with rfl | hx
      ·omega
      ·exact hin x hx
     simp at this;omega
    rw[ht,zf6 rfl,zf6 hlen]
theorem cf {tl:List Cl}:∀ {l:List Cl} {n:Int},eZ tl l n=none→l.Pairwise (fun a b=>a.id<b.id)∧(∀ x∈l,n<x.id)∧∀ x∈l,bP tl x=0
 | [],_,_=>⟨List.Pairwise.nil,by simp,by simp⟩
 | x::r,n,h=>by
  unfold eZ at h;split at h
  ·cases h
  ·rename_i hid;split at h
   ·cases h
   ·rename_i hf;obtain ⟨h1,h2,h3⟩:=cf h;refine⟨zj5.2 ⟨h2,h1⟩,fun y hy=>?_,fun y hy=>?_⟩
    ·rcases ze6.1 hy with rfl | hy
     ·omega
     ·have:=h2 y hy; omega
    ·rcases ze6.1 hy with rfl | hy
     ·exact zg5 hf
     ·exact h3 y hy
theorem gI (l:List Cl):aA l=aU l:=by
 unfold aA aU;split
 ·rfl
 ·cases h:eZ (ae l) (aa l) 0 with
  | some p=>rfl
  | none =>
   obtain ⟨h1,_,h3⟩:=cf h;have ht:=a8 h1;have key:∀ m:List Cl,(∀ x∈m,x∈aa l)→j3 (aa l) m=kF (ae l) m:=by
    intro m;induction m with
    | nil=>intro _; rfl
    | cons x r ih =>
     intro hm;have hx:=hm x (by simp);unfold j3 kF;rw[ih fun y hy=>hm y (by simp[hy])];by_cases hd:x.dim>1
     ·have hok:=uy h3 hx;have hn:0<x.sides.length:=by
       have hf:=h3 x hx;unfold bP at hf;split at hf
       ·cases hf
       ·split at hf
        ·cases hf
        ·rename_i hc;simp[aK] at hc;have:=hc.2 hd;omega
      rw[ht] at hok ⊢;rw[n5 hok hn]
     ·simp[hd]
   rw[key _ fun x hx=>hx]
set_option maxRecDepth 10000
theorem jf {l:List Cl}(h:(aU l).2=0):eZ (ae l) (aa l) 0=none:=by
 unfold aU at h;split at h
 ·simp at h
 ·cases h1:eZ (ae l) (aa l) 0 with
  | none=>rfl
  | some p=>rw[h1] at h; exact absurd h (qf h1)
theorem xq (a b:List Cl):bH a b=yQ a b:=by
 have hb:bF a b=kH a b:=by
  unfold bF kH;rw[gI,gI];by_cases h1:(aU a).2=0
  ·by_cases h2:(aU b).2=0
   ·rw[a8 (cf (jf h1)).1,a8 (cf (jf h2)).1,aw,aw]
   ·simp[h2]
  ·simp[h1]
 unfold bH yQ;rw[hb,gI]
section
variable {A:List (List Int)}(hA:e7 A)
include hA
end
section
variable {A B:List (List Int)}(hA:e7 A)(hB:e7 B)
include hA hB
end
section
variable {A B:List (List Int)}(hA:e7 A)(hB:e7 B)
include hA hB
end
structure Few (a:List Cl)(A:List (List Int)):Prop where
 good:e7 A
 cells:a=A.map (fy A)
 small:∀ s∈A,s.length≤3
 few:A.length≤14
def sF (tl:List Cl)(l:List aj)(r:Int):Int:=(l.flatMap fun x=>(ax tl x).map fun q=>if q.cell=r then x.sign * q.sign else 0).sum
def lX (tl:List Cl)(x:aj)(r:Int):Nat:=((ax tl x).filter fun q=>decide (q.cell=r)).length
def rC (tl:List Cl)(l:List aj)(r:Int):Nat:=(l.map fun x=>lX tl x r).sum
def qB (tl:List Cl)(l:List aj)(a b:Int):Prop:=∃ x∈l,∃ y∈l,x.cell=a∧y.cell=b∧∃ r,0<lX tl x r∧0<lX tl y r
theorem wh (zl:List (Int×Int))(k x r:Int):fx (e6 zl k x) r=fx zl r+if r=k then x else 0:=by
 induction zl with
 | nil =>
  simp only[e6,fx];split <;> simp
 | cons p q ih =>
  obtain ⟨a,z⟩:=p;simp only[e6];by_cases h:k=a
  ·subst h;simp only[if_true,fx];split <;> simp
  ·rw[zf5 h];simp only[fx,ih];by_cases hr:r=a
   ·subst hr;rw[zf6 rfl,zf6 rfl,zf5 fun e=>h e.symm];omega
   ·rw[zf5 hr,zf5 hr]
theorem mS (x:aj)(r:Int):∀ (l:List aj) (zl:List (Int×Int)),fx (l.foldl (jw x) zl) r=fx zl r+(l.map fun q=>if q.cell=r then x.sign * q.sign else 0).sum
 | [],zl=>by simp
 | q::l,zl=>by
  simp only[zi3,zf9,List.sum_cons];rw[mS x r l,jw,wh];by_cases h:r=q.cell
  ·rw[zf6 h,zf6 h.symm]; omega
  ·rw[zf5 h,zf5 fun e=>h e.symm]; omega
theorem oW (tl:List Cl)(l:List aj)(r:Int):fx (e9 tl l) r=sF tl l r:=by
 have:∀ (l:List aj) (zl:List (Int×Int)),fx (l.foldl (fun zl x=>(ax tl x).foldl (jw x) zl) zl) r=fx zl r+sF tl l r:=by
  intro l;induction l with
  | nil=>intro zl; simp[sF]
  | cons x q ih =>
   intro zl;simp only[zi3];rw[ih,mS];simp only[sF,zh1,List.sum_append];omega
 have h:=this l [];simpa [e9,fx] using h
theorem wB (ml:List (Int×Int))(k x:Int):(e6 ml k x).map Prod.fst=if ml.any (fun p=>decide (p.1=k)) then ml.map Prod.fst else ml.map Prod.fst++[k]:=by
 induction ml with
 | nil=>simp[e6]
 | cons p r ih =>
  obtain ⟨a,l⟩:=p;simp only[e6];by_cases h:k=a
  ·subst h;simp
  ·have h2:¬ a=k:=fun e=>h e.symm;rw[zf5 h];simp only[zf9,ih,List.any_cons,h2,decide_false,Bool.false_or];split <;> simp
theorem tQ {ml:List (Int×Int)}(h:(ml.map Prod.fst).Nodup)(k x:Int):((e6 ml k x).map Prod.fst).Nodup:=by
 rw[wB];split
 ·exact h
 ·rename_i hk;rw[List.nodup_append];refine⟨h,by simp,fun a ha b hb e=>hk ?_⟩;simp at hb;subst hb;obtain ⟨p,hp,hpe⟩:=ze7.1 ha;rw[zj2];exact⟨p,hp,by simp[hpe,e]⟩
theorem qq (tl:List Cl)(l:List aj):((e9 tl l).map Prod.fst).Nodup:=by
 have h1:∀ (x:aj) (q:List aj) (zl:List (Int×Int)),(zl.map Prod.fst).Nodup→((q.foldl (jw x) zl).map Prod.fst).Nodup:=by
  intro x q;induction q with
  | nil=>intro zl h; exact h
  | cons r t ih=>intro zl h; exact ih _ (tQ h _ _)
 have h2:∀ (q:List aj) (zl:List (Int×Int)),(zl.map Prod.fst).Nodup→((q.foldl (fun zl x=>(ax tl x).foldl (jw x) zl) zl).map Prod.fst).Nodup:=by
  intro q;induction q with
  | nil=>intro zl h; exact h
  | cons x t ih=>intro zl h; exact ih _ (h1 _ _ _ h)
 exact h2 _ _ (by simp)
theorem r5:∀ {zl:List (Int×Int)},(zl.map Prod.fst).Nodup→∀ p∈zl,fx zl p.1=p.2
 | [],_,p,hp=>by simp at hp
 | (a,z)::r,h,p,hp=>by
  simp only[zf9,zj4] at h
  rcases ze6.1 hp with rfl | hp
  ·simp[fx]
  ·simp only[fx];rw[zf5 fun e=>h.1 (ze7.2 ⟨p,hp,e⟩)];exact r5 h.2 p hp
theorem oX:∀ {zl:List (Int×Int)} {k:Int},fx zl k≠0→∃ p∈zl,p.1=k∧p.2=fx zl k
 | [],_,h=>by simp[fx] at h
 | (a,z)::r,k,h=>by
  simp only[fx] at h ⊢;split
  ·rename_i e;exact⟨(a,z),by simp,e.symm,I⟩
  ·rename_i e;rw[zf5 e] at h;obtain ⟨p,hp,h1,h2⟩:=oX h;exact⟨p,by simp[hp],h1,h2⟩
theorem oD (tl:List Cl)(l:List aj):(e9 tl l).any (fun p=>decide (p.2≠0))=false↔∀ r,sF tl l r=0:=by
 rw[zj7];constructor
 ·intro h r;rw[← oW];refine zg5 fun hne=>?_;obtain ⟨p,hp,_,h2⟩:=oX hne;exact h p hp (by simpa [h2] using hne)
 ·intro h p hp;have:=r5 (qq tl l) p hp;rw[oW,h] at this;simp[← this]
theorem mT (i r:Int):∀ (l:List aj) (ml:List (Int×List Int)),dJ (l.foldl (dD i) ml) r=dJ ml r++List.replicate (l.filter fun q=>decide (q.cell=r)).length i
 | [],ml=>by simp
 | q::l,ml=>by
  simp only[zi3];rw[mT i r l,dD,o0,zi2];by_cases h:r=q.cell
  ·rw[zf6 h,zf6 (by simp[h])];simp[List.replicate_succ]
  ·rw[zf5 h,zf5 (by simp; exact fun e=>h e.symm)]
theorem r6 (tl:List Cl)(l:List aj)(r:Int):dJ (dA tl l) r=l.zipIdx.flatMap fun p=>List.replicate (lX tl p.1 r) (p.2:Int):=by
 have:∀ (q:List (aj×Nat)) (ml:List (Int×List Int)),dJ (q.foldl (fun ml p=>(ax tl p.1).foldl (dD p.2) ml) ml) r=dJ ml r++q.flatMap fun p=>List.replicate (lX tl p.1 r) (p.2:Int):=by
  intro q;induction q with
  | nil=>intro ml; simp
  | cons p t ih =>
   intro ml;simp only[zi3];rw[ih,mT];simp[lX]
 have h:=this l.zipIdx [];simpa [dA,dJ] using h
theorem uP (tl:List Cl)(l:List aj)(r:Int):(dJ (dA tl l) r).length=rC tl l r:=by
 rw[r6];have:∀ (l:List aj) (k:Nat),((l.zipIdx k).flatMap fun p=>List.replicate (lX tl p.1 r) (p.2:Int)).length=rC tl l r:=by
  intro l;induction l with
  | nil=>intro k; rfl
  | cons x q ih=>intro k; simp only[List.zipIdx_cons,zh1,ze1,List.length_replicate,ih,rC,zf9,List.sum_cons]
 exact this l 0
theorem kJ (tl:List Cl)(l:List aj)(r i:Int):i∈dJ (dA tl l) r↔∃ k:Nat,i=k∧∃ x,l[k]?=some x∧0<lX tl x r:=by
 rw[r6,List.mem_flatMap];constructor
 ·rintro ⟨⟨x,k⟩,hp,hi⟩;obtain ⟨h1,rfl⟩:=List.mem_replicate.1 hi;refine⟨k,I,x,?_,Nat.pos_of_ne_zero h1⟩;simpa using List.mem_zipIdx_iff_getElem?.1 hp
 ·rintro ⟨k,rfl,x,hx,hh⟩;exact⟨(x,k),List.mem_zipIdx_iff_getElem?.2 (by simpa using hx),List.mem_replicate.2 ⟨Nat.ne_of_gt hh,I⟩⟩
theorem kx:∀ {ml:List (Int×List Int)},(ml.map Prod.fst).Nodup→∀ p∈ml,dJ ml p.1=p.2
 | [],_,p,hp=>by simp at hp
 | (a,z)::r,h,p,hp=>by
  simp only[zf9,zj4] at h
  rcases ze6.1 hp with rfl | hp
  ·simp[dJ]
  ·simp only[dJ];rw[zf5 fun e=>h.1 (ze7.2 ⟨p,hp,e⟩)];exact kx h.2 p hp
theorem k7:∀ {ml:List (Int×List Int)} {k:Int},dJ ml k≠[]→∃ p∈ml,p.1=k∧p.2=dJ ml k
 | [],_,h=>by simp[dJ] at h
 | (a,z)::r,k,h=>by
  simp only[dJ] at h ⊢;split
  ·rename_i e;exact⟨(a,z),by simp,e.symm,I⟩
  ·rename_i e;rw[zf5 e] at h;obtain ⟨p,hp,h1,h2⟩:=k7 h;exact⟨p,by simp[hp],h1,h2⟩
theorem vu:∀ {ml:List (Int×List Int)} {k x:Int},(∀ p∈ml,p.2≠[])→∀ p∈em ml k x,p.2≠[]
 | [],_,_,_,p,hp=>by simp[em] at hp; subst hp; simp
 | (a,l)::r,k,x,h,p,hp=>by
  unfold em at hp;split at hp
  ·rcases ze6.1 hp with rfl | hp
   ·simp
   ·exact h p (by simp[hp])
  ·rcases ze6.1 hp with rfl | hp
   ·exact h _ (by simp)
   ·exact vu (fun q hq=>h q (by simp[hq])) p hp
theorem Ad (tl:List Cl)(l:List aj):∀ p∈dA tl l,p.2≠[]:=by
 have h1:∀ (i:Int) (q:List aj) (ml:List (Int×List Int)),(∀ p∈ml,p.2≠[])→∀ p∈q.foldl (dD i) ml,p.2≠[]:=by
  intro i q;induction q with
  | nil=>intro ml h; exact h
  | cons r t ih=>intro ml h; exact ih _ (vu h)
 have h2:∀ (q:List (aj×Nat)) (ml:List (Int×List Int)),(∀ p∈ml,p.2≠[])→∀ p∈q.foldl (fun ml p=>(ax tl p.1).foldl (dD p.2) ml) ml,p.2≠[]:=by
  intro q;induction q with
  | nil=>intro ml h; exact h
  | cons x t ih=>intro ml h; exact ih _ (h1 _ _ _ h)
 exact h2 _ _ (by simp)
theorem rU (tl:List Cl)(l:List aj):(dA tl l).any (fun p=>decide ((p.2.length:Int)≠2))=false↔∀ r,rC tl l r=0∨rC tl l r=2:=by
 rw[zj7];constructor
 ·intro h r;rw[← uP];by_cases hne:dJ (dA tl l) r=[]
  ·left; rw[hne]; rfl
  ·right;obtain ⟨p,hp,_,h2⟩:=k7 hne;have:=h p hp;rw[h2] at this;simp at this;omega
 ·intro h p hp;have h1:=kx (gW tl l) p hp;have h2:=h p.1;rw[← uP,h1] at h2;have h3:=List.length_pos_iff.2 (Ad tl l p hp);simp;omega
theorem Ae (tl:List Cl)(l:List aj):∀ p∈dA tl l,∀ x∈p.2,0≤x∧x<(l.length:Int):=fun p hp x hx=>by
 rw[← kx (gW tl l) p hp] at hx;obtain ⟨k,rfl,y,hy,_⟩:=(kJ tl l p.1 x).1 hx;have:=(zf1.1 hy).1;omega
theorem xg {ml:List (Int×List Int)}{n:Nat}(h2:∀ p∈ml,p.2.length=2)(hb:∀ p∈ml,∀ x∈p.2,0≤x∧x<(n:Int))(h0:0<n):(fZ (cj ml)).length=n↔∀ a:Nat,a<n→Cn (c4 ml) 0 a:=by
 have hmem:∀ x:Int,x∈fZ (cj ml)↔Rch (gD (cj ml)) 0 x:=fun x=>p8 (cnt:=kE (cj ml)) (fun v v' h=>gw h) (iV _) (zk2 (zc1 _ _)) (by simp[gD]) x;have hnd:(fZ (cj ml)).Nodup:=gv _ _ _ _ (by simp);have hin:∀ x∈fZ (cj ml),0≤x∧x<(n:Int):=fun x hx=>by
  have hr:=(ol h2 0 x).1 ((hmem x).1 hx);have:∀ a b,Cn (c4 ml) a b→(0≤a∧a<(n:Int))→(0≤b∧b<(n:Int)):=by
   intro a b h;induction h with
   | refl _=>exact fun h=>h
   | step e _ ih =>
    intro _
    rcases e with e | e
    ·exact ih (fg hb e).2
    ·exact ih (fg hb e).1
  exact this 0 x hr oM
 generalize fZ (cj ml)=seen at *;constructor
 ·intro hl a ha;refine Classical.byContradiction fun hne=>?_;have hna:(a:Int) ∉ seen:=fun h=>hne ((ol h2 0 a).1 ((hmem a).1 h));have:=jn (l:=(a:Int)::seen) (n:=n) (zj4.2 ⟨hna,hnd⟩) fun x hx=>by
   rcases ze6.1 hx with rfl | hx
   ·omega
   ·exact hin x hx
  simp at this;omega
 ·intro hall;refine Nat.le_antisymm (jn hnd hin) ?_;have h3:=cM (m:=List.range n) (l:=seen.map Int.toNat) List.nodup_range (k0 hnd fun x hx=>(hin x hx).1) fun i hi=>by
   have hi:=List.mem_range.1 hi;exact ze7.2 ⟨(i:Int),(hmem i).2 ((ol h2 0 i).2 (hall i hi)),by simp⟩
  simpa using h3
theorem Cn.map {E E':Int→Int→Prop}{f:Int→Int}(h:∀ a b,E a b→Cn E' (f a) (f b)){a b:Int}(hc:Cn E a b):Cn E' (f a) (f b):=by
 induction hc with
 | refl _=>exact .refl _
 | step e _ ih =>
  rcases e with e | e
  ·exact (h _ _ e).trans ih
  ·exact (h _ _ e).symm.trans ih
theorem m8 {tl:List Cl}{c:Cl}(h0:0<c.sides.length)(hnd:(c.sides.map aj.cell).Nodup) :
  cd tl c=0↔(∀ r,sF tl c.sides r=0)∧(∀ r,rC tl c.sides r=0∨rC tl c.sides r=2)∧∀ x∈c.sides,∀ y∈c.sides,Cn (qB tl c.sides) x.cell y.cell:=by
 unfold cd;generalize c.sides=l at *;by_cases hs:(e9 tl l).any (fun p=>decide (p.2≠0))=false
 ·rw[zf5 (by rw[hs]; simp)];by_cases hm:(dA tl l).any (fun p=>decide ((p.2.length:Int)≠2))=false
  ·rw[zf5 (by rw[hm]; simp)];have h2:∀ p∈dA tl l,p.2.length=2:=fun p hp=>by
    have:=zj7.1 hm p hp;simp at this;omega
   have hsa:=xg h2 (Ae tl l) h0;have hinj:∀ {i j:Nat} {x y:aj},l[i]?=some x→l[j]?=some y→x.cell=y.cell→i=j:=fun {i j x y} hi hj e=>by
    obtain ⟨i1,e1⟩:=zf1.1 hi;obtain ⟨i2,e2⟩:=zf1.1 hj;have key:∀ {a b:Nat} (ha:a<l.length) (hb:b<l.length),a<b→l[a].cell≠l[b].cell:=fun {a b} ha hb h=>by
     have:=zc5.1 hnd a b (by simpa using ha) (by simpa using hb) h;simpa using this
    rcases Nat.lt_trichotomy i j with h | h | h
    ·exact absurd (by rw[e1,e2]; exact e) (key i1 i2 h)
    ·exact h
    ·exact absurd (by rw[e1,e2]; exact e.symm) (key i2 i1 h)
   have hconn:(∀ a:Nat,a<l.length→Cn (c4 (dA tl l)) 0 a)↔∀ x∈l,∀ y∈l,Cn (qB tl l) x.cell y.cell:=by
    constructor
    ·intro hall x hx y hy;obtain ⟨i,hi,rfl⟩:=zc3 hx;obtain ⟨j,hj,rfl⟩:=zc3 hy;have hc:=(hall i hi).symm.trans (hall j hj);have:=hc.map (f:=fun a=>(l.getD a.toNat ⟨0,0⟩).cell) (E':=qB tl l) fun a b hl=>by
      obtain ⟨p,hp,h3,h4⟩:=hl;rw[← kx (gW tl l) p hp] at h3 h4;obtain ⟨k,rfl,x,hx,hh⟩:=(kJ tl l p.1 a).1 (List.mem_of_head? h3);obtain ⟨m,rfl,y,hy,hh2⟩:=(kJ tl l p.1 b).1 h4;refine .one ⟨x,zf7 hx,y,zf7 hy,?_,?_,p.1,hh,hh2⟩
      ·simp[zg6,hx]
      ·simp[zg6,hy]
     simpa [zg6,hi,hj] using this
    ·intro hall;have key:∀ a b,Cn (qB tl l) a b→∀ (i:Nat) (x:aj),l[i]?=some x→x.cell=a→∀ (j:Nat) (y:aj),l[j]?=some y→y.cell=b→Cn (c4 (dA tl l)) (i:Int) (j:Int):=by
      have one:∀ {a b:Int},qB tl l a b→∀ (i:Nat) (x:aj),l[i]?=some x→x.cell=a→∃ (j:Nat) (y:aj),l[j]?=some y∧y.cell=b∧Cn (c4 (dA tl l)) (i:Int) (j:Int):=by
       rintro a b ⟨x',hx',y,hy,rfl,rfl,r,h3,h4⟩ i x hi he;obtain ⟨i',hi',rfl⟩:=zc3 hx';obtain ⟨j,hj,rfl⟩:=zc3 hy;have hii:=hinj hi (gE hi') he;subst hii;refine⟨j,l[j],gE hj,I,?_⟩;have m1:=(kJ tl l r i).2 ⟨i,rfl,l[i],gE hi',h3⟩;have m2:=(kJ tl l r j).2 ⟨j,rfl,l[j],gE hj,h4⟩;obtain ⟨p,hp,_,hp2⟩:=k7 (ml:=dA tl l) (k:=r) fun e=>by rw[e] at m1; simp at m1
       rw[← hp2] at m1 m2;cases hh:p.2 with
       | nil=>rw[hh] at m1; simp at m1
       | cons u q =>
        have hu:∀ v∈p.2,c4 (dA tl l) u v:=fun v hv=>⟨p,hp,by rw[hh]; rfl,hv⟩;exact (Cn.one (hu _ m1)).symm.trans (Cn.one (hu _ m2))
      intro a b hc;induction hc with
      | refl a =>
       intro i x hi he j y hj he2;have:=hinj hi hj (he.trans he2.symm);subst this;exact .refl _
      | step e _ ih =>
       intro i x hi he j y hj he2;have e':qB tl l _ _:=e.elim (fun e=>e) fun ⟨x,hx,y,hy,h1,h2,r,h3,h4⟩=>⟨y,hy,x,hx,h2,h1,r,h4,h3⟩;obtain ⟨k,z,hk,hz,hc⟩:=one e' i x hi he;exact hc.trans (ih k z hk hz j y hj he2)
     intro a ha;exact key _ _ (hall _ (gM h0) _ (gM ha)) 0 _ (gE h0) I a _ (gE ha) I
   rw[← hconn,← hsa];constructor
   ·intro h;refine⟨(oD tl l).1 hs,(rU tl l).1 hm,?_⟩;refine zg5 fun hne=>?_;rw[zf6 oM] at h;exact absurd h dC
   ·rintro ⟨_,_,h⟩;rw[zf5 oM]
  ·have hm':(dA tl l).any (fun p=>decide ((p.2.length:Int)≠2))=true:=by simpa using hm
   rw[zf6 hm'];exact⟨fun h=>absurd h dC,fun h=>absurd ((rU tl l).2 h.2.1) hm⟩
 ·have hs':(e9 tl l).any (fun p=>decide (p.2≠0))=true:=by simpa using hs
  rw[zf6 hs'];exact⟨fun h=>absurd h dC,fun h=>absurd ((oD tl l).2 h.1) hs⟩
structure Fm (tl:List Cl)(c:Cl):Prop where
 dim:0≤c.dim∧c.dim≤8
 cnt:aK c=false
 found:∀ x∈c.sides,∃ d,a6 tl x.cell=some d∧d.dim=c.dim - 1
 asc:c.sides.Pairwise fun a b=>a.cell<b.cell
 sg:∀ x∈c.sides,x.sign=1∨x.sign = -1
 one:c.dim=1→lQ c.sides=0
theorem An {l:List aj}(hs:l.Pairwise fun a b=>a.cell≤b.cell)(hd:∀ i x y,l[i]?=some x→l[i+1]?=some y→x.cell≠y.cell):l.Pairwise fun a b=>a.cell<b.cell:=by
 induction l with
 | nil=>exact List.Pairwise.nil
 | cons a r ih =>
  obtain ⟨h1,h2⟩:=zj5.1 hs;have hr:=ih h2 fun i x y hx hy=>hd (i+1) x y (by simpa using hx) (by simpa using hy);refine zj5.2 ⟨fun b hb=>?_,hr⟩;cases r with
  | nil=>simp at hb
  | cons z q =>
   have hz:a.cell<z.cell:=by
    have:=h1 z (by simp);have:=hd 0 a z rfl rfl;omega
   rcases ze6.1 hb with rfl | hb
   ·exact hz
   ·have:=(zj5.1 hr).1 b hb;omega
theorem AA {tl:List Cl}{c:Cl}(h:bP tl c=0)(hs:c.sides.Pairwise fun a b=>a.cell≤b.cell):Fm tl c:=by
 unfold bP at h;split at h
 ·cases h
 ·rename_i h1;split at h
  ·cases h
  ·rename_i h2;split at h
   ·cases h
   ·rename_i h3;split at h
    ·cases h
    ·rename_i h4;split at h
     ·cases h
     ·rename_i h5;have hbad:∀ i x,c.sides[i]?=some x→bM tl c i x=false:=fun i x hx=>by
       have hi:=(zf1.1 hx).1;have:=zj7.1 ((zj1 _).mp h3) i (List.mem_range.2 hi);unfold gy at this;rw[hx] at this;simpa using this
      refine⟨?_,by simpa using h2,fun x hx=>?_,An hs fun i x y hx hy e=>?_,fun x hx=>?_,fun hd=>?_⟩
      ·simp[eI] at h1; omega
      ·obtain ⟨i,hi,rfl⟩:=zc3 hx;have:=hbad i _ (gE hi);unfold bM at this;simp only[Bool.or_eq_false_iff,Bool.not_eq_false',decide_eq_false_iff_not,ne_eq,Decidable.not_not] at this;obtain ⟨⟨g1,g2⟩,_⟩:=this;obtain ⟨d,hd⟩:=zh4.1 g1;rw[hd] at g2;exact⟨d,hd,g2⟩
      ·have:=hbad (i+1) y hy;unfold bM at this;rw[show i+1 - 1=i by omega,hx] at this;simp[e] at this
      ·have:=zj7.1 ((zj1 _).mp h4) x hx;simp[bB] at this;by_cases h6:x.sign=1
       ·exact .inl h6
       ·exact .inr (this h6)
      ·simpa [hd] using h5
structure Rt (l:List Cl):Prop where
 few:l.length≤4000
 asc:l.Pairwise fun a b=>a.id<b.id
 pos:∀ x∈l,0<x.id
 form:∀ x∈l,Fm l x
 around:∀ x∈l,x.dim>1→cd l x=0
theorem Rt.canon {l:List Cl}(h:Rt l):aa l=l:=by
 unfold aa;rw[(df (key:=Cl.id) (h.asc.imp fun h=>by omega) (aH.refl l)).symm];have:∀ c∈l,cg c=c:=fun c hc=>by
  unfold cg;rw[(df (key:=aj.cell) ((h.form c hc).asc.imp fun h=>by omega) (aH.refl c.sides)).symm]
 rw[zc4 this];simp
theorem Rt.tab {l:List Cl}(h:Rt l):ae l=l:=by rw[a8 (by rw[h.canon]; exact h.asc),h.canon]
theorem Rt.find {l:List Cl}(h:Rt l){c:Cl}(hc:c∈l):a6 l c.id=some c:=by
 refine nG ?_ hc;rw[List.Nodup,zj6];exact h.asc.imp fun h=>by omega
theorem il {tl:List Cl}:∀ {l:List Cl},kF tl l=none→∀ x∈l,x.dim>1→cd tl x=0
 | [],_,x,hx,_=>by simp at hx
 | y::r,h,x,hx,hd=>by
  unfold kF at h;split at h
  ·cases h
  ·rename_i hn
   rcases ze6.1 hx with rfl | hx
   ·exact zg5 fun h=>hn ⟨hd,h⟩
   ·exact il h x hx hd
theorem o8 {tl:List Cl}:∀ {l:List Cl} {p:Int×Int},kF tl l=some p→p.2≠0
 | [],_,h=>by cases h
 | y::r,p,h=>by
  unfold kF at h;split at h
  ·rename_i hn; cases h; exact hn.2
  ·exact o8 h
theorem rh (l:List Cl):∀ c∈aa l,c.sides.Pairwise fun a b=>a.cell≤b.cell:=fun c hc=>by
 obtain ⟨d,_,rfl⟩:=ze7.1 hc;exact dx d.sides
theorem jZ {l:List Cl}(h:(aU l).2=0):Rt (aa l):=by
 have h1:=jf h;obtain ⟨h2,h3,h4⟩:=cf h1;have ht:=a8 h2;have h5:l.length≤4000:=wx h;refine⟨by rw[aw]; exact h5,h2,h3,fun x hx=>AA (by rw[← ht]; exact h4 x hx) (rh l x hx),?_⟩;have h6:kF (ae l) (aa l)=none:=by
  unfold aU at h;rw[zf5 oM,h1] at h;cases hc:kF (ae l) (aa l) with
  | none=>rfl
  | some p =>
   rw[hc] at h;exact absurd h (o8 hc)
 rw[ht] at h6;exact il h6
theorem kX {l m:List Int}(h:l.Perm m):l.sum=m.sum:=by
 induction h with
 | nil=>rfl
 | cons x _ ih=>simp[ih]
 | swap x y l=>simp; omega
 | trans _ _ ih1 ih2=>exact ih1.trans ih2
theorem vO {l m:List Nat}(h:l.Perm m):l.sum=m.sum:=by
 induction h with
 | nil=>rfl
 | cons x _ ih=>simp[ih]
 | swap x y l=>simp; omega
 | trans _ _ ih1 ih2=>exact ih1.trans ih2
theorem lq {α:Type}{key:α→Int}(l:List α):(sortBy key l).Perm l:=by
 have hi:∀ (x:α) (l:List α),(ins key x l).Perm (x::l):=by
  intro x l;induction l with
  | nil=>exact .refl _
  | cons y r ih =>
   unfold ins;split
   ·exact .refl _
   ·exact (ih.cons y).trans (.swap x y r)
 induction l with
 | nil=>exact .refl _
 | cons x r ih=>exact (hi x _).trans (ih.cons x)
def inner (tl:List Cl)(x:aj)(r:Int):Int:=((ax tl x).map fun q=>if q.cell=r then x.sign * q.sign else 0).sum
theorem gU (tl:List Cl)(l:List aj)(r:Int):sF tl l r=(l.map fun x=>inner tl x r).sum:=by
 unfold sF;induction l with
 | nil=>rfl
 | cons x q ih=>simp only[zh1,List.sum_append,zf9,List.sum_cons,ih]; rfl
theorem vA {tl:List Cl}{l m:List aj}(h:l.Perm m)(r:Int):sF tl l r=sF tl m r:=by
 rw[gU,gU];exact kX (h.map _)
theorem ws {tl:List Cl}{l m:List aj}(h:l.Perm m)(r:Int):rC tl l r=rC tl m r:=vO (h.map _)
def sgn (b:Bool):Int:=if b then -1 else 1
theorem oN (b:Bool){a:Int}(h:a=1∨a = -1):px b a=sgn b * a∧(px b a=1∨px b a = -1):=by
 rcases h with rfl | rfl <;> cases b <;> exact⟨by decide,by decide⟩
theorem gn {α:Type}{l:List α}{f g:α→Int}{K:Int}(h:∀ x∈l,f x=K * g x):(l.map f).sum=K * (l.map g).sum:=by
 induction l with
 | nil=>simp
 | cons x r ih =>
  simp only[zf9,List.sum_cons];rw[h x (by simp),ih fun y hy=>h y (by simp[hy]),Int.mul_add]
structure Nm (l:List Cl)(k:Int):Prop where
 inj:∀ a∈l,∀ b∈l,dh a.id k=dh b.id k→a=b
 pos:∀ a∈l,0<dh a.id k
section
variable {l:List Cl}(h:Rt l){k:Int}(hn:Nm l k)(t:Int)
include h hn
omit hn in
theorem eo (c:Cl)(hc:c∈l){x:aj}(hx:x∈c.sides):∃ d∈l,d.id=x.cell∧a6 l x.cell=some d∧d.dim=c.dim - 1:=by
 obtain ⟨d,hd,hdd⟩:=(h.form c hc).found x hx;obtain ⟨h1,h2⟩:=eF hd;exact⟨d,h1,h2,hd,hdd⟩
theorem zg:((l.map (aB k t)).map Cl.id).Nodup:=by
 rw[zi1,List.Nodup,zj6];refine List.Pairwise.imp_of_mem ?_ h.asc;intro a b ha hb hlt e;have:=hn.inj a ha b hb e;subst this;omega
theorem oK:((aa (l.map (aB k t))).map Cl.id).Nodup:=by
 have h1:=zg h hn t;have h2:((aa (l.map (aB k t))).map Cl.id).Perm ((l.map (aB k t)).map Cl.id):=by
  rw[m4];exact (lq _).map _
 exact h2.symm.nodup h1
omit h hn in
theorem zf {c:Cl}(hc:c∈l):cg (aB k t c)∈aa (l.map (aB k t)) :=
 ze7.2 ⟨_,(dP _ _).2 (ze7.2 ⟨c,hc,rfl⟩),rfl⟩
omit h hn in
theorem nf {c':Cl}(hc:c'∈aa (l.map (aB k t))):∃ c∈l,c'=cg (aB k t c):=by
 obtain ⟨d,hd,rfl⟩:=ze7.1 hc;obtain ⟨c,hc',rfl⟩:=ze7.1 ((dP _ _).1 hd);exact⟨c,hc',I⟩
theorem ks {c:Cl}(hc:c∈l):a6 (aa (l.map (aB k t))) (dh c.id k)=some (cg (aB k t c)) :=
 nG (x:=cg (aB k t c)) (oK h hn t) (zf t hc)
omit h hn in
theorem dB (c:Cl):(cg (aB k t c)).sides.Perm (c.sides.map (aX k t c)):=lq _
omit hn in
theorem kr {c:Cl}(hc:c∈l){x:aj}(hx:x∈c.sides):(aX k t c x).sign=sgn (fD t c x.cell) * (sgn (fY t c) * x.sign)∧((aX k t c x).sign=1∨(aX k t c x).sign = -1):=by
 have h1:=oN (fY t c) ((h.form c hc).sg x hx);have h2:=oN (fD t c x.cell) h1.2;exact⟨by rw[← h1.1]; exact h2.1,h2.2⟩
theorem rQ {c:Cl}(hc:c∈l):Fm (aa (l.map (aB k t))) (cg (aB k t c)):=by
 have hf:=h.form c hc;have hlen:(cg (aB k t c)).sides.length=c.sides.length:=by rw[(dB t c).length_eq,ze2]
 have hmem:∀ x',x'∈(cg (aB k t c)).sides↔∃ x∈c.sides,aX k t c x=x':=fun x'=>by rw[(dB t c).mem_iff,ze7]
 refine⟨hf.dim,?_,fun x' hx'=>?_,?_,fun x' hx'=>?_,fun hd=>?_⟩
 ·have:=hf.cnt;unfold aK at this ⊢;rw[hlen];exact this
 ·obtain ⟨x,hx,rfl⟩:=(hmem x').1 hx';obtain ⟨d,hd,hid,_,hdd⟩:=eo h c hc hx;have:=ks h hn t hd;rw[hid] at this;exact⟨_,this,hdd⟩
 ·have h1:(cg (aB k t c)).sides.Pairwise fun a b=>a.cell≤b.cell:=dx _;have h2:((cg (aB k t c)).sides.map aj.cell).Nodup:=by
   refine ((dB t c).map aj.cell).symm.nodup ?_;rw[zi1,List.Nodup,zj6];refine List.Pairwise.imp_of_mem ?_ hf.asc;intro a b ha hb hlt e;obtain ⟨d,hd,hid,_⟩:=eo h c hc ha;obtain ⟨d',hd',hid',_⟩:=eo h c hc hb;have e:dh a.cell k=dh b.cell k:=e;rw[← hid,← hid'] at e;have:=hn.inj d hd d' hd' e;subst this;omega
  rw[List.Nodup,zj6] at h2;exact (h1.and h2).imp fun ⟨h3,h4⟩=>by omega
 ·obtain ⟨x,hx,rfl⟩:=(hmem x').1 hx';exact (kr h t hc hx).2
 ·have hd:c.dim=1:=hd;have h1:=hf.one hd;unfold lQ at h1 ⊢;rw[kX ((dB t c).map aj.sign),zi1];rw[gn (g:=aj.sign) (K:=sgn (fY t c)) fun x hx=>?_,h1,Int.mul_zero];have h2:=(kr (k:=k) h t hc hx).1;have h3:fD t c x.cell=false:=by unfold fD; simp[hd]
  rw[h3] at h2;show (aX k t c x).sign=_;rw[h2];unfold sgn;simp
theorem ns {c:Cl}(hc:c∈l){x:aj}(hx:x∈c.sides){e:Cl}(he:e∈l):lX (aa (l.map (aB k t))) (aX k t c x) (dh e.id k)=lX l x e.id:=by
 obtain ⟨d,hd,hid,hfd,_⟩:=eo h c hc hx;unfold lX ax;rw[hfd,show (aX k t c x).cell=dh d.id k by rw[hid]; rfl,ks h hn t hd];show ((cg (aB k t d)).sides.filter _).length=_;rw[((dB t d).filter _).length_eq,List.filter_map,ze2];congr 1;refine List.filter_congr fun q hq=>?_;obtain ⟨u,hu,hui,_⟩:=eo h d hd hq;show decide (dh q.cell k=dh e.id k)=decide (q.cell=e.id);rw[decide_eq_decide,← hui];by_cases hue:u=e
 ·subst hue; simp
 ·have h1:¬ dh u.id k=dh e.id k:=fun e'=>hue (hn.inj u hu e he e');have h2:¬ u.id=e.id:=fun e'=>hue (by have a1:=h.find hu; have a2:=h.find he; rw[e',a2] at a1; injection a1 with a1; exact a1.symm);simp[h1,h2]
theorem lv {c:Cl}(hc:c∈l){x:aj}(hx:x∈c.sides){r:Int}(hr:∀ e∈l,dh e.id k≠r):lX (aa (l.map (aB k t))) (aX k t c x) r=0:=by
 obtain ⟨d,hd,hid,hfd,_⟩:=eo h c hc hx;unfold lX ax;rw[show (aX k t c x).cell=dh d.id k by rw[hid]; rfl,ks h hn t hd];show ((cg (aB k t d)).sides.filter _).length=_;rw[((dB t d).filter _).length_eq,List.length_eq_zero_iff,List.filter_eq_nil_iff];intro q' hq';obtain ⟨q,hq,rfl⟩:=ze7.1 hq';obtain ⟨u,hu,hui,_⟩:=eo h d hd hq;have:=hr u hu;rw[hui] at this;show ¬ decide (dh q.cell k=r)=true;simpa using this
theorem vM {c:Cl}(hc:c∈l)(hd1:c.dim>1){x:aj}(hx:x∈c.sides){e:Cl}(he:e∈l) :
  inner (aa (l.map (aB k t))) (aX k t c x) (dh e.id k)=sgn (fY t c) * sgn ((decide (t>1)&&decide (c.dim - 1>1))&&decide (e.id.tmod t=1)) * inner l x e.id:=by
 obtain ⟨d,hd,hid,hfd,hdd⟩:=eo h c hc hx;have hsx:=(kr (k:=k) h t hc hx).1;unfold inner ax;rw[hfd,show (aX k t c x).cell=dh d.id k by rw[hid]; rfl,ks h hn t hd];show ((cg (aB k t d)).sides.map _).sum=_;rw[kX ((dB t d).map _),zi1];show _=_ * (d.sides.map _).sum;refine gn fun q hq=>?_;obtain ⟨u,hu,hui,_⟩:=eo h d hd hq;have hsq:=(kr (k:=k) h t hd hq).1;simp only[Function.comp_def];show (if dh q.cell k=dh e.id k then (aX k t c x).sign * (aX k t d q).sign else 0)=_;by_cases hue:u=e
 ·subst hue;rw[hui,zf6 rfl,zf6 rfl,hsx,hsq];have h1:fD t c x.cell=fY t d:=by
   unfold fD fY;rw[hid];simp[hd1]
  have h2:fD t d q.cell=((decide (t>1)&&decide (c.dim - 1>1))&&decide (q.cell.tmod t=1)):=by
   unfold fD;rw[hdd]
  rw[h1,h2];generalize fY t d=b1;generalize fY t c=b2;generalize ((decide (t>1)&&decide (c.dim - 1>1))&&decide (q.cell.tmod t=1))=b3;cases b1 <;> cases b2 <;> cases b3 <;> simp[sgn,Int.neg_mul,Int.mul_neg]
 ·have h1:¬ dh q.cell k=dh e.id k:=fun e'=>hue (hn.inj u hu e he (by rw[hui]; exact e'));have h2:¬ q.cell=e.id:=fun e'=>hue (by have a1:=h.find hu; have a2:=h.find he; rw[hui,e',a2] at a1; injection a1 with a1; exact a1.symm);rw[zf5 h1,zf5 h2,Int.mul_zero]
omit h hn in
theorem xF {tl:List Cl}{x:aj}{r:Int}(h0:lX tl x r=0):inner tl x r=0:=by
 unfold lX at h0;rw[List.length_eq_zero_iff,List.filter_eq_nil_iff] at h0;unfold inner;have:((ax tl x).map fun q=>if q.cell=r then x.sign * q.sign else 0)=(ax tl x).map fun _=>(0:Int):=zc4 fun q hq=>zf5 (by simpa using h0 q hq);rw[this];generalize ax tl x=m;induction m with
 | nil=>rfl
 | cons a b ih=>simpa using ih
theorem td {c:Cl}(hc:c∈l)(hd1:c.dim>1):cd (aa (l.map (aB k t))) (cg (aB k t c))=0:=by
 have hf:=h.form c hc;have hf':=rQ h hn t hc;have hn0:0<c.sides.length:=by
  have:=hf.cnt;simp[aK] at this;have:=this.2 hd1;omega
 have hlen:(cg (aB k t c)).sides.length=c.sides.length:=by rw[(dB t c).length_eq,ze2]
 have nd:∀ {c:Cl},(c.sides.Pairwise fun a b=>a.cell<b.cell)→(c.sides.map aj.cell).Nodup:=fun h=>by
  rw[List.Nodup,zj6];exact h.imp fun h=>by omega
 obtain ⟨a1,a2,a3⟩:=(m8 hn0 (nd hf.asc)).1 (h.around c hc hd1);refine (m8 (by rw[hlen]; exact hn0) (nd hf'.asc)).2 ⟨fun r=>?_,fun r=>?_,fun x' hx' y' hy'=>?_⟩
 ·rw[vA (dB t c),gU,zi1];simp only[Function.comp_def];by_cases hr:∃ e∈l,dh e.id k=r
  ·obtain ⟨e,he,rfl⟩:=hr;have h1:=a1 e.id;rw[gU] at h1;rw[gn (g:=fun x=>inner l x e.id) (K:=sgn (fY t c) * sgn ((decide (t>1)&&decide (c.dim - 1>1))&&decide (e.id.tmod t=1))) fun x hx=>vM h hn t hc hd1 hx he,h1,Int.mul_zero]
  ·have hr:∀ e∈l,dh e.id k≠r:=fun e he e'=>hr ⟨e,he,e'⟩;rw[gn (g:=fun _=>(0:Int)) (K:=0) fun x hx=>by
    rw[xF (lv h hn t hc hx hr)];rfl,Int.zero_mul]
 ·rw[ws (dB t c)];unfold rC;rw[zi1];simp only[Function.comp_def];by_cases hr:∃ e∈l,dh e.id k=r
  ·obtain ⟨e,he,rfl⟩:=hr;have h1:=a2 e.id;unfold rC at h1;rw[zc4 (g:=fun x=>lX l x e.id) fun x hx=>ns h hn t hc hx he];exact h1
  ·have hr:∀ e∈l,dh e.id k≠r:=fun e he e'=>hr ⟨e,he,e'⟩;left;rw[zc4 (g:=fun _=>0) fun x hx=>lv h hn t hc hx hr];generalize c.sides=m;induction m with
   | nil=>rfl
   | cons a b ih=>simpa using ih
 ·have hmem:∀ x',x'∈(cg (aB k t c)).sides↔x'∈c.sides.map (aX k t c):=fun x'=>(dB t c).mem_iff;obtain ⟨x,hx,rfl⟩:=ze7.1 ((hmem x').1 hx');obtain ⟨y,hy,rfl⟩:=ze7.1 ((hmem y').1 hy');have hm:∀ x∈c.sides,aX k t c x∈(cg (aB k t c)).sides:=fun x hx=>(hmem _).2 (ze7.2 ⟨x,hx,rfl⟩);refine (a3 x hx y hy).map (f:=fun a=>dh a k) fun a b=>?_;rintro ⟨u,hu,v,hv,rfl,rfl,r,h1,h2⟩;obtain ⟨du,hdu,hidu,hfu,_⟩:=eo h c hc hu;have hr:∃ e∈l,e.id=r:=by
   unfold lX ax at h1;rw[hfu] at h1;obtain ⟨q,hq⟩:=List.exists_mem_of_length_pos h1;obtain ⟨hq1,hq2⟩:=zg9.1 hq;obtain ⟨e,he,hei,_⟩:=eo h du hdu (x:=q) hq1;exact⟨e,he,by rw[hei]; simpa using hq2⟩
  obtain ⟨e,he,rfl⟩:=hr;exact .one ⟨_,hm u hu,_,hm v hv,I,I,dh e.id k,by rw[ns h hn t hc hu he]; exact h1,by rw[ns h hn t hc hv he]; exact h2⟩
theorem vL:Rt (aa (l.map (aB k t))):=by
 refine⟨by rw[aw,ze2]; exact h.few,?_,fun x' hx'=>?_,fun x' hx'=>?_,fun x' hx' hd=>?_⟩
 ·have h1:=fW (l.map (aB k t));have h2:=oK h hn t;rw[zj6] at h1;rw[List.Nodup,zj6] at h2;exact (h1.and h2).imp fun ⟨h3,h4⟩=>by omega
 ·obtain ⟨c,hc,rfl⟩:=nf t hx';exact hn.pos c hc
 ·obtain ⟨c,hc,rfl⟩:=nf t hx';exact rQ h hn t hc
 ·obtain ⟨c,hc,rfl⟩:=nf t hx';exact td h hn t hc hd
end
def Bd (l:List Cl):Prop:=∀ c∈l,c.id≤l.length
theorem uL (ls:List (List Int)):Rt (bA ls)∧Bd (bA ls):=by
 have h1:=jZ (l:=bA ls) (by rw[lr]);have h2:aa (bA ls)=bA ls:=by
  unfold bA;cases aJ [] ls with
  | none=>rfl
  | some all=>exact eK _
 rw[h2] at h1;refine⟨h1,?_⟩;unfold bA;cases h:aJ [] ls with
 | none=>intro c hc; simp at hc
 | some all =>
  obtain ⟨hg,_⟩:=eX ls [] h e7.nil (by simp);dsimp only;rw[hg.cells];intro c hc;obtain ⟨s,hs,rfl⟩:=ze7.1 hc;have:=(zf1.1 (hg.get_lb hs)).1;show ixC all s≤_;unfold ixC;rw[ze2];omega
theorem yo {l:List Int}{x:Int}(h:x∈l):lbI l x<l.length:=by
 unfold lbI;induction l with
 | nil=>simp at h
 | cons a r ih =>
  rw[zi2]
  rcases ze6.1 h with rfl | h
  ·have:=zc1 (fun y=>decide (y<x)) r;simp;omega
  ·have:=ih h;split
   ·simp only[ze4]; omega
   ·simp only[ze4]; omega
theorem pZ (a b:List Cl):Rt (bH a b)∧Bd (bH a b)∧(bH a b).length≤a.length * b.length:=by
 rw[xq];unfold yQ;split
 ·exact⟨⟨by simp,List.Pairwise.nil,by simp,by simp,by simp⟩,fun c hc=>by simp at hc,by simp⟩
 ·rename_i hbad;split
  ·rename_i hok;have hlen:(aa (cm a b)).length=a.length * b.length:=by
    rw[aw];unfold cm;rw[fI,aw,aw]
   refine⟨jZ hok,fun c hc=>?_,by rw[hlen]; exact lR _⟩;rw[hlen];obtain ⟨h1,h2,_⟩:=tg (by simpa using hbad);have ta:=a8 (cf (jf h1)).1;have tb:=a8 (cf (jf h2)).1;obtain ⟨d,hd,rfl⟩:=ze7.1 hc;have hd:=(dP _ _).1 hd;unfold cm at hd;rw[ta,tb] at hd;obtain ⟨x,hx,hd⟩:=List.mem_flatMap.1 hd;obtain ⟨y,hy,rfl⟩:=ze7.1 hd;have l1:=yo (ze7.2 ⟨x,hx,rfl⟩:x.id∈(aa a).map Cl.id);have l2:=yo (ze7.2 ⟨y,hy,rfl⟩:y.id∈(aa b).map Cl.id);rw[ze2,aw] at l1 l2;show aO (aa a) (aa b) x.id y.id≤_;unfold aO;rw[aw];have h3:(lbI ((aa a).map Cl.id) x.id+1) * b.length≤a.length * b.length:=Nat.mul_le_mul_right _ l1;rw[Nat.succ_mul] at h3;have h4:((lbI ((aa a).map Cl.id) x.id * b.length:Nat):Int)=(lbI ((aa a).map Cl.id) x.id:Int) * (b.length:Int):=Int.natCast_mul _ _;rw[← h4];omega
  ·exact⟨⟨by simp,List.Pairwise.nil,by simp,by simp,by simp⟩,fun c hc=>by simp at hc,by simp⟩
theorem th:∀ n,n<7→2≤n→(aU (qG n)).2=0∧∀ c∈qG n,c.id≤90:=by decide +kernel
theorem iG:∀ (ls acc:List (List Int)) {all:List (List Int)},aJ acc ls=some all→(∀ x∈ls,x.length≤2)→all.length≤acc.length+3 * ls.length
 | [],acc,all,h,_=>by cases h; simp
 | s::r,acc,all,h,hl=>by
  have hs:=hl s (by simp);have h3:(bG s).length≤s.length:=by
   unfold bG;exact zk1 (iD _ _) (by rw[eW]; exact lR _)
  simp only[ze4];unfold aJ at h;split at h
  ·have:=iG r acc h fun x hx=>hl x (by simp[hx]);omega
  ·split at h
   ·cases h
   ·have h1:=iG r _ h fun x hx=>hl x (by simp[hx]);have h2:(dg acc (bG s)).length≤acc.length+3:=by
     unfold dg;refine zk1 (iD _ _) ?_;rw[(fj _).length_eq,ze1];have:2 ^ (bG s).length≤2 ^ 2:=Nat.pow_le_pow_right dC oM;simp[bg];omega
    omega
theorem m0:(bA [[0,1],[1,2],[0,2]]).length≤9:=by
 unfold bA;cases h:aJ [] [[0,1],[1,2],[0,2]] with
 | none=>simp
 | some all =>
  have:=iG _ _ h dC;dsimp only;rw[aw,be];simpa using this
theorem uM (m:Int)(ls:List (List Int))(y:Int):Rt (nW (nP m ls y))∧∀ c∈nW (nP m ls y),c.id≤90:=by
 have key:∀ l:List Cl,Rt l→(l.length≤45→∀ c∈l,c.id≤90)→Rt (nW l)∧∀ c∈nW l,c.id≤90:=by
  intro l h1 h2;unfold nW;split
  ·have h3:=pZ (bA [[0,1],[1,2],[0,2]]) (bA [[0,1],[1,2],[0,2]]);refine⟨h3.1,fun c hc=>?_⟩;have h4:=h3.2.1 c hc;have h5:=h3.2.2;have h6:me.length≤9 * 9:=zk1 h5 (Nat.mul_le_mul m0 m0);have h7:c.id≤me.length:=h4;omega
  ·exact⟨h1,h2 oM⟩
 have hS:∀ ls,Rt (nW (bA ls))∧∀ c∈nW (bA ls),c.id≤90:=fun ls=>key _ (uL ls).1 fun hl c hc=>by have:=(uL ls).2 c hc; omega
 have hP:∀ a b,Rt (nW (bH a b))∧∀ c∈nW (bH a b),c.id≤90:=fun a b=>key _ (pZ a b).1 fun hl c hc=>by have:=(pZ a b).2.1 c hc; omega
 have h5:=aR y 5 dC dC;unfold nP
 repeat' split
 ·exact hS _
 ·exact hP _ _
 ·have h6:=th (2+aG y 5).toNat oM oM;have h7:=jZ h6.1;rw[show aa (qG (2+aG y 5).toNat)=qG (2+aG y 5).toNat from eK _] at h7;exact key _ h7 fun _=>h6.2
 ·exact hP _ _
 ·exact hS _
 ·exact hS _
theorem zq:∀ k∈[1,3,5],∀ a,a<91→∀ b,b<91→dh (a:Nat) k=dh (b:Nat) k→a=b:=by decide +kernel
theorem zo:∀ k∈[1,3,5],∀ a,a<91→0<a→0<dh (a:Nat) k:=by decide +kernel
theorem mP (kd:Int)(ls:List (List Int))(y:Int):Rt (iS kd ls y):=by
 obtain ⟨h1,h2⟩:=uM (aG kd 8) ls y;have hk:uf y∈[(1:Int),3,5]:=by
  have:=aR (IntKind.i64.wrap (y.tdiv 7)) 3 dC dC;unfold uf;generalize aG (IntKind.i64.wrap (y.tdiv 7)) 3=q at *
  rcases (by omega:q=0∨q=1∨q=2) with rfl | rfl | rfl <;> decide
 refine vL h1 ⟨fun a ha b hb e=>?_,fun a ha=>?_⟩ _
 ·have p1:=h1.pos a ha;have p2:=h1.pos b hb;have q1:=h2 a ha;have q2:=h2 b hb;have e1:((a.id.toNat:Nat):Int)=a.id:=Int.toNat_of_nonneg oM;have e2:((b.id.toNat:Nat):Int)=b.id:=Int.toNat_of_nonneg oM;have:=zq _ hk a.id.toNat oM b.id.toNat oM (by rw[e1,e2]; exact e);have hid:a.id=b.id:=oM;have f1:=h1.find ha;have f2:=h1.find hb;rw[hid,f2] at f1;injection f1 with f1
  exact f1.symm
 ·have p1:=h1.pos a ha;have q1:=h2 a ha;have e1:((a.id.toNat:Nat):Int)=a.id:=Int.toNat_of_nonneg oM;have:=zo _ hk a.id.toNat oM oM;rw[e1] at this;exact this
theorem Ac:∀ k∈[1,3,5],∀ a,a<91→dh (a:Nat) k≤300:=by decide +kernel
theorem xB (kd:Int)(ls:List (List Int))(y:Int):∀ c∈iS kd ls y,cN c.id:=by
 intro c hc;have h0:=(mP kd ls y).pos c hc;obtain ⟨h1,h2⟩:=uM (aG kd 8) ls y;have hk:uf y∈[(1:Int),3,5]:=by
  have:=aR (IntKind.i64.wrap (y.tdiv 7)) 3 dC dC;unfold uf;generalize aG (IntKind.i64.wrap (y.tdiv 7)) 3=q at *
  rcases (by omega:q=0∨q=1∨q=2) with rfl | rfl | rfl <;> decide
 obtain ⟨a,ha,rfl⟩:=nf (zM y) hc;have p1:=h1.pos a ha;have q1:=h2 a ha;have e1:((a.id.toNat:Nat):Int)=a.id:=Int.toNat_of_nonneg oM;have:=Ac _ hk a.id.toNat oM;rw[e1] at this;have h3:(cg (aB (uf y) (zM y) a)).id=dh a.id (uf y):=rfl;rw[h3] at h0 ⊢;unfold cN;omega
end Go.Proofs.YtcfkpajlakidbaaGreat
namespace Go.Sy
open Go
structure Md where
 ro:Option Nat
 ds:List Deferred
def wf (ro:Option Nat):Fence:={ fn:=fun _=>True,depth:=none,alive:=false,round:=ro }
section
variable {P:Program}{M:Md}{N:Nat}{E:World}{Q:Exit→Act→World→Prop}{f f':Fr}{g g':PH}{s s':Own}{ops:Array Oper}
end
section
variable {P:Program}{M:Md}{N:Nat}{E:World}{Q:Exit→Act→World→Prop}{f:Fr}{g:PH}{s:Own}{dst:Option Tmp}{ty:TypeId}{pos:String}{af:Array Edge}{gd:Option (Nat×Bool)}
end
end Go.Sy
namespace Go.Proofs.YtcfkpajlakidbaaGreat
open _root_.Go.Proofs.Tryz _root_.Go.Proofs.YtcfkpajlakidbaaGreat.Tryz
open Go Go.Sy Go.Pl Go.Proofs
set_option maxRecDepth 100000
set_option maxHeartbeats 1000000
def pW:List Cl→Int→Int
 | [],m=>m
 | c::r,m=>pW r (max m c.dim)
def um (l:List Cl):Int:=pW (ae l) (-1)
theorem lz (c:Cl):∀ (l:List Cl) (m:Int),pW (l++[c]) m=max (pW l m) c.dim
 | [],_=>rfl
 | _::r,_=>lz c r _
theorem SU.maxI {P:Program}{N:Nat}{f:Fr}{dst:Option Tmp}{ty:TypeId}{pos:String}{af:Array Edge}{gd:Option (Nat×Bool)}{x y:Operand}{T U:TypeId}{m n:Int}(hx:ev f x=some (vi m))(hy:ev f y=some (vi n)) :
  SU P N ⟨dst,.call ⟨.builtin .max,#[x,y],#[T,U]⟩,ty,pos,af,gd⟩ f (vi (max m n)):=fun a w ha=>by
 have h:=run_max_int2 (P:=P) (w:=w) #[T,U] ty .i64 .i64 m n;have h2:(if m<n then n else m)=max m n:=by split <;> omega
 rw[h2] at h;simp[execOp,resolve,invoke,builtin,ha.ev hx,ha.ev hy,h]
end Go.Proofs.YtcfkpajlakidbaaGreat
namespace Go.Sy
open Go
section
variable {α:Type}{k:Nat}{P:Program}{N:Nat}{E:World}{f:Fr}{g:PH}{s:Own}{dst:Option Tmp}{ty:TypeId}{pos:String}{af:Array Edge}{gd:Option (Nat×Bool)}
end
end Go.Sy
namespace Go.Sy
open Go
section
variable {P:Program}{N:Nat}{f:Fr}{dst:Option Tmp}{ty:TypeId}{pos:String}{af:Array Edge}{gd:Option (Nat×Bool)}
theorem SU.or {x y:Operand}{T U:TypeId}{k:IntKind}{m n:Int}(hx:ev f x=some (.int k m))(hy:ev f y=some (.int k n)) :
  SU P N ⟨dst,.binOp .or T x y U,ty,pos,af,gd⟩ f (.int k (k.wrap (BitVec.ofInt k.bits m ||| BitVec.ofInt k.bits n).toNat)):=fun a w ha=>by
 simp only[execOp,ha.ev hx,ha.ev hy,eqGuard,binOp,ne_eq,not_true_eq_false,if_false,Op.intBits]; rfl
end
end Go.Sy
namespace Go.Proofs.YtcfkpajlakidbaaGreat
open _root_.Go.Proofs.Tryz _root_.Go.Proofs.YtcfkpajlakidbaaGreat.Tryz
open Go Go.Sy Go.Pl Go.Proofs
set_option maxRecDepth 100000
set_option maxHeartbeats 1000000
theorem vX {l m:List Cl}(h:l.Perm m):∀ a,pW l a=pW m a:=by
 induction h with
 | nil=>exact fun _=>rfl
 | cons x _ ih=>exact fun a=>ih _
 | swap x y l=>intro a; simp only[pW]; congr 1; omega
 | trans _ _ h1 h2=>exact fun a=>(h1 a).trans (h2 a)
theorem sk (E:World)(g:PH)(s:Own)(v:Value)(l:List Cl)(hv:au g v l)(hf:di l) :
  Ctr Tryz.prog E 32 #[.agg #[v]] g s (fun r g' s'=>r=vi (um l)∧s=s'∧Le g g'):=by
 have hft:=kW hf;have hfl:=hft.1;refine za9 (args:=[.agg #[v]]) func32 I ntmps32 (bE I) ?_;refine rZ (bW (bO I) fun b1=>?_);refine aT I (rZ (aT I (sQ (rZ (lK (qV 0 bh az I I I) (lW (cL call50 I (p4 E g _ v l hv hf)) ?_))))));rintro tv g1 _ ⟨rfl,hle,ht⟩;have htab:=ht;obtain ⟨b,m,iv,rs,rfl,hb,hm,hI,hall⟩:=ht;obtain ⟨es,clk,hes,hmi⟩:=hm;refine lU (nC I) (lU (fA l7 I sizeOf98 I) (lK (qL isAgg98 I (cK hb I)) (lW (SO.range underlying98 I hes) ?_)));rintro _ _ _ ⟨it,rfl,rfl,rfl⟩;refine tZ (bK ?_);have hlen:=hall.length;refine oP (ι:=List MapEntry×List (Int×Value)×List Cl) (fun i=>[(3,vi (pW i.2.2 (-1))),(11,pp it 0)]) (fun _=>g1)
  (fun i=>i6 it m es clk i.1::pt b1 (.cells #[v] 30 (0,0))::s)
  (fun i=>nY (rs.map cI) es i.1 i.2.1∧(∀ c∈i.2.2,c∈ae l)∧i.2.1.map Prod.fst=i.2.2.map Cl.id) (fun i=>rs.length - i.2.1.length)
  ([],[],[]) sB rfl rfl ⟨nY.nil _ _,by simp,rfl⟩ ?_
 rintro ⟨vis,vl,vc⟩ ⟨hrv,hvs,hvl⟩;dsimp only at hrv hvs hvl ⊢;have hvle:=hrv.len hmi;simp only[ze2] at hvle;have hvcl:vl.length=vc.length:=by have:=zd7 List.length hvl; simpa using this
 refine rZ (lW (SO.nextP 0 I I hes hmi hrv) ?_);rintro _ _ _ ⟨rfl,hcase⟩
 rcases hcase with ⟨rfl,rfl,hperm⟩ | ⟨e,pr,he,hp1,hk1,hv1,hrv2,rfl,rfl⟩
 ·have hp:=pA hvl hvs (my l) hall hperm;refine yX I (tZ (sQ (cF I (xI (tX (tX (bX (tN (sW I (aT I (rE (dR (s':=s) uR ?_))))))))))));exact za6 (.inl I) results32 I ⟨by rw[vX hp]; rfl,rfl,hle⟩
 ·obtain ⟨x,hx,rfl⟩:=ze7.1 hp1;obtain ⟨cx,hcm,hcx⟩:=xZ hall hx;have hvs2:∀ c∈vc++[cx],c∈ae l:=fun c hc=>by
   rcases ze8.1 hc with h | h
   ·exact hvs c h
   ·simp at h; rw[h]; exact hcm
  have hvl2:(vl++[cI x]).map Prod.fst=(vc++[cx]).map Cl.id:=by rw[zg1,zg1,hvl]; simp[cI,hcx.1]
  have hm2:=hrv2.len hmi;simp only[ze2,ze1,ze3] at hm2;obtain ⟨xi,xd,xv⟩:=x;have hxd:xd=cx.dim:=hcx.2.1;subst hxd;have hmx:=lz cx vc (-1);refine yX I (tZ (sQ (cT I (kP (tN (bK (rZ (lK (SQ.entryP 0 I I hes hmi he hk1 hv1) (yX I (bW (aL zk8) fun b5=>?_))))))))));refine oZ (sK 0 aC I I I I I sB) ?_;refine tZ (rG (lM I (lU (fA am I zT3 I) (lK (qL iT3 I (cO 0 I I)) (lU (SU.eq (v':=vi (pW (vc++[cx]) (-1))) (SU.maxI I I) (zd7 vi hmx.symm)) (lA I (nL (bN (dR (s':=i6 it m es clk (vis++[e])::pt b1 (.cells #[v] 30 (0,0))::s) (.cons _ (.refl _)) ?_)))))))));exact gA (vis++[e],vl++[cI ⟨xi,cx.dim,xv⟩],vc++[cx]) sB I I ⟨hrv2,hvs2,hvl2⟩ lN
theorem qZ {A:List Cl}{ids:List Int}{x:Int}(h:x∈iX A ids):∃ c∈A,c.id=x:=by
 obtain ⟨c,hc,e⟩:=lb h;exact⟨c,hc,e⟩
theorem wZ (l:List Cl):((ae l).map Cl.id).Pairwise (· < ·):=by
 have h1:=fH l;have h2:=my l;have h3:=h1.and h2;exact h3.imp fun h=>by omega
theorem og (l:List Cl)(ids:List Int):ei l ids=((ae l).filter fun c=>(iX (ae l) ids).contains c.id).map Cl.id:=by
 unfold ei;refine fM ?_ ?_ fun x=>?_
 ·have h2:=gH (iX (ae l) ids);have h3:(dj (iX (ae l) ids)).Nodup:=(jI _).symm.nodup (lG _ _);exact (h2.and h3).imp fun ⟨h4,h5⟩=>by omega
 ·exact ((wZ l)).sublist (List.filter_sublist.map _)
 ·rw[(jI _).mem_iff,ze7];constructor
  ·intro hx;obtain ⟨c,hc,rfl⟩:=qZ hx;exact⟨c,zg9.2 ⟨hc,by simpa using hx⟩,I⟩
  ·rintro ⟨c,hc,rfl⟩;simpa using (zg9.1 hc).2
def i4 (l:List Cl):Prop:=∀ c∈l,cN c.id
theorem i4.pick {l:List Cl}(h:i4 l)(n:Int):cN (cu l n).id:=by
 unfold cu;rw[zg6];cases hc:l[(aG n l.length).toNat]? with
 | none=>exact⟨by decide,by decide⟩
 | some c=>exact h c (zf7 hc)
theorem i4.set {l:List Cl}(h:i4 l)(k:Nat){c:Cl}(hc:cN c.id):i4 (l.set k c):=fun d hd=>by
 rcases List.mem_or_eq_of_mem_set hd with hd | rfl
 ·exact h d hd
 ·exact hc
theorem i4.snoc {l:List Cl}(h:i4 l){c:Cl}(hc:cN c.id):i4 (l++[c]):=fun d hd=>by
 rcases ze8.1 hd with hd | hd
 ·exact h d hd
 ·simp at hd; subst hd; exact hc
theorem wg {p:Prop}[Decidable p]{a b:List Cl}(ha:i4 a)(hb:i4 b):i4 (if p then a else b):=by split <;> assumption
theorem sZ {l:List Cl}(h:i4 l)(q0 q1 q2:Int)(h1:cN q1):i4 (ir l q0 q1 q2):=by
 unfold ir;split
 ·intro c hc;simp at hc;subst hc;exact h1
 ·have hx:=h.pick q1;have h9:=iM q2 9 dC dC;have h3:=iM q2 3 dC dC;generalize cu l q1=x at *;generalize aG q0 13=m;unfold oh
  repeat' with_reducible refine wg ?_ ?_
  ·exact h.set _ (c:=⟨_,_,x.sides⟩) ⟨by dsimp only; omega,by dsimp only; omega⟩
  ·exact h.set _ (c:=⟨_,_,x.sides⟩) hx
  ·exact fun c hc=>h c (List.mem_of_mem_eraseIdx hc)
  ·exact h.set _ hx
  ·exact h.set _ hx
  ·exact h.set _ hx
  ·exact h.set _ hx
  ·exact h.set _ hx
  ·exact h.snoc (c:=x) hx
  ·exact h.set _ hx
  ·exact h.set _ hx
  ·exact h.snoc (c:=⟨_,_,x.sides⟩) ⟨by dsimp only; omega,by dsimp only; omega⟩
  ·exact h
open Go.ChangeShapes Go.WideShapes Go.ChangeAt Go.RowKit
set_option maxRecDepth 100000
section
variable {H:Type}{enc:TypeId×Value→H}{W:World}{base:Nat}{spare:Nat→Bool}{hd:Bool}
theorem uu {n:Int}(h:(Lit.int .i64 n).wf=true):cN n:=by
 have h2:IntKind.i64.min≤n∧n≤IntKind.i64.max:=by simpa [Lit.wf] using h
 have e1:IntKind.i64.min = -9223372036854775808:=by decide
 have e2:IntKind.i64.max=9223372036854775807:=by decide
 unfold cN;omega
theorem wY {fuel:Nat}{c0 c1 c2:Value}{x:DataW H×List MemPlace}(h:DataW.trod enc Tryz.prog W base spare hd fuel 35 [c0,c1,c2]=some x):∃ a b c:Int,c0=vi a∧c1=vi b∧c2=vi c∧cN a∧cN b∧cN c:=by
 obtain ⟨y0,y1,y2,n,_,h0,h1,h2⟩:=trod_array3 jA cells3 h;obtain ⟨a,e0,_,w0⟩:=DataW.trod_int uT3 h0;obtain ⟨b,e1,_,w1⟩:=DataW.trod_int uT3 h1;obtain ⟨c,e2,_,w2⟩:=DataW.trod_int uT3 h2;simp at e0 e1 e2;exact⟨a,b,c,e0,e1,e2,uu w0,uu w1,uu w2⟩
end
end Go.Proofs.YtcfkpajlakidbaaGreat
namespace Go.Sy
open Go Go.MapKept
section
variable {P:Program}{w:World}{t kt et ty:TypeId}{z:Value}{b:Nat}{es:Array MapEntry}{clk:Nat}{l:List (Int×Value)}
end
section
variable {P:Program}{N:Nat}{E:World}{ops:Array Oper}{Q:Exit→Act→World→Prop}{f:Fr}{g:PH}{s:Own}{dst:Option Tmp}{ty:TypeId}{pos:String}{af:Array Edge}{gd:Option (Nat×Bool)}
variable {t kt et:TypeId}{z:Value}{b:Nat}{l:List (Int×Value)}{x y:Operand}{k:Int}
end
end Go.Sy
namespace Go.Sy
open Go
section
variable {P:Program}{N:Nat}{E:World}{f:Fr}{g:PH}{s:Own}{dst:Option Tmp}{ty:TypeId}{pos:String}{af:Array Edge}{gd:Option (Nat×Bool)}
theorem SQ.sof {o:Oper}{v:Value}(h:SQ P N E o f g s v):SO P N E o f g s fun v' g' s'=>v'=v∧g=g'∧s=s':=SO.mono h.so fun _ _ _ ⟨h1,h2,h3⟩=>⟨h1,h2.symm,h3.symm⟩
theorem SQ.loadOne {x:Operand}{T:TypeId}{b o:Nat}{v:Value}(hT:∀ w,(isAgg T).run P w = .ok true w)(hk:∀ w,(sizeOf T).run P w = .ok 1 w)(hx:ev f x=some (pp b o))(hc:dN g s ⟨b,o,none⟩ v) :
  SQ P N E ⟨dst,.load T x,ty,pos,af,gd⟩ f g s (.agg #[v]) :=
 SQ.loadAggAt (vs:=[v]) hT hk hx rfl fun j u hu=>by
  cases j with
  | zero=>simp at hu; subst hu; exact hc
  | succ j=>simp at hu
end
section
variable {α:Type}{k:Nat}{P:Program}{N:Nat}{E:World}{f:Fr}{g:PH}{s:Own}{dst:Option Tmp}{ty:TypeId}{pos:String}{af:Array Edge}{gd:Option (Nat×Bool)}
end
section
variable {P:Program}{N:Nat}{E:World}{f:Fr}{g:PH}{s:Own}{fn:Func}{R:Value→PH→Own→Prop}{e:Exit}
end
end Go.Sy
namespace Go.Sy
open Go Go.MapKept
instance quiet_scope {Q:Exit→Act→World→Prop}[h:Quiet Q]:Quiet (Exit.noGoto Q):=⟨fun c a a' w hd hq=>h.out c a a' w hd hq⟩
section
variable {P:Program}{N:Nat}{E:World}{Q:Exit→Act→World→Prop}{f:Fr}{g:PH}{s:Own}
theorem SC.scope {c:Code}(h:SC P N E c (Exit.noGoto Q) f g s):SC P N E (.scope c) Q f g s:=fun a w ha hw=>wp_scope_straight (h a w ha hw)
theorem ST.scopeR (h:ST N E Q .ret f g s):ST N E (Exit.noGoto Q) .ret f g s:=h
end
end Go.Sy
