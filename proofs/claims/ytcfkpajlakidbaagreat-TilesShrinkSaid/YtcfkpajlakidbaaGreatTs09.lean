/- 9 -/
import Derived.Test.YtcfkpajlakidbaaGreatTs05
import Derived.Test.YtcfkpajlakidbaaGreatTs07
import Derived.Test.YtcfkpajlakidbaaGreatTs08
import Derived.SizedLaws
import Derived.Test.YtcfkpajlakidbaaGreatTs06
import Derived.Test.YtcfkpajlakidbaaGreatTs04
import Derived.RangeFuncLeaves
import Derived.RangeFuncRecord
import Derived.RangeFuncSeq
import Derived.OrdersIn
import Derived.TacticsIn
import Derived.Laws.BytesString
import Derived.Laws.Strings
import Derived.Test.YtcfkpajlakidbaaGreatTs02
import Derived.Test.YtcfkpajlakidbaaGreatTs03
import Derived.Scope
set_option linter.unusedSimpArgs false
set_option linter.unusedVariables false
namespace Go.Proofs.YtcfkpajlakidbaaGreat
open _root_.Go.Proofs.Tryz _root_.Go.Proofs.YtcfkpajlakidbaaGreat.Tryz
open Go Go.Sy Go.Pl Go.Proofs
def wd (L:List (Int×List ai)):List (Int×Int):=L.foldl (fun zl p=>p.2.foldl (fun zl r=>fV zl r.cell (p.1 * r.sign)) zl) []
def Bb (L:List (Int×List ai)):List (Int×List Int):=L.zipIdx.foldl (fun ml p=>p.1.2.foldl (dU p.2) ml) []
def kl (L:List (Int×List ai)):Int :=
 if (wd L).any (fun p=>decide (p.2≠0)) then 24
 else if (Bb L).any (fun p=>decide ((p.2.length:Int)≠2)) then 25
 else if ((iq (cC (Bb L))).length:Int)≠L.length then 25 else 0
def nu (tl:List Cl)(c:Cl):List (Int×List ai):=c.sides.map fun x=>(x.sign,ao tl x)
theorem yR (tl:List Cl)(c:Cl):cf tl c=kl (nu tl c):=by
 have h1:fZ tl c.sides=wd (nu tl c):=by
  unfold fZ wd nu;rw[List.foldl_map];rfl
 have h2:dQ tl c.sides=Bb (nu tl c):=by
  unfold dQ Bb nu;rw[List.zipIdx_map,List.foldl_map];rfl
 have h3:(nu tl c).length=c.sides.length:=by simp[nu]
 unfold cf kl;rw[h1,h2,h3]
def y9 (φ:Int→Int)(r:ai):ai:=⟨φ r.cell,r.sign⟩
def tE (φ:Int→Int)(L:List (Int×List ai)):List (Int×List ai):=L.map fun p=>(p.1,p.2.map (y9 φ))
def wn (L:List (Int×List ai)):List Int:=L.flatMap fun p=>p.2.map ai.cell
def jV {α:Type}(φ:Int→Int)(zl:List (Int×α)):List (Int×α):=zl.map fun p=>(φ p.1,p.2)
section
variable {φ:Int→Int}{K:Int→Prop}(hφ:∀ a b,K a→K b→φ a=φ b→a=b)
include hφ
theorem AC {zl:List (Int×Int)}{k:Int}(x:Int)(hz:∀ p∈zl,K p.1)(hk:K k):fV (jV φ zl) (φ k) x=jV φ (fV zl k x):=by
 induction zl with
 | nil=>rfl
 | cons p r ih =>
  obtain ⟨a,z⟩:=p;have ha:=hz (a,z) (by simp);simp only[jV,zf7,fV] at ih ⊢;by_cases h:k=a
  ·subst h; simp
  ·rw[zf3 h,zf3 fun e=>h (hφ k a hk ha e)];simp only[zf7];rw[ih fun p hp=>hz p (by simp[hp])]
theorem AG {zl:List (Int×List Int)}{k:Int}(x:Int)(hz:∀ p∈zl,K p.1)(hk:K k):eX (jV φ zl) (φ k) x=jV φ (eX zl k x):=by
 induction zl with
 | nil=>rfl
 | cons p r ih =>
  obtain ⟨a,z⟩:=p;have ha:=hz (a,z) (by simp);simp only[jV,zf7,eX] at ih ⊢;by_cases h:k=a
  ·subst h; simp
  ·rw[zf3 h,zf3 fun e=>h (hφ k a hk ha e)];simp only[zf7];rw[ih fun p hp=>hz p (by simp[hp])]
omit hφ in
theorem AE {zl:List (Int×Int)}{k x:Int}(hz:∀ p∈zl,K p.1)(hk:K k):∀ p∈fV zl k x,K p.1:=by
 induction zl with
 | nil=>intro p hp; simp[fV] at hp; subst hp; exact hk
 | cons q r ih =>
  obtain ⟨a,z⟩:=q;have ha:=hz (a,z) (by simp);intro p hp;simp only[fV] at hp;split at hp
  ·rcases ze4.1 hp with rfl | hp
   ·exact ha
   ·exact hz p (by simp[hp])
  ·rcases ze4.1 hp with rfl | hp
   ·exact ha
   ·exact ih (fun p hp=>hz p (by simp[hp])) p hp
omit hφ in
theorem AH {zl:List (Int×List Int)}{k x:Int}(hz:∀ p∈zl,K p.1)(hk:K k):∀ p∈eX zl k x,K p.1:=by
 induction zl with
 | nil=>intro p hp; simp[eX] at hp; subst hp; exact hk
 | cons q r ih =>
  obtain ⟨a,z⟩:=q;have ha:=hz (a,z) (by simp);intro p hp;simp only[eX] at hp;split at hp
  ·rcases ze4.1 hp with rfl | hp
   ·exact ha
   ·exact hz p (by simp[hp])
  ·rcases ze4.1 hp with rfl | hp
   ·exact ha
   ·exact ih (fun p hp=>hz p (by simp[hp])) p hp
theorem qi (t:Int):∀ (l:List ai) (zl:List (Int×Int)),(∀ r∈l,K r.cell)→(∀ p∈zl,K p.1) →
  (l.map (y9 φ)).foldl (fun zl r=>fV zl r.cell (t * r.sign)) (jV φ zl)=jV φ (l.foldl (fun zl r=>fV zl r.cell (t * r.sign)) zl)∧∀ p∈l.foldl (fun zl r=>fV zl r.cell (t * r.sign)) zl,K p.1
 | [],zl,_,hz=>⟨rfl,hz⟩
 | r::l,zl,hl,hz=>by
  have hr:=hl r (by simp);have:=qi t l (fV zl r.cell (t * r.sign)) (fun q hq=>hl q (by simp[hq])) (AE hz hr);simp only[zf7,zi1];rw[show (y9 φ r).cell=φ r.cell from rfl,show (y9 φ r).sign=r.sign from rfl,AC hφ _ hz hr];exact this
theorem ug (t:Int):∀ (l:List ai) (zl:List (Int×List Int)),(∀ r∈l,K r.cell)→(∀ p∈zl,K p.1) →
  (l.map (y9 φ)).foldl (dU t) (jV φ zl)=jV φ (l.foldl (dU t) zl)∧∀ p∈l.foldl (dU t) zl,K p.1
 | [],zl,_,hz=>⟨rfl,hz⟩
 | r::l,zl,hl,hz=>by
  have hr:=hl r (by simp);have:=ug t l (eX zl r.cell t) (fun q hq=>hl q (by simp[hq])) (AH hz hr);simp only[zf7,zi1];rw[show dU t (jV φ zl) (y9 φ r)=jV φ (eX zl r.cell t) from AG hφ _ hz hr];exact this
theorem tJ:∀ (L:List (Int×List ai)) (zl:List (Int×Int)),(∀ k∈wn L,K k)→(∀ p∈zl,K p.1) →
  (tE φ L).foldl (fun zl p=>p.2.foldl (fun zl r=>fV zl r.cell (p.1 * r.sign)) zl) (jV φ zl)=jV φ (L.foldl (fun zl p=>p.2.foldl (fun zl r=>fV zl r.cell (p.1 * r.sign)) zl) zl)
 | [],_,_,_=>rfl
 | p::L,zl,hl,hz=>by
  obtain ⟨h1,h2⟩:=qi hφ p.1 p.2 zl (fun r hr=>hl _ (List.mem_flatMap.2 ⟨p,by simp,ze5.2 ⟨r,hr,rfl⟩⟩)) hz;simp only[tE,zf7,zi1] at h1 ⊢;rw[h1];exact tJ L _ (fun k hk=>hl k (by simp only[wn,zg8,ze6]; exact .inr hk)) h2
theorem wU:∀ (L:List (Int×List ai)) (i:Nat) (zl:List (Int×List Int)),(∀ k∈wn L,K k)→(∀ p∈zl,K p.1) →
  ((tE φ L).zipIdx i).foldl (fun ml p=>p.1.2.foldl (dU p.2) ml) (jV φ zl)=jV φ ((L.zipIdx i).foldl (fun ml p=>p.1.2.foldl (dU p.2) ml) zl)
 | [],_,_,_,_=>rfl
 | p::L,i,zl,hl,hz=>by
  obtain ⟨h1,h2⟩:=ug hφ i p.2 zl (fun r hr=>hl _ (List.mem_flatMap.2 ⟨p,by simp,ze5.2 ⟨r,hr,rfl⟩⟩)) hz;simp only[tE,zf7,List.zipIdx_cons,zi1] at h1 ⊢;rw[h1];exact wU L (i+1) _ (fun k hk=>hl k (by simp only[wn,zg8,ze6]; exact .inr hk)) h2
end
theorem xx {α:Type}(φ:Int→Int)(zl:List (Int×α))(q:α→Bool):(jV φ zl).any (fun p=>q p.2)=zl.any (fun p=>q p.2):=by
 simp only[jV,List.any_map];rfl
theorem Aa (φ:Int→Int)(ml:List (Int×List Int)):cC (jV φ ml)=cC ml:=by
 simp only[cC,jV,List.foldl_map];rfl
theorem tz {φ:Int→Int}{L:List (Int×List ai)}(hφ:∀ a∈wn L,∀ b∈wn L,φ a=φ b→a=b):kl (tE φ L)=kl L:=by
 have h1:wd (tE φ L)=jV φ (wd L):=tJ (K:=fun k=>k∈wn L) (fun a b ha hb=>hφ a ha b hb) L [] (fun _ h=>h) (by simp);have h2:Bb (tE φ L)=jV φ (Bb L):=wU (K:=fun k=>k∈wn L) (fun a b ha hb=>hφ a ha b hb) L 0 [] (fun _ h=>h) (by simp);unfold kl;rw[h1,h2,xx φ _ fun z=>decide (z≠0),xx φ _ fun l:List Int=>decide ((l.length:Int)≠2),Aa];have h3:(tE φ L).length=L.length:=by simp[tE]
 rw[h3]
def code (k q:Nat):Int:=if q<k then ((q * 16+k:Nat):Int) else ((k * 16+(q+1):Nat):Int)
def Cv (n:Nat):List (Int×List ai):=(List.range n).reverse.map fun k:Nat=>(cu k,(List.range (n - 1)).reverse.map fun q:Nat=>⟨code k q,cu q⟩)
theorem BJ:∀ n,n<10→2<n→kl (Cv n)=0:=by decide +kernel
theorem gv (b:Nat)(a:Int)(l:List Int):dL b (a::l)=(if b % 2=1 then [a] else [])++dL (b / 2) l:=by
 unfold dL;have hz:∀ (l:List Int) (i:Nat),((l.zipIdx (i+1)).filter fun p=>b / 2 ^ p.2 % 2 == 1).map (·.1)=((l.zipIdx i).filter fun p=>b / 2 / 2 ^ p.2 % 2 == 1).map (·.1):=by
  intro l;induction l with
  | nil=>intro i; rfl
  | cons x r ih =>
   intro i;have hp:b / 2 ^ (i+1)=b / 2 / 2 ^ i:=by rw[Nat.pow_succ,Nat.mul_comm,Nat.div_div_eq_div_mul]
   simp only[List.zipIdx_cons,zh9,hp];have:=ih (i+1);split
   ·simp only[zf7,this]
   ·exact this
 simp only[List.zipIdx_cons,zh9,Nat.pow_zero,Nat.div_one];by_cases h:b % 2=1
 ·simp only[h,if_true,beq_self_eq_true,zf7];rw[hz l 0];rfl
 ·have h2:(b % 2 == 1)=false:=by simpa using h
  simp only[h,h2,if_false,Bool.false_eq_true];rw[hz l 0];rfl
theorem xX (l:List Int):∀ b,(dL b l).Sublist l:=by
 induction l with
 | nil=>intro b; exact .slnil
 | cons a r ih =>
  intro b;rw[gv];split
  ·exact (ih _).cons_cons a
  ·exact (ih _).cons a
theorem zQ (l:List Int):∀ b,b≠0→b<2 ^ l.length→dL b l≠[]:=by
 induction l with
 | nil=>intro b h0 h; simp at h; exact absurd h h0
 | cons a r ih =>
  intro b h0 h;rw[gv];split
  ·simp
  ·rename_i h1;rw[ze2,Nat.pow_succ] at h;simpa using ih (b / 2) oM oM
theorem sJ {x l:List Int}(h:x.Sublist l):∃ b,b<2 ^ l.length∧dL b l=x:=by
 induction h with
 | slnil=>exact⟨0,by simp,rfl⟩
 | cons a _ ih =>
  obtain ⟨b,hb,e⟩:=ih;refine⟨2 * b,by rw[ze2,Nat.pow_succ]; omega,?_⟩;rw[gv,zf3 oM,show 2 * b / 2=b by omega,e];rfl
 | cons_cons a _ ih =>
  obtain ⟨b,hb,e⟩:=ih;refine⟨2 * b+1,by rw[ze2,Nat.pow_succ]; omega,?_⟩;rw[gv,zf4 oM,show (2 * b+1) / 2=b by omega,e];rfl
theorem fL (t x:List Int):x∈bk t↔x.Sublist t∧x≠[]:=by
 unfold bk;constructor
 ·intro h;obtain ⟨i,hi,rfl⟩:=ze5.1 h;have:=List.mem_range.1 hi;exact⟨xX _ _,zQ _ _ oM oM⟩
 ·rintro ⟨h,hne⟩;obtain ⟨b,hb,rfl⟩:=sJ h;have h0:b≠0:=fun e=>by
   subst e;apply hne;have:∀ l:List Int,dL 0 l=[]:=by
    intro l;induction l with
    | nil=>rfl
    | cons a r ih=>rw[gv]; simpa using ih
   exact this t
  exact ze5.2 ⟨b - 1,List.mem_range.2 oM,by rw[show b - 1+1=b by omega]⟩
structure fW (all:List (List Int)):Prop where
 strict:dP all
 form:∀ s∈all,s≠[]∧cW s∧s.length≤9
 faces:∀ s∈all,2≤s.length→∀ k,k<s.length→s.eraseIdx k∈all
theorem fW.nil:fW []:=⟨List.Pairwise.nil,by simp,by simp⟩
theorem fW.add {all:List (List Int)}{t:List Int}(h:fW all)(ht:cW t)(hl:t.length≤9):fW (dE all t):=by
 refine⟨jq all t,fun s hs=>?_,fun s hs h2 k hk=>?_⟩
 ·rcases (fz all t s).1 hs with h1 | h1
  ·exact h.form s h1
  ·obtain ⟨h2,h3⟩:=(fL t s).1 h1;exact⟨h3,ht.sublist h2,zj5 h2.length_le hl⟩
 ·refine (fz all t _).2 ?_
  rcases (fz all t s).1 hs with h1 | h1
  ·exact .inl (h.faces s h1 h2 k hk)
  ·refine .inr ((fL t _).2 ⟨(List.eraseIdx_sublist s k).trans ((fL t s).1 h1).1,fun e=>?_⟩);have:=zd5 List.length e;rw[List.length_eraseIdx] at this;simp[hk] at this;omega
theorem fM:∀ (ls acc:List (List Int)) {all:List (List Int)},az acc ls=some all→fW acc→acc.length≤4000→fW all∧all.length≤4000
 | [],acc,all,h,hg,hl=>by cases h; exact⟨hg,hl⟩
 | s::r,acc,all,h,hg,hl=>by
  unfold az at h;split at h
  ·exact fM r acc h hg hl
  ·rename_i hb;split at h
   ·cases h
   ·rename_i hlen;refine fM r _ h (hg.add (jy s) ?_) oM;cases hc:bI s with
    | nil=>simp
    | cons a q =>
     rw[hc] at hb;simp[ir] at hb;simp;omega
section
variable {all:List (List Int)}(hg:fW all)
include hg
theorem fW.get_lb {t:List Int}(ht:t∈all):all[lbL all t]?=some t:=by
 obtain ⟨h1,h2⟩:=mw t hg.strict.srt;have hs:dP (all.take (lbL all t)++all.drop (lbL all t)):=by rw[zi3]; exact hg.strict
 have hd:=(List.pairwise_append.1 hs).2.1;have hm:t∈all.drop (lbL all t):=by
  have:t∈all.take (lbL all t)++all.drop (lbL all t):=by rw[zi3]; exact ht
  rcases ze6.1 this with h | h
  ·have:=h1 t h;rw[bM] at this;exact absurd this dC
  ·exact h
 have e:all[lbL all t]?=(all.drop (lbL all t))[0]?:=by simp
 rw[e];cases hc:all.drop (lbL all t) with
 | nil=>rw[hc] at hm; simp at hm
 | cons y r =>
  rw[hc] at hm hd h2
  rcases ze4.1 hm with rfl | hm
  ·rfl
  ·exact absurd ((zj2.1 hd).1 t hm) (h2 y (by simp))
theorem fW.lb_get {k:Nat}(hk:k<all.length):lbL all all[k]=k:=by
 have h1:=hg.get_lb (gM hk);obtain ⟨h2,h3⟩:=ze8.1 h1;have hself:¬ ah all[k] all[k]<0:=by rw[bM]; decide
 rcases Nat.lt_trichotomy (lbL all all[k]) k with h | h | h
 ·have:=zc5.1 hg.strict _ _ h2 hk h;rw[h3] at this;exact absurd this hself
 ·exact h
 ·have:=zc5.1 hg.strict _ _ hk h2 h;rw[h3] at this;exact absurd this hself
end
def ixC (all:List (List Int))(t:List Int):Int:=((lbL all t:Nat):Int)+1
theorem fW.inj {all:List (List Int)}(hg:fW all){t u:List Int}(ht:t∈all)(hu:u∈all)(h:ixC all t=ixC all u):t=u:=by
 have h1:=hg.get_lb ht;have h2:=hg.get_lb hu;have:lbL all t=lbL all u:=by unfold ixC at h; omega
 rw[this,h2] at h1;injection h1 with h1
 exact h1.symm
theorem fW.lt {all:List (List Int)}(hg:fW all){t u:List Int}(ht:t∈all)(hu:u∈all)(h:ah t u<0):ixC all t<ixC all u:=by
 obtain ⟨i1,e1⟩:=ze8.1 (hg.get_lb ht);obtain ⟨i2,e2⟩:=ze8.1 (hg.get_lb hu);unfold ixC
 rcases Nat.lt_trichotomy (lbL all t) (lbL all u) with h1 | h1 | h1
 ·omega
 ·have:t=u:=hg.inj ht hu (by unfold ixC; omega);subst this;rw[bM] at h;exact absurd h dC
 ·have:=zc5.1 hg.strict _ _ i2 i1 h1;rw[e1,e2] at this;exact absurd h (gg this)
def eD (all:List (List Int))(s:List Int):List ai:=if s.length≤1 then [] else (List.range s.length).reverse.map fun k:Nat=>⟨ixC all (s.eraseIdx k),cu k⟩
def gK (all:List (List Int))(s:List Int):Cl:=⟨ixC all s,(s.length:Int) - 1,eD all s⟩
theorem uy {s:List Int}(hs:cW s):∀ {i j:Nat},i<j→j<s.length→ah (s.eraseIdx j) (s.eraseIdx i)<0:=by
 induction s with
 | nil=>intro i j _ h; simp at h
 | cons a r ih =>
  intro i j hij hj;obtain ⟨h1,h2⟩:=zj2.1 hs;cases j with
  | zero=>omega
  | succ j =>
   simp only[ze2] at hj;cases i with
   | zero =>
    cases r with
    | nil=>simp at hj
    | cons b q =>
     have hab:=h1 b (by simp);have hl:((a::b::q).eraseIdx (j+1)).length=((a::b::q).eraseIdx 0).length:=by
      simp[List.length_eraseIdx] at hj ⊢;omega
     rw[fh hl];simp only[List.eraseIdx_cons_succ,List.eraseIdx_cons_zero,fE];have:kO a b = -1:=by unfold kO; rw[zf4 hab]
     simp[this]
   | succ i =>
    have h3:=ih h2 (i:=i) (j:=j) oM oM;have hl:(r.eraseIdx j).length=(r.eraseIdx i).length:=by
     rw[List.length_eraseIdx,List.length_eraseIdx,zf4 oM,zf4 oM]
    have hl2:((a::r).eraseIdx (j+1)).length=((a::r).eraseIdx (i+1)).length:=by simp[hl]
    rw[fh hl] at h3;rw[fh hl2];simp only[List.eraseIdx_cons_succ,fE];have:kO a a=0:=by unfold kO; rw[zf3 oM,zf3 oM]
    simpa [this] using h3
theorem lx {A:List Cl}(h:(A.map Cl.id).Nodup){x:Cl}(hx:x∈A):aO A x.id=some x:=by
 induction A with
 | nil=>simp at hx
 | cons c t ih =>
  simp only[zf7,zj1] at h;unfold aO
  rcases ze4.1 hx with rfl | hx
  ·simp
  ·have hne:¬ c.id=x.id:=fun e=>h.1 (by rw[e]; exact ze5.2 ⟨x,hx,I⟩);rw[List.find?_cons];simp only[hne,decide_false];exact ih h.2 hx
theorem vA (c:Cl):aI (aI c)=aI c:=by
 unfold aI;rw[← dD (df c.sides) (aF.refl _)]
theorem fy (l:List Cl):aa (aa l)=aa l:=by
 have h1:sortBy Cl.id (aa l)=aa l:=(dD (gw l) (aF.refl _)).symm;show (sortBy Cl.id (aa l)).map aI=aa l;rw[h1];unfold aa;rw[zh8];exact zc4 fun c _=>vA c
theorem zu {α:Type}{key:α→Int}{l:List α}(h:l.Pairwise fun a b=>key b<key a):sortBy key l=l.reverse:=by
 refine (dD ?_ ⟨by simp,fun c=>?_⟩).symm
 ·unfold Srt;rw[List.pairwise_reverse];exact h.imp fun h=>by omega
 ·rw[List.filter_reverse];have:∀ m:List α,m.Pairwise (fun a b=>key b<key a)→(∀ a∈m,(key a == c)=true)→m.reverse=m:=by
   intro m hm hc
   match m,hm,hc with
   | [],_,_=>rfl
   | [_],_,_=>rfl
   | a::b::r,hm,hc =>
    have h1:=(zj2.1 hm).1 b (by simp);have h2:=hc a (by simp);have h3:=hc b (by simp);simp at h2 h3;omega
  exact this _ (h.sublist List.filter_sublist) fun a ha=>(zg7.1 ha).2
section
variable {all:List (List Int)}(hg:fW all)
include hg
theorem fW.face {s:List Int}(hs:s∈all){k:Nat}(hk:k<s.length)(h2:2≤s.length):s.eraseIdx k∈all∧(s.eraseIdx k).length=s.length - 1 :=
 ⟨hg.faces s hs h2 k hk,by rw[List.length_eraseIdx,zf4 hk]⟩
theorem fW.sides {s:List Int}(hs:s∈all):sortBy ai.cell (aM all s s.length)=eD all s:=by
 have hne:=(hg.form s hs).1;have hst:=(hg.form s hs).2.1;by_cases h1:s.length≤1
 ·have h0:s.length=1:=by have:=List.length_pos_iff.2 hne; omega
  unfold eD;rw[zf4 h1,h0];have:eC all s 0=[]:=by
   unfold eC;have h3:(s.eraseIdx 0).length=0:=by rw[List.length_eraseIdx,zf4 oM]; omega
   rw[zf3 oM]
  simp[aM,List.range_succ,this,sortBy]
 ·have h2:2≤s.length:=oM;have e:aM all s s.length=(List.range s.length).map fun k:Nat=>(⟨ixC all (s.eraseIdx k),cu k⟩:ai):=by
   unfold aM;rw[List.flatMap_def];have:(List.range s.length).map (eC all s)=(List.range s.length).map fun k:Nat=>[(⟨ixC all (s.eraseIdx k),cu k⟩:ai)]:=zc4 fun k hk=>by
    have hk:=List.mem_range.1 hk;unfold eC;rw[(hg.face hs hk h2).2,zf4 oM];rfl
   rw[this];generalize List.range s.length=R;induction R with
   | nil=>rfl
   | cons x r ih=>simp only[zf7,List.flatten_cons,ih]; rfl
  unfold eD;rw[zf3 h1,e,List.map_reverse];refine zu ?_;rw[zj3];refine List.Pairwise.imp_of_mem ?_ (List.pairwise_lt_range (n:=s.length));intro i j hi hj hij;have hi:=List.mem_range.1 hi;have hj:=List.mem_range.1 hj;exact hg.lt (hg.face hs hj h2).1 (hg.face hs hi h2).1 (uy hst hij hj)
theorem fW.cells:aa (aV all)=all.map (gK all):=by
 rw[ow];apply List.ext_getElem?;intro k;simp only[zh3];by_cases hk:k<all.length
 ·rw[ib hk,gE hk];simp only[Option.map_some,zg1];unfold aI lj gK;simp only[hg.sides (gM hk),ixC,hg.lb_get hk]
 ·rw[List.getElem?_eq_none (by rw[bg]; omega),List.getElem?_eq_none oM];rfl
theorem fW.ids:((all.map (gK all)).map Cl.id).Pairwise (· < ·):=by
 rw[zh8,zj3];refine List.Pairwise.imp_of_mem ?_ hg.strict;intro a b ha hb h;exact hg.lt ha hb h
theorem fW.find {s:List Int}(hs:s∈all):aO (all.map (gK all)) (ixC all s)=some (gK all s) :=
 lx (x:=gK all s) (hg.ids.imp fun h=>by omega) (ze5.2 ⟨s,hs,rfl⟩)
end
theorem xK (k:Nat):cu k=1∨cu k = -1:=by unfold cu; omega
theorem oh {all:List (List Int)}{s:List Int}(h:2≤s.length){i:Nat}(hi:i<s.length):(eD all s)[i]?=some ⟨ixC all (s.eraseIdx (s.length - 1 - i)),cu ((s.length - 1 - i:Nat):Int)⟩:=by
 unfold eD;rw[zf3 oM,zh3,List.getElem?_reverse (by simpa using hi)];simp only[zh7];rw[List.getElem?_range oM];rfl
theorem pO {all:List (List Int)}{s:List Int}:(eD all s).length=if s.length≤1 then 0 else s.length:=by
 unfold eD;split <;> simp
section
variable {all:List (List Int)}(hg:fW all)
include hg
theorem fW.formOk {s:List Int}(hs:s∈all):bT (all.map (gK all)) (gK all s)=0:=by
 obtain ⟨hne,hst,h9⟩:=hg.form s hs;have hp:=List.length_pos_iff.2 hne;have hlen:(gK all s).sides.length=if s.length≤1 then 0 else s.length:=pO
 have hdim:(gK all s).dim=(s.length:Int) - 1:=rfl;have h1:eE (gK all s)=false:=by unfold eE; rw[hdim]; simp; omega
 have h2:aw (gK all s)=false:=by
  unfold aw;rw[hdim,hlen];split
  ·simp; omega
  ·simp; omega
 have h3:(List.range (gK all s).sides.length).any (gS (all.map (gK all)) (gK all s))=false:=by
  rw[zj4];intro i hi;have hi:=List.mem_range.1 hi;rw[hlen] at hi;split at hi
  ·omega
  ·rename_i hl;have h2:2≤s.length:=oM;have hgi:=oh (all:=all) h2 hi;have hf:=hg.face hs (k:=s.length - 1 - i) oM h2;unfold gS;rw[show (gK all s).sides[i]?=_ from hgi];show ¬ bJ _ _ i ⟨ixC all (s.eraseIdx (s.length - 1 - i)),_⟩=true;unfold bJ;dsimp only;rw[hg.find hf.1];have hd:(gK all (s.eraseIdx (s.length - 1 - i))).dim=(gK all s).dim - 1:=by
    show ((s.eraseIdx (s.length - 1 - i)).length:Int) - 1=(s.length:Int) - 1 - 1;rw[hf.2];omega
   simp only[Option.isSome_some,Bool.not_true,Bool.false_or,Option.getD_some,hd,ne_eq,not_true_eq_false,decide_false];by_cases hi0:i>0
   ·have hgp:=oh (all:=all) h2 (i:=i - 1) oM;rw[show (gK all s).sides[i - 1]?=_ from hgp];have hf2:=hg.face hs (k:=s.length - 1 - (i - 1)) oM h2;have:=hg.lt hf2.1 hf.1 (uy hst oM oM);simp;omega
   ·simp[hi0]
 have h4:(gK all s).sides.any bq=false:=by
  rw[zj4];intro x hx;show ¬ bq x=true;have hx:x∈eD all s:=hx;unfold eD at hx;split at hx
  ·simp at hx
  ·obtain ⟨k,_,rfl⟩:=ze5.1 hx
   rcases xK k with h | h <;> simp[bq,h]
 have h5:(decide ((gK all s).dim=1)&&decide (km (gK all s).sides≠0))=false:=by
  by_cases hd:(gK all s).dim=1
  ·rw[hdim] at hd;have hl2:s.length=2:=oM;have:km (gK all s).sides=0:=by
    show km (eD all s)=0;unfold eD;rw[zf3 oM,hl2];simp[List.range_succ,km,cu]
   rw[this];simp
  ·simp[hd]
 unfold bT;rw[h1,h2,h3,h4,h5];rfl
end
theorem vM (s:List Int):∀ {k q:Nat},k≤q→(s.eraseIdx k).eraseIdx q=(s.eraseIdx (q+1)).eraseIdx k:=by
 induction s with
 | nil=>intro k q _; rfl
 | cons a r ih =>
  intro k q h;cases k with
  | zero=>simp
  | succ k =>
   cases q with
   | zero=>omega
   | succ q =>
    simp only[List.eraseIdx_cons_succ];rw[ih oM]
theorem n8 {s:List Int}(hs:s.Nodup){a b i:Nat}(hab:a<b)(hb:b<s.length)(hi:i<s.length):s[i]∈(s.eraseIdx b).eraseIdx a↔i≠a∧i≠b:=by
 have hinj:∀ {j k:Nat} (hj:j<s.length) (hk:k<s.length),s[j]=s[k]→j=k:=fun {j k} hj hk e=>by
  rcases Nat.lt_trichotomy j k with h | h | h
  ·exact absurd e (zc5.1 hs j k hj hk h)
  ·exact h
  ·exact absurd e.symm (zc5.1 hs k j hk hj h)
 rw[List.mem_eraseIdx_iff_getElem];constructor
 ·rintro ⟨j,hj1,hj2,e⟩;have hj1':=hj1;rw[List.length_eraseIdx,zf4 hb] at hj1';rw[List.getElem_eraseIdx] at e;split at e
  ·have:=hinj _ _ e;omega
  ·have:=hinj _ _ e;omega
 ·rintro ⟨h1,h2⟩
  rcases Nat.lt_or_ge i b with h | h
  ·refine⟨i,by rw[List.length_eraseIdx,zf4 hb]; omega,h1,?_⟩;rw[List.getElem_eraseIdx,dif_pos h]
  ·refine⟨i - 1,by rw[List.length_eraseIdx,zf4 hb]; omega,oM,?_⟩;rw[List.getElem_eraseIdx,dif_neg oM];congr 1;omega
theorem vN {s:List Int}(hs:s.Nodup){a b c d:Nat}(hab:a<b)(hb:b<s.length)(hcd:c<d)(hd:d<s.length)(h:(s.eraseIdx b).eraseIdx a=(s.eraseIdx d).eraseIdx c):a=c∧b=d:=by
 have key:∀ i,i<s.length→((i≠a∧i≠b)↔(i≠c∧i≠d)):=fun i hi=>by
  rw[← n8 hs hab hb hi,← n8 hs hcd hd hi,h]
 have ha:=key a oM;have hb':=key b hb;have hc:=key c oM;have hd':=key d hd;omega
def CV (all:List (List Int))(s:List Int)(c:Int):Int:=ixC all ((s.eraseIdx (c % 16).toNat).eraseIdx (c / 16).toNat)
theorem xk {n k q:Nat}(hk:k<n)(hq:q<n - 1):∃ a b:Nat,a<b∧b<n∧code k q=((a * 16+b:Nat):Int)∧((q<k∧a=q∧b=k)∨(k≤q∧a=k∧b=q+1)):=by
 unfold code;by_cases h:q<k
 ·rw[zf4 h]; exact⟨q,k,h,hk,I,.inl ⟨h,I,I⟩⟩
 ·rw[zf3 h]; exact⟨k,q+1,oM,oM,I,.inr ⟨oM,I,I⟩⟩
theorem iL {a b:Nat}(h:b<16):((((a * 16+b:Nat):Int) % 16).toNat=b)∧((((a * 16+b:Nat):Int) / 16).toNat=a):=oM
section
variable {all:List (List Int)}(hg:fW all)
include hg
theorem fW.aroundOk {s:List Int}(hs:s∈all)(h3:2<s.length):cf (all.map (gK all)) (gK all s)=0:=by
 obtain ⟨hne,hst,h9⟩:=hg.form s hs;have hnd:s.Nodup:=hst.imp fun h=>by omega
 have hE:∀ a b,a<b→b<s.length→(s.eraseIdx b).eraseIdx a∈all:=fun a b hab hb=>by
  have h1:=hg.face hs (k:=b) hb oM;exact (hg.face h1.1 (k:=a) (by rw[h1.2]; omega) (by rw[h1.2]; omega)).1
 have hlook:nu (all.map (gK all)) (gK all s)=tE (CV all s) (Cv s.length):=by
  unfold nu tE Cv;show (eD all s).map _=_;unfold eD;rw[zf3 oM,zh8,zh8];refine zc4 fun k hk=>?_;have hk:k<s.length:=by simpa using hk
  have hf:=hg.face hs hk oM;simp only[Function.comp_def];congr 1;unfold ao;rw[hg.find hf.1];show eD all (s.eraseIdx k)=_;unfold eD;rw[hf.2,zf3 oM,zh8];refine zc4 fun q hq=>?_;have hq:q<s.length - 1:=by simpa using hq
  obtain ⟨a,b,hab,hb,hc,hcase⟩:=xk hk hq;simp only[Function.comp_def,y9];congr 1;unfold CV;rw[hc,(iL (a:=a) (b:=b) oM).1,(iL (a:=a) (b:=b) oM).2]
  rcases hcase with ⟨_,rfl,rfl⟩ | ⟨h,rfl,rfl⟩
  ·rfl
  ·rw[vM s h]
 rw[yR,hlook,tz,BJ _ oM h3];have hkey:∀ x∈wn (Cv s.length),∃ a b:Nat,a<b∧b<s.length∧x=((a * 16+b:Nat):Int):=by
  intro x hx;obtain ⟨p,hp,hx⟩:=List.mem_flatMap.1 hx;obtain ⟨k,hk,rfl⟩:=ze5.1 hp;obtain ⟨r,hr,rfl⟩:=ze5.1 hx;obtain ⟨q,hq,rfl⟩:=ze5.1 hr;obtain ⟨a,b,hab,hb,hc,_⟩:=xk (n:=s.length) (k:=k) (q:=q) (by simpa using hk) (by simpa using hq);exact⟨a,b,hab,hb,hc⟩
 intro x hx y hy h;obtain ⟨a,b,hab,hb,rfl⟩:=hkey x hx;obtain ⟨c,d,hcd,hd,rfl⟩:=hkey y hy;unfold CV at h;rw[(iL (a:=a) (b:=b) oM).1,(iL (a:=a) (b:=b) oM).2,(iL (a:=c) (b:=d) oM).1,(iL (a:=c) (b:=d) oM).2] at h;obtain ⟨rfl,rfl⟩:=vN hnd hab hb hcd hd (hg.inj (hE a b hab hb) (hE c d hcd hd) h);rfl
end
theorem qS {tl:List Cl}:∀ {l:List Cl} {n:Int},(∀ x∈l,n<x.id)→l.Pairwise (fun a b=>a.id<b.id)→(∀ x∈l,bT tl x=0)→fU tl l n=none
 | [],_,_,_,_=>rfl
 | x::r,n,h1,h2,h3=>by
  have hx:=h1 x (by simp);obtain ⟨h4,h5⟩:=zj2.1 h2;unfold fU;rw[zf3 oM,zf3 (by rw[h3 x (by simp)]; simp)];exact qS h4 h5 fun y hy=>h3 y (by simp[hy])
theorem qR {tl:List Cl}:∀ {l:List Cl},(∀ x∈l,x.dim>1→cf tl x=0)→lH tl l=none
 | [],_=>rfl
 | x::r,h=>by
  unfold lH;rw[zf3 fun ⟨h1,h2⟩=>h2 (h x (by simp) h1)];exact qR fun y hy=>h y (by simp[hy])
theorem uE {l:List Cl}(h0:l.length≤4000)(h1:∀ x∈aa l,0<x.id)(h2:(aa l).Pairwise fun a b=>a.id<b.id)(h3:∀ x∈aa l,bT (aa l) x=0)(h4:∀ x∈aa l,x.dim>1→cf (aa l) x=0):a6 l=(0,0):=by
 unfold a6;rw[zf3 oM,a8 h2,qS h1 h2 h3,qR h4];rfl
theorem mX (ls:List (List Int)):a6 (bA ls)=(0,0):=by
 unfold bA;cases h:az [] ls with
 | none=>rfl
 | some all =>
  obtain ⟨hg,hl⟩:=fM ls [] h fW.nil (by simp);dsimp only;have hc:aa (aa (aV all))=all.map (gK all):=by rw[fy,hg.cells]
  have hi:=hg.ids;rw[zj3] at hi;refine uE (by rw[hg.cells]; simpa using hl) ?_ ?_ ?_ ?_ <;> rw[hc]
  ·intro x hx;obtain ⟨s,_,rfl⟩:=ze5.1 hx;show 0<ixC all s;unfold ixC;omega
  ·exact hi
  ·intro x hx;obtain ⟨s,hs,rfl⟩:=ze5.1 hx;exact hg.formOk hs
  ·intro x hx hd;obtain ⟨s,hs,rfl⟩:=ze5.1 hx;refine hg.aroundOk hs ?_;have:(s.length:Int) - 1>1:=hd;omega
open Go.ChangeShapes Go.WideShapes Go.ChangeAt Go.RowKit
set_option maxRecDepth 100000
section
variable {H:Type}{enc:TypeId×Value→H}{W:World}{base:Nat}{spare:Nat→Bool}{hd:Bool}
end
inductive Cn (E:Int→Int→Prop):Int→Int→Prop
 | refl (a:Int):Cn E a a
 | step {a b c:Int} (h:E a b∨E b a) (r:Cn E b c):Cn E a c
theorem Cn.trans {E:Int→Int→Prop}{a b c:Int}(h:Cn E a b)(k:Cn E b c):Cn E a c:=by
 induction h with
 | refl _=>exact k
 | step h _ ih=>exact .step h (ih k)
theorem Cn.one {E:Int→Int→Prop}{a b:Int}(h:E a b):Cn E a b:=.step (.inl h) (.refl b)
theorem Cn.symm {E:Int→Int→Prop}{a b:Int}(h:Cn E a b):Cn E b a:=by
 induction h with
 | refl _=>exact .refl _
 | step h _ ih=>exact ih.trans (.step h.symm (.refl _))
theorem Cn.mono {E E':Int→Int→Prop}(h:∀ a b,E a b→Cn E' a b){a b:Int}(hc:Cn E a b):Cn E' a b:=by
 induction hc with
 | refl _=>exact .refl _
 | step e _ ih =>
  rcases e with e | e
  ·exact (h _ _ e).trans ih
  ·exact (h _ _ e).symm.trans ih
theorem Cn.iso {E:Int→Int→Prop}{a b:Int}(h:∀ b,¬ E a b∧¬ E b a)(hc:Cn E a b):a=b:=by
 cases hc with
 | refl _=>rfl
 | step e _ =>
  rcases e with e | e
  ·exact absurd e (h _).1
  ·exact absurd e (h _).2
theorem Cn.add {E E':Int→Int→Prop}{x y:Int}(h:∀ a b,E' a b↔E a b∨(a=x∧b=y))(a b:Int):Cn E' a b↔Cn E a b∨(Cn E a x∧Cn E y b)∨(Cn E a y∧Cn E x b):=by
 have hxy:Cn E' x y:=.one ((h x y).2 (.inr ⟨rfl,rfl⟩));have hm:∀ {a b:Int},Cn E a b→Cn E' a b:=fun hc=>hc.mono fun a b e=>.one ((h a b).2 (.inl e));constructor
 ·intro hc;induction hc with
  | refl _=>exact .inl (.refl _)
  | step e _ ih =>
   have key:∀ {p q r:Int},Cn E p q→(Cn E q r∨(Cn E q x∧Cn E y r)∨(Cn E q y∧Cn E x r))→Cn E p r∨(Cn E p x∧Cn E y r)∨(Cn E p y∧Cn E x r):=by
    rintro p q r h1 (h2 | ⟨h2,h3⟩ | ⟨h2,h3⟩)
    ·exact .inl (h1.trans h2)
    ·exact .inr (.inl ⟨h1.trans h2,h3⟩)
    ·exact .inr (.inr ⟨h1.trans h2,h3⟩)
   rcases e with e | e
   ·rcases (h _ _).1 e with e | ⟨rfl,rfl⟩
    ·exact key (.one e) ih
    ·rcases ih with h2 | ⟨_,h3⟩ | ⟨_,h3⟩
     ·exact .inr (.inl ⟨.refl _,h2⟩)
     ·exact .inr (.inl ⟨.refl _,h3⟩)
     ·exact .inl h3
   ·rcases (h _ _).1 e with e | ⟨rfl,rfl⟩
    ·exact key (Cn.one e).symm ih
    ·rcases ih with h2 | ⟨_,h3⟩ | ⟨_,h3⟩
     ·exact .inr (.inr ⟨.refl _,h2⟩)
     ·exact .inl h3
     ·exact .inr (.inr ⟨.refl _,h3⟩)
 ·rintro (h1 | ⟨h1,h2⟩ | ⟨h1,h2⟩)
  ·exact hm h1
  ·exact (hm h1).trans (hxy.trans (hm h2))
  ·exact (hm h1).trans (hxy.symm.trans (hm h2))
def dq (ml:List (Int×List Int))(a b:Int):Prop:=∃ p∈ml,p.2.head?=some a∧b∈p.2
def RZ (e:En)(z:Int×Int):Prop:=e.id=z.1∧e.sum=z.2
def RM (e:En)(p:Int×List Int):Prop:=e.id=p.1∧e.many=p.2.length∧p.2.head?=some (e.fst:Int)
theorem pB {x:Int}(h : -9223372036854775808≤x∧x<9223372036854775808):wr x=x:=zj7 _ oM
theorem A7 {i:Nat}{c p:Int}:∀ {es:List En} {zl:List (Int×Int)},aG RZ es zl→(∀ e∈es,wr (e.sum+p)=e.sum+p)→wr (0+p)=p→aG RZ (jK i c p es) (fV zl c p)
 | [],[],_,_,hp=>⟨⟨rfl,hp⟩,trivial⟩
 | e::es,(a,z)::zl,h,hb,hp=>by
  obtain ⟨⟨h1,h2⟩,h3⟩:=h;have h1:e.id=a:=h1;have h2:e.sum=z:=h2;simp only[jK,fV];by_cases hc:e.id=c
  ·rw[zf4 hc,zf4 (by rw[← h1,hc])];exact⟨⟨h1,by show wr (e.sum+p)=z+p; rw[hb e (by simp),h2]⟩,h3⟩
  ·rw[zf3 hc,zf3 (by rw[← h1]; exact fun e=>hc e.symm)];exact⟨⟨h1,h2⟩,A7 h3 (fun x hx=>hb x (by simp[hx])) hp⟩
 | [],_::_,h,_,_=>h.elim
 | _::_,[],h,_,_=>h.elim
theorem A8 {i:Nat}{c p:Int}:∀ {es:List En} {ml:List (Int×List Int)},aG RM es ml→(∀ e∈es,wr (e.many+1)=e.many+1)→aG RM (jK i c p es) (eX ml c i) ∧
  ∀ a b,dq (eX ml c i) a b↔dq ml a b∨(a=iI i c es∧b=i)
 | [],[],_,_=>by
  refine⟨⟨⟨rfl,by rfl,rfl⟩,trivial⟩,fun a b=>?_⟩;constructor
  ·rintro ⟨q,hq,h1,h2⟩;simp[eX] at hq;subst hq;simp at h1 h2;exact .inr ⟨h1.symm,h2⟩
  ·rintro (⟨q,hq,_⟩ | ⟨rfl,rfl⟩)
   ·simp at hq
   ·exact⟨(c,[(i:Int)]),by simp[eX],I,by simp⟩
 | e::es,(k,l)::ml,h,hb=>by
  obtain ⟨⟨h1,h2,h4⟩,h3⟩:=h;have h1:e.id=k:=h1;have h2:e.many=l.length:=h2;have h4:l.head?=some (e.fst:Int):=h4;simp only[jK,eX,iI];by_cases hc:e.id=c
  ·rw[zf4 hc,zf4 (by rw[← h1,hc]),zf4 hc];have hh:(l++[(i:Int)]).head?=some (e.fst:Int):=by
    cases l with
    | nil=>simp at h4
    | cons x r=>simpa using h4
   refine⟨⟨⟨h1,by show wr (e.many+1)=_; rw[hb e (by simp),h2]; simp,hh⟩,h3⟩,fun a b=>?_⟩;constructor
   ·rintro ⟨q,hq,h5,h6⟩
    rcases ze4.1 hq with rfl | hq
    ·dsimp only at h5 h6;rw[hh] at h5
     rcases ze6.1 h6 with h6 | h6
     ·exact .inl ⟨(k,l),by simp,by rw[h4,h5],h6⟩
     ·simp at h6;injection h5 with h5
      exact .inr ⟨h5.symm,h6⟩
    ·exact .inl ⟨q,by simp[hq],h5,h6⟩
   ·rintro (⟨q,hq,h5,h6⟩ | ⟨rfl,rfl⟩)
    ·rcases ze4.1 hq with rfl | hq
     ·exact⟨(k,l++[(i:Int)]),by simp,by rw[hh,← h4,h5],by simp[h6]⟩
     ·exact⟨q,by simp[hq],h5,h6⟩
    ·exact⟨(k,l++[(i:Int)]),by simp,hh,by simp⟩
  ·rw[zf3 hc,zf3 (by rw[← h1]; exact fun e=>hc e.symm),zf3 hc];obtain ⟨i1,i2⟩:=A8 (i:=i) (c:=c) (p:=p) h3 fun x hx=>hb x (by simp[hx]);refine⟨⟨⟨h1,h2,h4⟩,i1⟩,fun a b=>?_⟩;have e1:∀ L,dq ((k,l)::L) a b↔(l.head?=some a∧b∈l)∨dq L a b:=fun L=>by
    unfold dq;simp
   rw[e1,e1,i2,or_assoc]
 | [],_::_,h,_=>h.elim
 | _::_,[],h,_=>h.elim
structure Sd (n t k:Nat)(es:List En)(part:List Int)(zl:List (Int×Int))(ml:List (Int×List Int)):Prop where
 z:aG RZ es zl
 m:aG RM es ml
 bz:∀ e∈es,-(t:Int)≤e.sum∧e.sum≤t∧0≤e.many∧e.many≤t
 bf:∀ e∈es,e.fst<k
 bm:∀ p∈ml,∀ x∈p.2,0≤x∧x<k
 len:part.length=n
 bp:∀ a,a<k→0≤part.getD a 0∧part.getD a 0<k
 cn:∀ a b:Nat,a<k→b<k→(part.getD a 0=part.getD b 0↔Cn (dq ml) a b)
theorem gn {ml:List (Int×List Int)}{k:Nat}(h:∀ p∈ml,∀ x∈p.2,0≤x∧x<(k:Int)){a b:Int}(hl:dq ml a b):(0≤a∧a<k)∧(0≤b∧b<k):=by
 obtain ⟨p,hp,h1,h2⟩:=hl;exact⟨h p hp a (List.mem_of_head? h1),h p hp b h2⟩
theorem Sd.open {n t k:Nat}{es:List En}{part:List Int}{zl:List (Int×Int)}{ml:List (Int×List Int)}(h:Sd n t k es part zl ml)(hk:k<n):Sd n t (k+1) es (part.set k k) zl ml:=by
 have hl:=h.len;have g1:(part.set k (k:Int)).getD k 0=k:=by rw[zg4,List.getElem?_set]; simp[hl,hk]
 have g2:∀ a,a≠k→(part.set k (k:Int)).getD a 0=part.getD a 0:=fun a ha=>by
  rw[zg4,zg4,List.getElem?_set,zf3 fun e=>ha e.symm]
 have iso:∀ b,¬ dq ml k b∧¬ dq ml b k:=fun b=>⟨fun e=>by have:=gn h.bm e; omega,fun e=>by have:=gn h.bm e; omega⟩;refine⟨h.z,h.m,h.bz,fun e he=>by have:=h.bf e he; omega,fun p hp x hx=>by have:=h.bm p hp x hx; omega,by simp[hl],fun a ha=>?_,fun a b ha hb=>?_⟩
 ·by_cases e:a=k
  ·subst e; rw[g1]; omega
  ·rw[g2 a e]; have:=h.bp a oM; omega
 ·by_cases e:a=k <;> by_cases e2:b=k
  ·subst e; subst e2; exact⟨fun _=>.refl _,fun _=>I⟩
  ·subst e;rw[g1,g2 b e2];have:=h.bp b oM;exact⟨fun h=>by omega,fun hc=>by have:=hc.iso iso; omega⟩
  ·subst e2;rw[g1,g2 a e];have:=h.bp a oM;exact⟨fun h=>by omega,fun hc=>by have:=hc.symm.iso iso; omega⟩
  ·rw[g2 a e,g2 b e2];exact h.cn a b oM oM
theorem jz {m:Nat}{old now:Int}{p:List Int}{a:Nat}(h:a<p.length)(hm:a<m):(dp m old now p).getD a 0=if p.getD a 0=now then old else p.getD a 0:=by
 rw[zg4,zg4];simp only[dp,List.getElem?_mapIdx,gE h,Option.map_some,Option.getD_some,hm,true_and]
theorem Ad {i:Nat}{c:Int}{es:List En}(h:∀ e∈es,e.fst<i+1):iI i c es<i+1:=by
 induction es with
 | nil=>exact Nat.lt_succ_self i
 | cons e r ih =>
  unfold iI;split
  ·exact h e (by simp)
  ·exact ih fun x hx=>h x (by simp[hx])
theorem uG {P:En→Prop}{i:Nat}{c p:Int}(hn:P (En.up ⟨c,0,0,i⟩ p))(hu:∀ e,P e→P (e.up p))(ho:∀ e,P e→P e):∀ {es:List En},(∀ e∈es,P e)→∀ e∈jK i c p es,P e
 | [],_,e,he=>by simp[jK] at he; subst he; exact hn
 | x::r,h,e,he=>by
  unfold jK at he;split at he
  ·rcases ze4.1 he with rfl | he
   ·exact hu x (h x (by simp))
   ·exact h e (by simp[he])
  ·rcases ze4.1 he with rfl | he
   ·exact h e (by simp)
   ·exact uG hn hu ho (fun y hy=>h y (by simp[hy])) e he
theorem uN {P:Int→Prop}{c:Int}{i:Int}(hi:P i):∀ {ml:List (Int×List Int)},(∀ p∈ml,∀ x∈p.2,P x)→∀ p∈eX ml c i,∀ x∈p.2,P x
 | [],_,p,hp,x,hx=>by simp[eX] at hp; subst hp; simp at hx; subst hx; exact hi
 | (k,l)::r,h,p,hp,x,hx=>by
  unfold eX at hp;split at hp
  ·rcases ze4.1 hp with rfl | hp
   ·rcases ze6.1 hx with hx | hx
    ·exact h (k,l) (by simp) x hx
    ·simp at hx; subst hx; exact hi
   ·exact h p (by simp[hp]) x hx
  ·rcases ze4.1 hp with rfl | hp
   ·exact h (k,l) (by simp) x hx
   ·exact uN hi (fun q hq=>h q (by simp[hq])) p hp x hx
theorem Sd.next {n t i:Nat}{es:List En}{part:List Int}{zl:List (Int×Int)}{ml:List (Int×List Int)}{x r:ai}(h:Sd n t (i+1) es part zl ml)(hi:i<n)(ht:t<1000000)(hx:x.sign=1∨x.sign = -1)(hr:r.sign=1∨r.sign = -1) :
  Sd n (t+1) (i+1) (kg i x.sign (es,part) r).1 (kg i x.sign (es,part) r).2 (kf x zl r) (dU i ml r):=by
 have hp:=tP hx hr;have hw:wr (x.sign * r.sign)=x.sign * r.sign:=pB oM;unfold kg kf dU;dsimp only;rw[hw];generalize x.sign * r.sign=p at *;have hl:=h.len;have hbm:=A8 (i:=i) (c:=r.cell) (p:=p) h.m fun e he=>by have:=h.bz e he; exact pB oM
 have hf:=Ad (c:=r.cell) h.bf;refine⟨A7 h.z (fun e he=>by have:=h.bz e he; exact pB oM) (by rw[Int.zero_add]; exact pB oM),hbm.1,?_,?_,?_,by rw[j9]; exact hl,fun a ha=>?_,fun a b ha hb=>?_⟩
 ·have:∀ e∈jK i r.cell p es,(-(t:Int)≤e.sum∧e.sum≤t∧0≤e.many∧e.many≤t)∨(-((t+1:Nat):Int)≤e.sum∧e.sum≤((t+1:Nat):Int)∧0≤e.many∧e.many≤((t+1:Nat):Int)):=by
   have h0:=h.bz;clear h hbm hf hl;generalize hes:jK i r.cell p es=fs;intro e he;subst hes;induction es with
   | nil =>
    simp[jK] at he;subst he;right;simp only[En.up];rw[pB oM,pB oM];omega
   | cons y q ih =>
    unfold jK at he;split at he
    ·rcases ze4.1 he with rfl | he
     ·right;have:=h0 y (by simp);simp only[En.up];rw[pB oM,pB oM];omega
     ·exact .inl (h0 e (by simp[he]))
    ·rcases ze4.1 he with rfl | he
     ·exact .inl (h0 e (by simp))
     ·exact ih (fun z hz=>h0 z (by simp[hz])) he
  intro e he
  rcases this e he with h1 | h1 <;> omega
 ·exact uG (P:=fun e=>e.fst<i+1) (Nat.lt_succ_self i) (fun e he=>he) (fun e he=>he) h.bf
 ·exact uN (P:=fun x=>0≤x∧x<((i+1:Nat):Int)) oM h.bm
 ·rw[jz oM ha];split
  ·exact h.bp _ hf
  ·exact h.bp a ha
 ·rw[jz oM ha,jz oM hb,Cn.add (x:=(iI i r.cell es:Int)) (y:=(i:Int)) hbm.2 a b];rw[← h.cn a b ha hb,← h.cn a _ ha hf,← h.cn i b oM hb,← h.cn a i ha oM,← h.cn _ b hf hb];generalize part.getD a 0=pa;generalize part.getD b 0=pb;generalize part.getD i 0=pi;generalize part.getD (iI i r.cell es) 0=pf;by_cases h1:pa=pi <;> by_cases h2:pb=pi <;> simp[h1,h2] <;> omega
theorem Sd.inner {n i:Nat}{x:ai}(hi:i<n)(hx:x.sign=1∨x.sign = -1):∀ (l:List ai) {t:Nat} {es:List En} {part:List Int} {zl:List (Int×Int)} {ml:List (Int×List Int)},Sd n t (i+1) es part zl ml→t+l.length<1000000→(∀ r∈l,r.sign=1∨r.sign = -1) →
  Sd n (t+l.length) (i+1) (l.foldl (kg i x.sign) (es,part)).1 (l.foldl (kg i x.sign) (es,part)).2 (l.foldl (kf x) zl) (l.foldl (dU i) ml)
 | [],_,_,_,_,_,h,_,_=>h
 | r::l,t,es,part,zl,ml,h,ht,hr=>by
  simp only[ze2] at ht;have h1:=h.next (x:=x) (r:=r) hi oM hx (hr r (by simp));have:=Sd.inner hi hx l h1 oM (fun q hq=>hr q (by simp[hq]));simp only[zi1,ze2];rw[show t+(l.length+1)=t+1+l.length by omega];exact this
theorem Sd.outer {tl:List Cl}{n:Nat}:∀ (l:List ai) {t k:Nat} {es:List En} {part:List Int} {zl:List (Int×Int)} {ml:List (Int×List Int)},Sd n t k es part zl ml→k+l.length≤n→t+64 * l.length<1000000→(∀ x∈l,x.sign=1∨x.sign = -1)→(∀ x∈l,(ao tl x).length≤64∧∀ r∈ao tl x,r.sign=1∨r.sign = -1) →
  ∃ t',Sd n t' (k+l.length) ((l.zipIdx k).foldl (l8 tl) (es,part)).1 ((l.zipIdx k).foldl (l8 tl) (es,part)).2 (l.foldl (fun zl x=>(ao tl x).foldl (kf x) zl) zl) ((l.zipIdx k).foldl (fun ml p=>(ao tl p.1).foldl (dU p.2) ml) ml)
 | [],t,_,_,_,_,_,h,_,_,_,_=>⟨t,h⟩
 | x::l,t,k,es,part,zl,ml,h,hk,ht,hs,hq=>by
  simp only[ze2] at hk ht;have h0:=hq x (by simp);have h1:=(h.open oM).inner (x:=x) oM (hs x (by simp)) (ao tl x) oM h0.2;obtain ⟨t',h2⟩:=Sd.outer l h1 oM oM (fun y hy=>hs y (by simp[hy])) (fun y hy=>hq y (by simp[hy]));refine⟨t',?_⟩;simp only[List.zipIdx_cons,zi1,ze2];rw[show k+(l.length+1)=k+1+l.length by omega];exact h2
theorem mM {α β:Type}{R:α→β→Prop}{p:α→Bool}{q:β→Bool}(h:∀ a b,R a b→p a=q b):∀ {l:List α} {m:List β},aG R l m→l.any p=m.any q
 | [],[],_=>rfl
 | a::l,b::m,hr=>by simp only[List.any_cons,h a b hr.1,mM h hr.2]
 | [],_::_,hr=>hr.elim
 | _::_,[],hr=>hr.elim
theorem pT {ml:List (Int×List Int)}(h2:∀ p∈ml,p.2.length=2)(a b:Int):Rch (iU (cC ml)) a b↔Cn (dq ml) a b:=by
 have hstep:∀ x y,y∈d4 (cC ml) x→Cn (dq ml) x y:=fun x y hy=>by
  obtain ⟨p,hp,h⟩:=(jO ml x y).1 hy
  rcases h with h | h
  ·exact .one ⟨p,hp,by rw[h]; rfl,by rw[h]; simp⟩
  ·exact (Cn.one (E:=dq ml) ⟨p,hp,by rw[h]; rfl,by rw[h]; simp⟩).symm
 have hadj:∀ x,iU (cC ml) x≠none:=fun x=>by simp[iU]
 constructor
 ·intro h;induction h with
  | refl _ _=>exact .refl _
  | step x y _ l hl hy _ ih =>
   simp only[iU,zg1] at hl;subst hl;exact (hstep x y hy).trans ih
 ·intro h;induction h with
  | refl a=>exact .refl a (hadj a)
  | @step x y z e _ ih =>
   have key:∀ u v,dq ml u v→v=u∨v∈d4 (cC ml) u:=fun u v ⟨p,hp,h3,h4⟩=>by
    have:=h2 p hp
    match hq:p.2,this with
    | [c,d],_ =>
     rw[hq] at h3 h4;simp at h3 h4;subst h3
     rcases h4 with h4 | h4
     ·exact .inl h4
     ·exact .inr ((jO ml c v).2 ⟨p,hp,.inl (by rw[hq,h4])⟩)
   rcases e with e | e
   ·rcases key x y e with rfl | h5
    ·exact ih
    ·exact .step x y z _ I h5 ih
   ·rcases key y x e with rfl | h5
    ·exact ih
    ·refine .step x y z _ I ?_ ih;obtain ⟨p,hp,h6⟩:=(jO ml y x).1 h5;exact (jO ml x y).2 ⟨p,hp,h6.symm⟩
theorem mo {l:List Int}(hn:l.Nodup)(hb:∀ x∈l,0≤x):(l.map Int.toNat).Nodup:=by
 rw[List.Nodup,zj3];refine List.Pairwise.imp_of_mem ?_ hn;intro a b ha hb' hne e;have:=hb a ha;have:=hb b hb';omega
theorem j4 {l:List Int}{n:Nat}(hn:l.Nodup)(hb:∀ x∈l,0≤x∧x<(n:Int)):l.length≤n:=by
 have h1:=mo hn fun x hx=>(hb x hx).1;have:=cZ (l:=List.range n) h1 List.nodup_range fun x hx=>by
  obtain ⟨y,hy,rfl⟩:=ze5.1 hx;have:=hb y hy;exact List.mem_range.2 oM
 simpa using this
theorem pH {tl:List Cl}{c:Cl}(hok:AOk tl c)(h0:0<c.sides.length):gC tl c=cf tl c:=by
 obtain ⟨h64,hs,hq⟩:=hok;have start:Sd c.sides.length 0 0 [] (List.replicate c.sides.length 0) [] []:=⟨trivial,trivial,by simp,by simp,by simp,by simp,by simp,fun a b ha=>by omega⟩;obtain ⟨t,hd⟩:=start.outer c.sides (tl:=tl) oM oM hs hq;have e1:((c.sides.zipIdx 0).foldl (l8 tl) ([],List.replicate c.sides.length 0))=kX tl c.sides c.sides.length:=rfl;rw[e1] at hd;have hz:aG RZ (kX tl c.sides c.sides.length).1 (fZ tl c.sides):=hd.z;have hm:aG RM (kX tl c.sides c.sides.length).1 (dQ tl c.sides):=hd.m;unfold gC cf;rw[mM (p:=fun e=>decide (e.sum≠0)) (q:=fun p:Int×Int=>decide (p.2≠0)) (fun a b h=>by rw[h.2]) hz];rw[mM (p:=fun e=>decide (e.many≠2)) (q:=fun p:Int×List Int=>decide ((p.2.length:Int)≠2)) (fun a b h=>by rw[h.2.1]) hm];split
 ·rfl
 ·split
  ·rfl
  ·rename_i hno;have h2:∀ p∈dQ tl c.sides,p.2.length=2:=fun p hp=>by
    have:=zj4.1 ((zi7 _).mp hno) p hp;simp at this;omega
   have hbm:∀ p∈dQ tl c.sides,∀ x∈p.2,0≤x∧x<((0+c.sides.length:Nat):Int):=hd.bm;rw[Nat.zero_add] at hbm;have hcn:∀ a b:Nat,a<c.sides.length→b<c.sides.length→((kX tl c.sides c.sides.length).2.getD a 0=(kX tl c.sides c.sides.length).2.getD b 0↔Rch (iU (cC (dQ tl c.sides))) a b):=fun a b ha hb=>by
    rw[pT h2];exact hd.cn a b oM oM
   have hln:=hd.len;have hmem:∀ x:Int,x∈iq (cC (dQ tl c.sides))↔Rch (iU (cC (dQ tl c.sides))) 0 x:=fun x=>rY (cnt:=lG (cC (dQ tl c.sides))) (fun v v' h=>iH h) (jE _) (zj6 (zc1 _ _)) (by simp[iU]) x;have hnd:(iq (cC (dQ tl c.sides))).Nodup:=iG _ _ _ _ (by simp);have hin:∀ x∈iq (cC (dQ tl c.sides)),0≤x∧x<(c.sides.length:Int):=fun x hx=>by
    have hr:=(pT h2 0 x).1 ((hmem x).1 hx);have:∀ a b,Cn (dq (dQ tl c.sides)) a b→(0≤a∧a<(c.sides.length:Int))→(0≤b∧b<(c.sides.length:Int)):=by
     intro a b h;induction h with
     | refl _=>exact fun h=>h
     | step e _ ih =>
      intro _
      rcases e with e | e
      ·exact ih (gn hbm e).2
      ·exact ih (gn hbm e).1
    exact this 0 x hr oM
   generalize (kX tl c.sides c.sides.length).2=part at *;generalize iq (cC (dQ tl c.sides))=seen at *;by_cases hall:∀ a,a<c.sides.length→part.getD a 0=part.getD 0 0
   ·have hf:part.any (fun x=>decide (x≠part.getD 0 0))=false:=by
     rw[zj4];intro x hx;obtain ⟨i,hi,rfl⟩:=zc3 hx;have:=hall i oM;rw[zg4,gE hi] at this;simpa using this
    have hlen:seen.length=c.sides.length:=by
     refine Nat.le_antisymm (j4 hnd hin) ?_;have h3:=cZ (m:=List.range c.sides.length) (l:=seen.map Int.toNat) List.nodup_range (mo hnd fun x hx=>(hin x hx).1) fun i hi=>by
      have hi:=List.mem_range.1 hi;exact ze5.2 ⟨(i:Int),(hmem i).2 ((hcn 0 i h0 hi).1 (hall i hi).symm),by simp⟩
     simpa using h3
    rw[hf,hlen];simp
   ·have ht:part.any (fun x=>decide (x≠part.getD 0 0))=true:=by
     simp only[Classical.not_forall] at hall;obtain ⟨a,ha,hne⟩:=hall;rw[zi8];refine⟨part.getD a 0,?_,by simpa using hne⟩;rw[zg4,gE oM];exact gM _
    have hlen:(seen.length:Int)≠c.sides.length:=by
     simp only[Classical.not_forall] at hall;obtain ⟨a,ha,hne⟩:=hall;have hna:(a:Int) ∉ seen:=fun h=>hne ((hcn 0 a h0 ha).2 ((hmem a).1 h)).symm;have:=j4 (l:=(a:Int)::seen) (n:=c.sides.length) (zj1.2 ⟨hna,hnd⟩) fun x hx=>by
      rcases ze4.1 hx with rfl | hx
      ·omega
      ·exact hin x hx
     simp at this;omega
    rw[ht,zf4 rfl,zf4 hlen]
theorem cA {tl:List Cl}:∀ {l:List Cl} {n:Int},fU tl l n=none→l.Pairwise (fun a b=>a.id<b.id)∧(∀ x∈l,n<x.id)∧∀ x∈l,bT tl x=0
 | [],_,_=>⟨List.Pairwise.nil,by simp,by simp⟩
 | x::r,n,h=>by
  unfold fU at h;split at h
  ·cases h
  ·rename_i hid;split at h
   ·cases h
   ·rename_i hf;obtain ⟨h1,h2,h3⟩:=cA h;refine⟨zj2.2 ⟨h2,h1⟩,fun y hy=>?_,fun y hy=>?_⟩
    ·rcases ze4.1 hy with rfl | hy
     ·omega
     ·have:=h2 y hy; omega
    ·rcases ze4.1 hy with rfl | hy
     ·exact zg3 hf
     ·exact h3 y hy
theorem iX (l:List Cl):ay l=a6 l:=by
 unfold ay a6;split
 ·rfl
 ·cases h:fU (ae l) (aa l) 0 with
  | some p=>rfl
  | none =>
   obtain ⟨h1,_,h3⟩:=cA h;have ht:=a8 h1;have key:∀ m:List Cl,(∀ x∈m,x∈aa l)→k5 (aa l) m=lH (ae l) m:=by
    intro m;induction m with
    | nil=>intro _; rfl
    | cons x r ih =>
     intro hm;have hx:=hm x (by simp);unfold k5 lH;rw[ih fun y hy=>hm y (by simp[hy])];by_cases hd:x.dim>1
     ·have hok:=wB h3 hx;have hn:0<x.sides.length:=by
       have hf:=h3 x hx;unfold bT at hf;split at hf
       ·cases hf
       ·split at hf
        ·cases hf
        ·rename_i hc;simp[aw] at hc;have:=hc.2 hd;omega
      rw[ht] at hok ⊢;rw[pH hok hn]
     ·simp[hd]
   rw[key _ fun x hx=>hx]
set_option maxRecDepth 10000
theorem jS {l:List Cl}(h:(a6 l).2=0):fU (ae l) (aa l) 0=none:=by
 unfold a6 at h;split at h
 ·simp at h
 ·cases h1:fU (ae l) (aa l) 0 with
  | none=>rfl
  | some p=>rw[h1] at h; exact absurd h (r6 h1)
theorem zO (a b:List Cl):br a b=Bi a b:=by
 have hb:bP a b=lP a b:=by
  unfold bP lP;rw[iX,iX];by_cases h1:(a6 a).2=0
  ·by_cases h2:(a6 b).2=0
   ·rw[a8 (cA (jS h1)).1,a8 (cA (jS h2)).1,aq,aq]
   ·simp[h2]
  ·simp[h1]
 unfold br Bi;rw[hb,iX]
section
variable {A:List (List Int)}(hA:fW A)
include hA
end
theorem zS {N i k i' k':Nat}(hk:k<N)(hk':k'<N)(h:i * N+k=i' * N+k'):i=i'∧k=k':=by
 have e:∀ {i k:Nat},k<N→(i * N+k) / N=i:=fun {i k} hk=>by rw[Nat.add_comm,Nat.add_mul_div_right _ _ oM,Nat.div_eq_of_lt hk,Nat.zero_add]
 have h1:=e (i:=i) hk;rw[h,e hk'] at h1;subst h1;exact⟨I,oM⟩
theorem BK {N i k i' k':Nat}(hk:k<N)(h:i<i'):i * N+k<i' * N+k':=by
 have:(i+1) * N≤i' * N:=Nat.mul_le_mul_right N h;rw[Nat.succ_mul] at this;omega
theorem BW {tl:List Cl}{c:Cl}(h1:0≤c.dim∧c.dim≤8)(h2:aw c=false)(h3:∀ x∈c.sides,∃ d,aO tl x.cell=some d∧d.dim=c.dim - 1)(h4:c.sides.Pairwise fun a b=>a.cell<b.cell)(h5:∀ x∈c.sides,x.sign=1∨x.sign = -1)(h6:c.dim=1→km c.sides=0):bT tl c=0:=by
 have e1:eE c=false:=by unfold eE; simp; omega
 have e3:(List.range c.sides.length).any (gS tl c)=false:=by
  rw[zj4];intro i hi;have hi:=List.mem_range.1 hi;obtain ⟨d,hd1,hd2⟩:=h3 _ (gM hi);unfold gS;rw[gE hi];show ¬ bJ _ _ i c.sides[i]=true;unfold bJ;rw[hd1];simp only[Option.isSome_some,Bool.not_true,Bool.false_or,Option.getD_some,hd2,ne_eq,not_true_eq_false,decide_false];by_cases hi0:i>0
  ·have hlt:=zc5.1 h4 (i - 1) i oM hi oM;rw[gE oM];simp;omega
  ·simp[hi0]
 have e4:c.sides.any bq=false:=by
  rw[zj4];intro x hx
  rcases h5 x hx with h | h <;> simp[bq,h]
 have e5:(decide (c.dim=1)&&decide (km c.sides≠0))=false:=by
  by_cases hd:c.dim=1
  ·rw[h6 hd]; simp
  ·simp[hd]
 unfold bT;rw[e1,h2,e3,e4,e5];rfl
section
variable {A B:List (List Int)}(hA:fW A)(hB:fW B)
include hA hB
end
section
variable {A B:List (List Int)}(hA:fW A)(hB:fW B)
include hA hB
end
structure Few (a:List Cl)(A:List (List Int)):Prop where
 good:fW A
 cells:a=A.map (gK A)
 small:∀ s∈A,s.length≤3
 few:A.length≤14
def sumR (tl:List Cl)(l:List ai)(r:Int):Int:=(l.flatMap fun x=>(ao tl x).map fun q=>if q.cell=r then x.sign * q.sign else 0).sum
def hits (tl:List Cl)(x:ai)(r:Int):Nat:=((ao tl x).filter fun q=>decide (q.cell=r)).length
def cntR (tl:List Cl)(l:List ai)(r:Int):Nat:=(l.map fun x=>hits tl x r).sum
def nt (tl:List Cl)(l:List ai)(a b:Int):Prop:=∃ x∈l,∃ y∈l,x.cell=a∧y.cell=b∧∃ r,0<hits tl x r∧0<hits tl y r
theorem ye (zl:List (Int×Int))(k x r:Int):gJ (fV zl k x) r=gJ zl r+if r=k then x else 0:=by
 induction zl with
 | nil =>
  simp only[fV,gJ];split <;> simp
 | cons p q ih =>
  obtain ⟨a,z⟩:=p;simp only[fV];by_cases h:k=a
  ·subst h;simp only[if_true,gJ];split <;> simp
  ·rw[zf3 h];simp only[gJ,ih];by_cases hr:r=a
   ·subst hr;rw[zf4 rfl,zf4 rfl,zf3 fun e=>h e.symm];omega
   ·rw[zf3 hr,zf3 hr]
theorem oc (x:ai)(r:Int):∀ (l:List ai) (zl:List (Int×Int)),gJ (l.foldl (kf x) zl) r=gJ zl r+(l.map fun q=>if q.cell=r then x.sign * q.sign else 0).sum
 | [],zl=>by simp
 | q::l,zl=>by
  simp only[zi1,zf7,List.sum_cons];rw[oc x r l,kf,ye];by_cases h:r=q.cell
  ·rw[zf4 h,zf4 h.symm]; omega
  ·rw[zf3 h,zf3 fun e=>h e.symm]; omega
theorem qE (tl:List Cl)(l:List ai)(r:Int):gJ (fZ tl l) r=sumR tl l r:=by
 have:∀ (l:List ai) (zl:List (Int×Int)),gJ (l.foldl (fun zl x=>(ao tl x).foldl (kf x) zl) zl) r=gJ zl r+sumR tl l r:=by
  intro l;induction l with
  | nil=>intro zl; simp[sumR]
  | cons x q ih =>
   intro zl;simp only[zi1];rw[ih,oc];simp only[sumR,zg8,List.sum_append];omega
 have h:=this l [];simpa [fZ,gJ] using h
theorem yU (ml:List (Int×Int))(k x:Int):(fV ml k x).map Prod.fst=if ml.any (fun p=>decide (p.1=k)) then ml.map Prod.fst else ml.map Prod.fst++[k]:=by
 induction ml with
 | nil=>simp[fV]
 | cons p r ih =>
  obtain ⟨a,l⟩:=p;simp only[fV];by_cases h:k=a
  ·subst h;simp
  ·have h2:¬ a=k:=fun e=>h e.symm;rw[zf3 h];simp only[zf7,ih,List.any_cons,h2,decide_false,Bool.false_or];split <;> simp
theorem wa {ml:List (Int×Int)}(h:(ml.map Prod.fst).Nodup)(k x:Int):((fV ml k x).map Prod.fst).Nodup:=by
 rw[yU];split
 ·exact h
 ·rename_i hk;rw[List.nodup_append];refine⟨h,by simp,fun a ha b hb e=>hk ?_⟩;simp at hb;subst hb;obtain ⟨p,hp,hpe⟩:=ze5.1 ha;rw[zi8];exact⟨p,hp,by simp[hpe,e]⟩
theorem sr (tl:List Cl)(l:List ai):((fZ tl l).map Prod.fst).Nodup:=by
 have h1:∀ (x:ai) (q:List ai) (zl:List (Int×Int)),(zl.map Prod.fst).Nodup→((q.foldl (kf x) zl).map Prod.fst).Nodup:=by
  intro x q;induction q with
  | nil=>intro zl h; exact h
  | cons r t ih=>intro zl h; exact ih _ (wa h _ _)
 have h2:∀ (q:List ai) (zl:List (Int×Int)),(zl.map Prod.fst).Nodup→((q.foldl (fun zl x=>(ao tl x).foldl (kf x) zl) zl).map Prod.fst).Nodup:=by
  intro q;induction q with
  | nil=>intro zl h; exact h
  | cons x t ih=>intro zl h; exact ih _ (h1 _ _ _ h)
 exact h2 _ _ (by simp)
theorem um:∀ {zl:List (Int×Int)},(zl.map Prod.fst).Nodup→∀ p∈zl,gJ zl p.1=p.2
 | [],_,p,hp=>by simp at hp
 | (a,z)::r,h,p,hp=>by
  simp only[zf7,zj1] at h
  rcases ze4.1 hp with rfl | hp
  ·simp[gJ]
  ·simp only[gJ];rw[zf3 fun e=>h.1 (ze5.2 ⟨p,hp,e⟩)];exact um h.2 p hp
theorem qF:∀ {zl:List (Int×Int)} {k:Int},gJ zl k≠0→∃ p∈zl,p.1=k∧p.2=gJ zl k
 | [],_,h=>by simp[gJ] at h
 | (a,z)::r,k,h=>by
  simp only[gJ] at h ⊢;split
  ·rename_i e;exact⟨(a,z),by simp,e.symm,I⟩
  ·rename_i e;rw[zf3 e] at h;obtain ⟨p,hp,h1,h2⟩:=qF h;exact⟨p,by simp[hp],h1,h2⟩
theorem qh (tl:List Cl)(l:List ai):(fZ tl l).any (fun p=>decide (p.2≠0))=false↔∀ r,sumR tl l r=0:=by
 rw[zj4];constructor
 ·intro h r;rw[← qE];refine zg3 fun hne=>?_;obtain ⟨p,hp,_,h2⟩:=qF hne;exact h p hp (by simpa [h2] using hne)
 ·intro h p hp;have:=um (sr tl l) p hp;rw[qE,h] at this;simp[← this]
theorem od (i r:Int):∀ (l:List ai) (ml:List (Int×List Int)),d4 (l.foldl (dU i) ml) r=d4 ml r++List.replicate (l.filter fun q=>decide (q.cell=r)).length i
 | [],ml=>by simp
 | q::l,ml=>by
  simp only[zi1];rw[od i r l,dU,qH,zh9];by_cases h:r=q.cell
  ·rw[zf4 h,zf4 (by simp[h])];simp[List.replicate_succ]
  ·rw[zf3 h,zf3 (by simp; exact fun e=>h e.symm)]
theorem un (tl:List Cl)(l:List ai)(r:Int):d4 (dQ tl l) r=l.zipIdx.flatMap fun p=>List.replicate (hits tl p.1 r) (p.2:Int):=by
 have:∀ (q:List (ai×Nat)) (ml:List (Int×List Int)),d4 (q.foldl (fun ml p=>(ao tl p.1).foldl (dU p.2) ml) ml) r=d4 ml r++q.flatMap fun p=>List.replicate (hits tl p.1 r) (p.2:Int):=by
  intro q;induction q with
  | nil=>intro ml; simp
  | cons p t ih =>
   intro ml;simp only[zi1];rw[ih,od];simp[hits]
 have h:=this l.zipIdx [];simpa [dQ,d4] using h
theorem wV (tl:List Cl)(l:List ai)(r:Int):(d4 (dQ tl l) r).length=cntR tl l r:=by
 rw[un];have:∀ (l:List ai) (k:Nat),((l.zipIdx k).flatMap fun p=>List.replicate (hits tl p.1 r) (p.2:Int)).length=cntR tl l r:=by
  intro l;induction l with
  | nil=>intro k; rfl
  | cons x q ih=>intro k; simp only[List.zipIdx_cons,zg8,zd8,List.length_replicate,ih,cntR,zf7,List.sum_cons]
 exact this l 0
theorem lT (tl:List Cl)(l:List ai)(r i:Int):i∈d4 (dQ tl l) r↔∃ k:Nat,i=k∧∃ x,l[k]?=some x∧0<hits tl x r:=by
 rw[un,List.mem_flatMap];constructor
 ·rintro ⟨⟨x,k⟩,hp,hi⟩;obtain ⟨h1,rfl⟩:=List.mem_replicate.1 hi;refine⟨k,I,x,?_,Nat.pos_of_ne_zero h1⟩;simpa using List.mem_zipIdx_iff_getElem?.1 hp
 ·rintro ⟨k,rfl,x,hx,hh⟩;exact⟨(x,k),List.mem_zipIdx_iff_getElem?.2 (by simpa using hx),List.mem_replicate.2 ⟨Nat.ne_of_gt hh,I⟩⟩
theorem lv:∀ {ml:List (Int×List Int)},(ml.map Prod.fst).Nodup→∀ p∈ml,d4 ml p.1=p.2
 | [],_,p,hp=>by simp at hp
 | (a,z)::r,h,p,hp=>by
  simp only[zf7,zj1] at h
  rcases ze4.1 hp with rfl | hp
  ·simp[d4]
  ·simp only[d4];rw[zf3 fun e=>h.1 (ze5.2 ⟨p,hp,e⟩)];exact lv h.2 p hp
theorem mA:∀ {ml:List (Int×List Int)} {k:Int},d4 ml k≠[]→∃ p∈ml,p.1=k∧p.2=d4 ml k
 | [],_,h=>by simp[d4] at h
 | (a,z)::r,k,h=>by
  simp only[d4] at h ⊢;split
  ·rename_i e;exact⟨(a,z),by simp,e.symm,I⟩
  ·rename_i e;rw[zf3 e] at h;obtain ⟨p,hp,h1,h2⟩:=mA h;exact⟨p,by simp[hp],h1,h2⟩
theorem xy:∀ {ml:List (Int×List Int)} {k x:Int},(∀ p∈ml,p.2≠[])→∀ p∈eX ml k x,p.2≠[]
 | [],_,_,_,p,hp=>by simp[eX] at hp; subst hp; simp
 | (a,l)::r,k,x,h,p,hp=>by
  unfold eX at hp;split at hp
  ·rcases ze4.1 hp with rfl | hp
   ·simp
   ·exact h p (by simp[hp])
  ·rcases ze4.1 hp with rfl | hp
   ·exact h _ (by simp)
   ·exact xy (fun q hq=>h q (by simp[hq])) p hp
theorem CH (tl:List Cl)(l:List ai):∀ p∈dQ tl l,p.2≠[]:=by
 have h1:∀ (i:Int) (q:List ai) (ml:List (Int×List Int)),(∀ p∈ml,p.2≠[])→∀ p∈q.foldl (dU i) ml,p.2≠[]:=by
  intro i q;induction q with
  | nil=>intro ml h; exact h
  | cons r t ih=>intro ml h; exact ih _ (xy h)
 have h2:∀ (q:List (ai×Nat)) (ml:List (Int×List Int)),(∀ p∈ml,p.2≠[])→∀ p∈q.foldl (fun ml p=>(ao tl p.1).foldl (dU p.2) ml) ml,p.2≠[]:=by
  intro q;induction q with
  | nil=>intro ml h; exact h
  | cons x t ih=>intro ml h; exact ih _ (h1 _ _ _ h)
 exact h2 _ _ (by simp)
theorem uf (tl:List Cl)(l:List ai):(dQ tl l).any (fun p=>decide ((p.2.length:Int)≠2))=false↔∀ r,cntR tl l r=0∨cntR tl l r=2:=by
 rw[zj4];constructor
 ·intro h r;rw[← wV];by_cases hne:d4 (dQ tl l) r=[]
  ·left; rw[hne]; rfl
  ·right;obtain ⟨p,hp,_,h2⟩:=mA hne;have:=h p hp;rw[h2] at this;simp at this;omega
 ·intro h p hp;have h1:=lv (je tl l) p hp;have h2:=h p.1;rw[← wV,h1] at h2;have h3:=List.length_pos_iff.2 (CH tl l p hp);simp;omega
theorem CI (tl:List Cl)(l:List ai):∀ p∈dQ tl l,∀ x∈p.2,0≤x∧x<(l.length:Int):=fun p hp x hx=>by
 rw[← lv (je tl l) p hp] at hx;obtain ⟨k,rfl,y,hy,_⟩:=(lT tl l p.1 x).1 hx;have:=(ze8.1 hy).1;omega
theorem zF {ml:List (Int×List Int)}{n:Nat}(h2:∀ p∈ml,p.2.length=2)(hb:∀ p∈ml,∀ x∈p.2,0≤x∧x<(n:Int))(h0:0<n):(iq (cC ml)).length=n↔∀ a:Nat,a<n→Cn (dq ml) 0 a:=by
 have hmem:∀ x:Int,x∈iq (cC ml)↔Rch (iU (cC ml)) 0 x:=fun x=>rY (cnt:=lG (cC ml)) (fun v v' h=>iH h) (jE _) (zj6 (zc1 _ _)) (by simp[iU]) x;have hnd:(iq (cC ml)).Nodup:=iG _ _ _ _ (by simp);have hin:∀ x∈iq (cC ml),0≤x∧x<(n:Int):=fun x hx=>by
  have hr:=(pT h2 0 x).1 ((hmem x).1 hx);have:∀ a b,Cn (dq ml) a b→(0≤a∧a<(n:Int))→(0≤b∧b<(n:Int)):=by
   intro a b h;induction h with
   | refl _=>exact fun h=>h
   | step e _ ih =>
    intro _
    rcases e with e | e
    ·exact ih (gn hb e).2
    ·exact ih (gn hb e).1
  exact this 0 x hr oM
 generalize iq (cC ml)=seen at *;constructor
 ·intro hl a ha;refine Classical.byContradiction fun hne=>?_;have hna:(a:Int) ∉ seen:=fun h=>hne ((pT h2 0 a).1 ((hmem a).1 h));have:=j4 (l:=(a:Int)::seen) (n:=n) (zj1.2 ⟨hna,hnd⟩) fun x hx=>by
   rcases ze4.1 hx with rfl | hx
   ·omega
   ·exact hin x hx
  simp at this;omega
 ·intro hall;refine Nat.le_antisymm (j4 hnd hin) ?_;have h3:=cZ (m:=List.range n) (l:=seen.map Int.toNat) List.nodup_range (mo hnd fun x hx=>(hin x hx).1) fun i hi=>by
   have hi:=List.mem_range.1 hi;exact ze5.2 ⟨(i:Int),(hmem i).2 ((pT h2 0 i).2 (hall i hi)),by simp⟩
  simpa using h3
theorem Cn.map {E E':Int→Int→Prop}{f:Int→Int}(h:∀ a b,E a b→Cn E' (f a) (f b)){a b:Int}(hc:Cn E a b):Cn E' (f a) (f b):=by
 induction hc with
 | refl _=>exact .refl _
 | step e _ ih =>
  rcases e with e | e
  ·exact (h _ _ e).trans ih
  ·exact (h _ _ e).symm.trans ih
theorem ex {tl:List Cl}{c:Cl}(h0:0<c.sides.length)(hnd:(c.sides.map ai.cell).Nodup) :
  cf tl c=0↔(∀ r,sumR tl c.sides r=0)∧(∀ r,cntR tl c.sides r=0∨cntR tl c.sides r=2)∧∀ x∈c.sides,∀ y∈c.sides,Cn (nt tl c.sides) x.cell y.cell:=by
 unfold cf;generalize c.sides=l at *;by_cases hs:(fZ tl l).any (fun p=>decide (p.2≠0))=false
 ·rw[zf3 (by rw[hs]; simp)];by_cases hm:(dQ tl l).any (fun p=>decide ((p.2.length:Int)≠2))=false
  ·rw[zf3 (by rw[hm]; simp)];have h2:∀ p∈dQ tl l,p.2.length=2:=fun p hp=>by
    have:=zj4.1 hm p hp;simp at this;omega
   have hsa:=zF h2 (CI tl l) h0;have hinj:∀ {i j:Nat} {x y:ai},l[i]?=some x→l[j]?=some y→x.cell=y.cell→i=j:=fun {i j x y} hi hj e=>by
    obtain ⟨i1,e1⟩:=ze8.1 hi;obtain ⟨i2,e2⟩:=ze8.1 hj;have key:∀ {a b:Nat} (ha:a<l.length) (hb:b<l.length),a<b→l[a].cell≠l[b].cell:=fun {a b} ha hb h=>by
     have:=zc5.1 hnd a b (by simpa using ha) (by simpa using hb) h;simpa using this
    rcases Nat.lt_trichotomy i j with h | h | h
    ·exact absurd (by rw[e1,e2]; exact e) (key i1 i2 h)
    ·exact h
    ·exact absurd (by rw[e1,e2]; exact e.symm) (key i2 i1 h)
   have hconn:(∀ a:Nat,a<l.length→Cn (dq (dQ tl l)) 0 a)↔∀ x∈l,∀ y∈l,Cn (nt tl l) x.cell y.cell:=by
    constructor
    ·intro hall x hx y hy;obtain ⟨i,hi,rfl⟩:=zc3 hx;obtain ⟨j,hj,rfl⟩:=zc3 hy;have hc:=(hall i hi).symm.trans (hall j hj);have:=hc.map (f:=fun a=>(l.getD a.toNat ⟨0,0⟩).cell) (E':=nt tl l) fun a b hl=>by
      obtain ⟨p,hp,h3,h4⟩:=hl;rw[← lv (je tl l) p hp] at h3 h4;obtain ⟨k,rfl,x,hx,hh⟩:=(lT tl l p.1 a).1 (List.mem_of_head? h3);obtain ⟨m,rfl,y,hy,hh2⟩:=(lT tl l p.1 b).1 h4;refine .one ⟨x,zf5 hx,y,zf5 hy,?_,?_,p.1,hh,hh2⟩
      ·simp[zg4,hx]
      ·simp[zg4,hy]
     simpa [zg4,hi,hj] using this
    ·intro hall;have key:∀ a b,Cn (nt tl l) a b→∀ (i:Nat) (x:ai),l[i]?=some x→x.cell=a→∀ (j:Nat) (y:ai),l[j]?=some y→y.cell=b→Cn (dq (dQ tl l)) (i:Int) (j:Int):=by
      have one:∀ {a b:Int},nt tl l a b→∀ (i:Nat) (x:ai),l[i]?=some x→x.cell=a→∃ (j:Nat) (y:ai),l[j]?=some y∧y.cell=b∧Cn (dq (dQ tl l)) (i:Int) (j:Int):=by
       rintro a b ⟨x',hx',y,hy,rfl,rfl,r,h3,h4⟩ i x hi he;obtain ⟨i',hi',rfl⟩:=zc3 hx';obtain ⟨j,hj,rfl⟩:=zc3 hy;have hii:=hinj hi (gE hi') he;subst hii;refine⟨j,l[j],gE hj,I,?_⟩;have m1:=(lT tl l r i).2 ⟨i,rfl,l[i],gE hi',h3⟩;have m2:=(lT tl l r j).2 ⟨j,rfl,l[j],gE hj,h4⟩;obtain ⟨p,hp,_,hp2⟩:=mA (ml:=dQ tl l) (k:=r) fun e=>by rw[e] at m1; simp at m1
       rw[← hp2] at m1 m2;cases hh:p.2 with
       | nil=>rw[hh] at m1; simp at m1
       | cons u q =>
        have hu:∀ v∈p.2,dq (dQ tl l) u v:=fun v hv=>⟨p,hp,by rw[hh]; rfl,hv⟩;exact (Cn.one (hu _ m1)).symm.trans (Cn.one (hu _ m2))
      intro a b hc;induction hc with
      | refl a =>
       intro i x hi he j y hj he2;have:=hinj hi hj (he.trans he2.symm);subst this;exact .refl _
      | step e _ ih =>
       intro i x hi he j y hj he2;have e':nt tl l _ _:=e.elim (fun e=>e) fun ⟨x,hx,y,hy,h1,h2,r,h3,h4⟩=>⟨y,hy,x,hx,h2,h1,r,h4,h3⟩;obtain ⟨k,z,hk,hz,hc⟩:=one e' i x hi he;exact hc.trans (ih k z hk hz j y hj he2)
     intro a ha;exact key _ _ (hall _ (gM h0) _ (gM ha)) 0 _ (gE h0) I a _ (gE ha) I
   rw[← hconn,← hsa];constructor
   ·intro h;refine⟨(qh tl l).1 hs,(uf tl l).1 hm,?_⟩;refine zg3 fun hne=>?_;rw[zf4 oM] at h;exact absurd h dC
   ·rintro ⟨_,_,h⟩;rw[zf3 oM]
  ·have hm':(dQ tl l).any (fun p=>decide ((p.2.length:Int)≠2))=true:=by simpa using hm
   rw[zf4 hm'];exact⟨fun h=>absurd h dC,fun h=>absurd ((uf tl l).2 h.2.1) hm⟩
 ·have hs':(fZ tl l).any (fun p=>decide (p.2≠0))=true:=by simpa using hs
  rw[zf4 hs'];exact⟨fun h=>absurd h dC,fun h=>absurd ((qh tl l).2 h.1) hs⟩
structure Fm (tl:List Cl)(c:Cl):Prop where
 dim:0≤c.dim∧c.dim≤8
 cnt:aw c=false
 found:∀ x∈c.sides,∃ d,aO tl x.cell=some d∧d.dim=c.dim - 1
 asc:c.sides.Pairwise fun a b=>a.cell<b.cell
 sg:∀ x∈c.sides,x.sign=1∨x.sign = -1
 one:c.dim=1→km c.sides=0
theorem Fm.ok {tl:List Cl}{c:Cl}(h:Fm tl c):bT tl c=0:=BW h.dim h.cnt h.found h.asc h.sg h.one
theorem CS {l:List ai}(hs:l.Pairwise fun a b=>a.cell≤b.cell)(hd:∀ i x y,l[i]?=some x→l[i+1]?=some y→x.cell≠y.cell):l.Pairwise fun a b=>a.cell<b.cell:=by
 induction l with
 | nil=>exact List.Pairwise.nil
 | cons a r ih =>
  obtain ⟨h1,h2⟩:=zj2.1 hs;have hr:=ih h2 fun i x y hx hy=>hd (i+1) x y (by simpa using hx) (by simpa using hy);refine zj2.2 ⟨fun b hb=>?_,hr⟩;cases r with
  | nil=>simp at hb
  | cons z q =>
   have hz:a.cell<z.cell:=by
    have:=h1 z (by simp);have:=hd 0 a z rfl rfl;omega
   rcases ze4.1 hb with rfl | hb
   ·exact hz
   ·have:=(zj2.1 hr).1 b hb;omega
theorem C4 {tl:List Cl}{c:Cl}(h:bT tl c=0)(hs:c.sides.Pairwise fun a b=>a.cell≤b.cell):Fm tl c:=by
 unfold bT at h;split at h
 ·cases h
 ·rename_i h1;split at h
  ·cases h
  ·rename_i h2;split at h
   ·cases h
   ·rename_i h3;split at h
    ·cases h
    ·rename_i h4;split at h
     ·cases h
     ·rename_i h5;have hbad:∀ i x,c.sides[i]?=some x→bJ tl c i x=false:=fun i x hx=>by
       have hi:=(ze8.1 hx).1;have:=zj4.1 ((zi7 _).mp h3) i (List.mem_range.2 hi);unfold gS at this;rw[hx] at this;simpa using this
      refine⟨?_,by simpa using h2,fun x hx=>?_,CS hs fun i x y hx hy e=>?_,fun x hx=>?_,fun hd=>?_⟩
      ·simp[eE] at h1; omega
      ·obtain ⟨i,hi,rfl⟩:=zc3 hx;have:=hbad i _ (gE hi);unfold bJ at this;simp only[Bool.or_eq_false_iff,Bool.not_eq_false',decide_eq_false_iff_not,ne_eq,Decidable.not_not] at this;obtain ⟨⟨g1,g2⟩,_⟩:=this;obtain ⟨d,hd⟩:=zh2.1 g1;rw[hd] at g2;exact⟨d,hd,g2⟩
      ·have:=hbad (i+1) y hy;unfold bJ at this;rw[show i+1 - 1=i by omega,hx] at this;simp[e] at this
      ·have:=zj4.1 ((zi7 _).mp h4) x hx;simp[bq] at this;by_cases h6:x.sign=1
       ·exact .inl h6
       ·exact .inr (this h6)
      ·simpa [hd] using h5
structure Rt (l:List Cl):Prop where
 few:l.length≤4000
 asc:l.Pairwise fun a b=>a.id<b.id
 pos:∀ x∈l,0<x.id
 form:∀ x∈l,Fm l x
 around:∀ x∈l,x.dim>1→cf l x=0
theorem Rt.canon {l:List Cl}(h:Rt l):aa l=l:=by
 unfold aa;rw[(dD (key:=Cl.id) (h.asc.imp fun h=>by omega) (aF.refl l)).symm];have:∀ c∈l,aI c=c:=fun c hc=>by
  unfold aI;rw[(dD (key:=ai.cell) ((h.form c hc).asc.imp fun h=>by omega) (aF.refl c.sides)).symm]
 rw[zc4 this];simp
theorem Rt.tab {l:List Cl}(h:Rt l):ae l=l:=by rw[a8 (by rw[h.canon]; exact h.asc),h.canon]
theorem Rt.check {l:List Cl}(h:Rt l):a6 l=(0,0):=by
 refine uE h.few ?_ ?_ ?_ ?_ <;> rw[h.canon]
 ·exact h.pos
 ·exact h.asc
 ·exact fun x hx=>(h.form x hx).ok
 ·exact h.around
theorem Rt.find {l:List Cl}(h:Rt l){c:Cl}(hc:c∈l):aO l c.id=some c:=by
 refine lx ?_ hc;rw[List.Nodup,zj3];exact h.asc.imp fun h=>by omega
theorem jp {tl:List Cl}:∀ {l:List Cl},lH tl l=none→∀ x∈l,x.dim>1→cf tl x=0
 | [],_,x,hx,_=>by simp at hx
 | y::r,h,x,hx,hd=>by
  unfold lH at h;split at h
  ·cases h
  ·rename_i hn
   rcases ze4.1 hx with rfl | hx
   ·exact zg3 fun h=>hn ⟨hd,h⟩
   ·exact jp h x hx hd
theorem qQ {tl:List Cl}:∀ {l:List Cl} {p:Int×Int},lH tl l=some p→p.2≠0
 | [],_,h=>by cases h
 | y::r,p,h=>by
  unfold lH at h;split at h
  ·rename_i hn; cases h; exact hn.2
  ·exact qQ h
theorem tu (l:List Cl):∀ c∈aa l,c.sides.Pairwise fun a b=>a.cell≤b.cell:=fun c hc=>by
 obtain ⟨d,_,rfl⟩:=ze5.1 hc;exact df d.sides
theorem kY {l:List Cl}(h:(a6 l).2=0):Rt (aa l):=by
 have h1:=jS h;obtain ⟨h2,h3,h4⟩:=cA h1;have ht:=a8 h2;have h5:l.length≤4000:=yz h;refine⟨by rw[aq]; exact h5,h2,h3,fun x hx=>C4 (by rw[← ht]; exact h4 x hx) (tu l x hx),?_⟩;have h6:lH (ae l) (aa l)=none:=by
  unfold a6 at h;rw[zf3 oM,h1] at h;cases hc:lH (ae l) (aa l) with
  | none=>rfl
  | some p =>
   rw[hc] at h;exact absurd h (qQ hc)
 rw[ht] at h6;exact jp h6
theorem gl {l m:List Int}(h:l.Perm m):l.sum=m.sum:=by
 induction h with
 | nil=>rfl
 | cons x _ ih=>simp[ih]
 | swap x y l=>simp; omega
 | trans _ _ ih1 ih2=>exact ih1.trans ih2
theorem xY {l m:List Nat}(h:l.Perm m):l.sum=m.sum:=by
 induction h with
 | nil=>rfl
 | cons x _ ih=>simp[ih]
 | swap x y l=>simp; omega
 | trans _ _ ih1 ih2=>exact ih1.trans ih2
theorem fx {α:Type}{key:α→Int}(l:List α):(sortBy key l).Perm l:=by
 have hi:∀ (x:α) (l:List α),(ins key x l).Perm (x::l):=by
  intro x l;induction l with
  | nil=>exact .refl _
  | cons y r ih =>
   unfold ins;split
   ·exact .refl _
   ·exact (ih.cons y).trans (.swap x y r)
 induction l with
 | nil=>exact .refl _
 | cons x r ih=>exact (hi x _).trans (ih.cons x)
def inner (tl:List Cl)(x:ai)(r:Int):Int:=((ao tl x).map fun q=>if q.cell=r then x.sign * q.sign else 0).sum
theorem cN (tl:List Cl)(l:List ai)(r:Int):sumR tl l r=(l.map fun x=>inner tl x r).sum:=by
 unfold sumR;induction l with
 | nil=>rfl
 | cons x q ih=>simp only[zg8,List.sum_append,zf7,List.sum_cons,ih]; rfl
theorem qm {tl:List Cl}{l m:List ai}(h:l.Perm m)(r:Int):sumR tl l r=sumR tl m r:=by
 rw[cN,cN];exact gl (h.map _)
theorem qN {tl:List Cl}{l m:List ai}(h:l.Perm m)(r:Int):cntR tl l r=cntR tl m r:=xY (h.map _)
def sgn (b:Bool):Int:=if b then -1 else 1
theorem qz (b:Bool){a:Int}(h:a=1∨a = -1):rq b a=sgn b * a∧(rq b a=1∨rq b a = -1):=by
 rcases h with rfl | rfl <;> cases b <;> exact⟨by decide,by decide⟩
theorem bG {α:Type}{l:List α}{f g:α→Int}{K:Int}(h:∀ x∈l,f x=K * g x):(l.map f).sum=K * (l.map g).sum:=by
 induction l with
 | nil=>simp
 | cons x r ih =>
  simp only[zf7,List.sum_cons];rw[h x (by simp),ih fun y hy=>h y (by simp[hy]),Int.mul_add]
structure Nm (l:List Cl)(k:Int):Prop where
 inj:∀ a∈l,∀ b∈l,dG a.id k=dG b.id k→a=b
 pos:∀ a∈l,0<dG a.id k
section
variable {l:List Cl}(h:Rt l){k:Int}(hn:Nm l k)(t:Int)
include h hn
omit hn in
theorem eY (c:Cl)(hc:c∈l){x:ai}(hx:x∈c.sides):∃ d∈l,d.id=x.cell∧aO l x.cell=some d∧d.dim=c.dim - 1:=by
 obtain ⟨d,hd,hdd⟩:=(h.form c hc).found x hx;obtain ⟨h1,h2⟩:=ck hd;exact⟨d,h1,h2,hd,hdd⟩
theorem BH:((l.map (aA k t)).map Cl.id).Nodup:=by
 rw[zh8,List.Nodup,zj3];refine List.Pairwise.imp_of_mem ?_ h.asc;intro a b ha hb hlt e;have:=hn.inj a ha b hb e;subst this;omega
theorem qw:((aa (l.map (aA k t))).map Cl.id).Nodup:=by
 have h1:=BH h hn t;have h2:((aa (l.map (aA k t))).map Cl.id).Perm ((l.map (aA k t)).map Cl.id):=by
  rw[kJ];exact (fx _).map _
 exact h2.symm.nodup h1
omit h hn in
theorem BG {c:Cl}(hc:c∈l):aI (aA k t c)∈aa (l.map (aA k t)) :=
 ze5.2 ⟨_,(cQ _ _).2 (ze5.2 ⟨c,hc,rfl⟩),rfl⟩
omit h hn in
theorem lV {c':Cl}(hc:c'∈aa (l.map (aA k t))):∃ c∈l,c'=aI (aA k t c):=by
 obtain ⟨d,hd,rfl⟩:=ze5.1 hc;obtain ⟨c,hc',rfl⟩:=ze5.1 ((cQ _ _).1 hd);exact⟨c,hc',I⟩
theorem lp {c:Cl}(hc:c∈l):aO (aa (l.map (aA k t))) (dG c.id k)=some (aI (aA k t c)) :=
 lx (x:=aI (aA k t c)) (qw h hn t) (BG t hc)
omit h hn in
theorem dT (c:Cl):(aI (aA k t c)).sides.Perm (c.sides.map (aY k t c)):=fx _
omit hn in
theorem ln {c:Cl}(hc:c∈l){x:ai}(hx:x∈c.sides):(aY k t c x).sign=sgn (gO t c x.cell) * (sgn (ij t c) * x.sign)∧((aY k t c x).sign=1∨(aY k t c x).sign = -1):=by
 have h1:=qz (ij t c) ((h.form c hc).sg x hx);have h2:=qz (gO t c x.cell) h1.2;exact⟨by rw[← h1.1]; exact h2.1,h2.2⟩
theorem tW {c:Cl}(hc:c∈l):Fm (aa (l.map (aA k t))) (aI (aA k t c)):=by
 have hf:=h.form c hc;have hlen:(aI (aA k t c)).sides.length=c.sides.length:=by rw[(dT t c).length_eq,zd9]
 have hmem:∀ x',x'∈(aI (aA k t c)).sides↔∃ x∈c.sides,aY k t c x=x':=fun x'=>by rw[(dT t c).mem_iff,ze5]
 refine⟨hf.dim,?_,fun x' hx'=>?_,?_,fun x' hx'=>?_,fun hd=>?_⟩
 ·have:=hf.cnt;unfold aw at this ⊢;rw[hlen];exact this
 ·obtain ⟨x,hx,rfl⟩:=(hmem x').1 hx';obtain ⟨d,hd,hid,_,hdd⟩:=eY h c hc hx;have:=lp h hn t hd;rw[hid] at this;exact⟨_,this,hdd⟩
 ·have h1:(aI (aA k t c)).sides.Pairwise fun a b=>a.cell≤b.cell:=df _;have h2:((aI (aA k t c)).sides.map ai.cell).Nodup:=by
   refine ((dT t c).map ai.cell).symm.nodup ?_;rw[zh8,List.Nodup,zj3];refine List.Pairwise.imp_of_mem ?_ hf.asc;intro a b ha hb hlt e;obtain ⟨d,hd,hid,_⟩:=eY h c hc ha;obtain ⟨d',hd',hid',_⟩:=eY h c hc hb;have e:dG a.cell k=dG b.cell k:=e;rw[← hid,← hid'] at e;have:=hn.inj d hd d' hd' e;subst this;omega
  rw[List.Nodup,zj3] at h2;exact (h1.and h2).imp fun ⟨h3,h4⟩=>by omega
 ·obtain ⟨x,hx,rfl⟩:=(hmem x').1 hx';exact (ln h t hc hx).2
 ·have hd:c.dim=1:=hd;have h1:=hf.one hd;unfold km at h1 ⊢;rw[gl ((dT t c).map ai.sign),zh8];rw[bG (g:=ai.sign) (K:=sgn (ij t c)) fun x hx=>?_,h1,Int.mul_zero];have h2:=(ln (k:=k) h t hc hx).1;have h3:gO t c x.cell=false:=by unfold gO; simp[hd]
  rw[h3] at h2;show (aY k t c x).sign=_;rw[h2];unfold sgn;simp
theorem o5 {c:Cl}(hc:c∈l){x:ai}(hx:x∈c.sides){e:Cl}(he:e∈l):hits (aa (l.map (aA k t))) (aY k t c x) (dG e.id k)=hits l x e.id:=by
 obtain ⟨d,hd,hid,hfd,_⟩:=eY h c hc hx;unfold hits ao;rw[hfd,show (aY k t c x).cell=dG d.id k by rw[hid]; rfl,lp h hn t hd];show ((aI (aA k t d)).sides.filter _).length=_;rw[((dT t d).filter _).length_eq,List.filter_map,zd9];congr 1;refine List.filter_congr fun q hq=>?_;obtain ⟨u,hu,hui,_⟩:=eY h d hd hq;show decide (dG q.cell k=dG e.id k)=decide (q.cell=e.id);rw[decide_eq_decide,← hui];by_cases hue:u=e
 ·subst hue; simp
 ·have h1:¬ dG u.id k=dG e.id k:=fun e'=>hue (hn.inj u hu e he e');have h2:¬ u.id=e.id:=fun e'=>hue (by have a1:=h.find hu; have a2:=h.find he; rw[e',a2] at a1; injection a1 with a1; exact a1.symm);simp[h1,h2]
theorem mY {c:Cl}(hc:c∈l){x:ai}(hx:x∈c.sides){r:Int}(hr:∀ e∈l,dG e.id k≠r):hits (aa (l.map (aA k t))) (aY k t c x) r=0:=by
 obtain ⟨d,hd,hid,hfd,_⟩:=eY h c hc hx;unfold hits ao;rw[show (aY k t c x).cell=dG d.id k by rw[hid]; rfl,lp h hn t hd];show ((aI (aA k t d)).sides.filter _).length=_;rw[((dT t d).filter _).length_eq,List.length_eq_zero_iff,List.filter_eq_nil_iff];intro q' hq';obtain ⟨q,hq,rfl⟩:=ze5.1 hq';obtain ⟨u,hu,hui,_⟩:=eY h d hd hq;have:=hr u hu;rw[hui] at this;show ¬ decide (dG q.cell k=r)=true;simpa using this
theorem xV {c:Cl}(hc:c∈l)(hd1:c.dim>1){x:ai}(hx:x∈c.sides){e:Cl}(he:e∈l) :
  inner (aa (l.map (aA k t))) (aY k t c x) (dG e.id k)=sgn (ij t c) * sgn ((decide (t>1)&&decide (c.dim - 1>1))&&decide (e.id.tmod t=1)) * inner l x e.id:=by
 obtain ⟨d,hd,hid,hfd,hdd⟩:=eY h c hc hx;have hsx:=(ln (k:=k) h t hc hx).1;unfold inner ao;rw[hfd,show (aY k t c x).cell=dG d.id k by rw[hid]; rfl,lp h hn t hd];show ((aI (aA k t d)).sides.map _).sum=_;rw[gl ((dT t d).map _),zh8];show _=_ * (d.sides.map _).sum;refine bG fun q hq=>?_;obtain ⟨u,hu,hui,_⟩:=eY h d hd hq;have hsq:=(ln (k:=k) h t hd hq).1;simp only[Function.comp_def];show (if dG q.cell k=dG e.id k then (aY k t c x).sign * (aY k t d q).sign else 0)=_;by_cases hue:u=e
 ·subst hue;rw[hui,zf4 rfl,zf4 rfl,hsx,hsq];have h1:gO t c x.cell=ij t d:=by
   unfold gO ij;rw[hid];simp[hd1]
  have h2:gO t d q.cell=((decide (t>1)&&decide (c.dim - 1>1))&&decide (q.cell.tmod t=1)):=by
   unfold gO;rw[hdd]
  rw[h1,h2];generalize ij t d=b1;generalize ij t c=b2;generalize ((decide (t>1)&&decide (c.dim - 1>1))&&decide (q.cell.tmod t=1))=b3;cases b1 <;> cases b2 <;> cases b3 <;> simp[sgn,Int.neg_mul,Int.mul_neg]
 ·have h1:¬ dG q.cell k=dG e.id k:=fun e'=>hue (hn.inj u hu e he (by rw[hui]; exact e'));have h2:¬ q.cell=e.id:=fun e'=>hue (by have a1:=h.find hu; have a2:=h.find he; rw[hui,e',a2] at a1; injection a1 with a1; exact a1.symm);rw[zf3 h1,zf3 h2,Int.mul_zero]
omit h hn in
theorem uk {tl:List Cl}{x:ai}{r:Int}(h0:hits tl x r=0):inner tl x r=0:=by
 unfold hits at h0;rw[List.length_eq_zero_iff,List.filter_eq_nil_iff] at h0;unfold inner;have:((ao tl x).map fun q=>if q.cell=r then x.sign * q.sign else 0)=(ao tl x).map fun _=>(0:Int):=zc4 fun q hq=>zf3 (by simpa using h0 q hq);rw[this];generalize ao tl x=m;induction m with
 | nil=>rfl
 | cons a b ih=>simpa using ih
theorem vn {c:Cl}(hc:c∈l)(hd1:c.dim>1):cf (aa (l.map (aA k t))) (aI (aA k t c))=0:=by
 have hf:=h.form c hc;have hf':=tW h hn t hc;have hn0:0<c.sides.length:=by
  have:=hf.cnt;simp[aw] at this;have:=this.2 hd1;omega
 have hlen:(aI (aA k t c)).sides.length=c.sides.length:=by rw[(dT t c).length_eq,zd9]
 have nd:∀ {c:Cl},(c.sides.Pairwise fun a b=>a.cell<b.cell)→(c.sides.map ai.cell).Nodup:=fun h=>by
  rw[List.Nodup,zj3];exact h.imp fun h=>by omega
 obtain ⟨a1,a2,a3⟩:=(ex hn0 (nd hf.asc)).1 (h.around c hc hd1);refine (ex (by rw[hlen]; exact hn0) (nd hf'.asc)).2 ⟨fun r=>?_,fun r=>?_,fun x' hx' y' hy'=>?_⟩
 ·rw[qm (dT t c),cN,zh8];simp only[Function.comp_def];by_cases hr:∃ e∈l,dG e.id k=r
  ·obtain ⟨e,he,rfl⟩:=hr;have h1:=a1 e.id;rw[cN] at h1;rw[bG (g:=fun x=>inner l x e.id) (K:=sgn (ij t c) * sgn ((decide (t>1)&&decide (c.dim - 1>1))&&decide (e.id.tmod t=1))) fun x hx=>xV h hn t hc hd1 hx he,h1,Int.mul_zero]
  ·have hr:∀ e∈l,dG e.id k≠r:=fun e he e'=>hr ⟨e,he,e'⟩;rw[bG (g:=fun _=>(0:Int)) (K:=0) fun x hx=>by
    rw[uk (mY h hn t hc hx hr)];rfl,Int.zero_mul]
 ·rw[qN (dT t c)];unfold cntR;rw[zh8];simp only[Function.comp_def];by_cases hr:∃ e∈l,dG e.id k=r
  ·obtain ⟨e,he,rfl⟩:=hr;have h1:=a2 e.id;unfold cntR at h1;rw[zc4 (g:=fun x=>hits l x e.id) fun x hx=>o5 h hn t hc hx he];exact h1
  ·have hr:∀ e∈l,dG e.id k≠r:=fun e he e'=>hr ⟨e,he,e'⟩;left;rw[zc4 (g:=fun _=>0) fun x hx=>mY h hn t hc hx hr];generalize c.sides=m;induction m with
   | nil=>rfl
   | cons a b ih=>simpa using ih
 ·have hmem:∀ x',x'∈(aI (aA k t c)).sides↔x'∈c.sides.map (aY k t c):=fun x'=>(dT t c).mem_iff;obtain ⟨x,hx,rfl⟩:=ze5.1 ((hmem x').1 hx');obtain ⟨y,hy,rfl⟩:=ze5.1 ((hmem y').1 hy');have hm:∀ x∈c.sides,aY k t c x∈(aI (aA k t c)).sides:=fun x hx=>(hmem _).2 (ze5.2 ⟨x,hx,rfl⟩);refine (a3 x hx y hy).map (f:=fun a=>dG a k) fun a b=>?_;rintro ⟨u,hu,v,hv,rfl,rfl,r,h1,h2⟩;obtain ⟨du,hdu,hidu,hfu,_⟩:=eY h c hc hu;have hr:∃ e∈l,e.id=r:=by
   unfold hits ao at h1;rw[hfu] at h1;obtain ⟨q,hq⟩:=List.exists_mem_of_length_pos h1;obtain ⟨hq1,hq2⟩:=zg7.1 hq;obtain ⟨e,he,hei,_⟩:=eY h du hdu (x:=q) hq1;exact⟨e,he,by rw[hei]; simpa using hq2⟩
  obtain ⟨e,he,rfl⟩:=hr;exact .one ⟨_,hm u hu,_,hm v hv,I,I,dG e.id k,by rw[o5 h hn t hc hu he]; exact h1,by rw[o5 h hn t hc hv he]; exact h2⟩
theorem xU:Rt (aa (l.map (aA k t))):=by
 refine⟨by rw[aq,zd9]; exact h.few,?_,fun x' hx'=>?_,fun x' hx'=>?_,fun x' hx' hd=>?_⟩
 ·have h1:=fj (l.map (aA k t));have h2:=qw h hn t;rw[zj3] at h1;rw[List.Nodup,zj3] at h2;exact (h1.and h2).imp fun ⟨h3,h4⟩=>by omega
 ·obtain ⟨c,hc,rfl⟩:=lV t hx';exact hn.pos c hc
 ·obtain ⟨c,hc,rfl⟩:=lV t hx';exact tW h hn t hc
 ·obtain ⟨c,hc,rfl⟩:=lV t hx';exact vn h hn t hc hd
end
def Bd (l:List Cl):Prop:=∀ c∈l,c.id≤l.length
theorem wP (ls:List (List Int)):Rt (bA ls)∧Bd (bA ls):=by
 have h1:=kY (l:=bA ls) (by rw[mX]);have h2:aa (bA ls)=bA ls:=by
  unfold bA;cases az [] ls with
  | none=>rfl
  | some all=>exact fy _
 rw[h2] at h1;refine⟨h1,?_⟩;unfold bA;cases h:az [] ls with
 | none=>intro c hc; simp at hc
 | some all =>
  obtain ⟨hg,_⟩:=fM ls [] h fW.nil (by simp);dsimp only;rw[hg.cells];intro c hc;obtain ⟨s,hs,rfl⟩:=ze5.1 hc;have:=(ze8.1 (hg.get_lb hs)).1;show ixC all s≤_;unfold ixC;rw[zd9];omega
theorem A4 {l:List Int}{x:Int}(h:x∈l):lbI l x<l.length:=by
 unfold lbI;induction l with
 | nil=>simp at h
 | cons a r ih =>
  rw[zh9]
  rcases ze4.1 h with rfl | h
  ·have:=zc1 (fun y=>decide (y<x)) r;simp;omega
  ·have:=ih h;split
   ·simp only[ze2]; omega
   ·simp only[ze2]; omega
theorem rV (a b:List Cl):Rt (br a b)∧Bd (br a b)∧(br a b).length≤a.length * b.length:=by
 rw[zO];unfold Bi;split
 ·exact⟨⟨by simp,List.Pairwise.nil,by simp,by simp,by simp⟩,fun c hc=>by simp at hc,by simp⟩
 ·rename_i hbad;split
  ·rename_i hok;have hlen:(aa (cG a b)).length=a.length * b.length:=by
    rw[aq];unfold cG;rw[gY,aq,aq]
   refine⟨kY hok,fun c hc=>?_,by rw[hlen]; exact lR _⟩;rw[hlen];obtain ⟨h1,h2,_⟩:=vv (by simpa using hbad);have ta:=a8 (cA (jS h1)).1;have tb:=a8 (cA (jS h2)).1;obtain ⟨d,hd,rfl⟩:=ze5.1 hc;have hd:=(cQ _ _).1 hd;unfold cG at hd;rw[ta,tb] at hd;obtain ⟨x,hx,hd⟩:=List.mem_flatMap.1 hd;obtain ⟨y,hy,rfl⟩:=ze5.1 hd;have l1:=A4 (ze5.2 ⟨x,hx,rfl⟩:x.id∈(aa a).map Cl.id);have l2:=A4 (ze5.2 ⟨y,hy,rfl⟩:y.id∈(aa b).map Cl.id);rw[zd9,aq] at l1 l2;show aN (aa a) (aa b) x.id y.id≤_;unfold aN;rw[aq];have h3:(lbI ((aa a).map Cl.id) x.id+1) * b.length≤a.length * b.length:=Nat.mul_le_mul_right _ l1;rw[Nat.succ_mul] at h3;have h4:((lbI ((aa a).map Cl.id) x.id * b.length:Nat):Int)=(lbI ((aa a).map Cl.id) x.id:Int) * (b.length:Int):=Int.natCast_mul _ _;rw[← h4];omega
  ·exact⟨⟨by simp,List.Pairwise.nil,by simp,by simp,by simp⟩,fun c hc=>by simp at hc,by simp⟩
theorem vw:∀ n,n<7→2≤n→(a6 (rm n)).2=0∧∀ c∈rm n,c.id≤90:=by decide +kernel
theorem jw:∀ (ls acc:List (List Int)) {all:List (List Int)},az acc ls=some all→(∀ x∈ls,x.length≤2)→all.length≤acc.length+3 * ls.length
 | [],acc,all,h,_=>by cases h; simp
 | s::r,acc,all,h,hl=>by
  have hs:=hl s (by simp);have h3:(bI s).length≤s.length:=by
   unfold bI;exact zj5 (gV _ _) (by rw[eL]; exact lR _)
  simp only[ze2];unfold az at h;split at h
  ·have:=jw r acc h fun x hx=>hl x (by simp[hx]);omega
  ·split at h
   ·cases h
   ·have h1:=jw r _ h fun x hx=>hl x (by simp[hx]);have h2:(dE acc (bI s)).length≤acc.length+3:=by
     unfold dE;refine zj5 (gV _ _) ?_;rw[(gr _).length_eq,zd8];have:2 ^ (bI s).length≤2 ^ 2:=Nat.pow_le_pow_right dC oM;simp[bk];omega
    omega
theorem ot:(bA [[0,1],[1,2],[0,2]]).length≤9:=by
 unfold bA;cases h:az [] [[0,1],[1,2],[0,2]] with
 | none=>simp
 | some all =>
  have:=jw _ _ h dC;dsimp only;rw[aq,bg];simpa using this
theorem wQ (m:Int)(ls:List (List Int))(y:Int):Rt (nM (me m ls y))∧∀ c∈nM (me m ls y),c.id≤90:=by
 have key:∀ l:List Cl,Rt l→(l.length≤45→∀ c∈l,c.id≤90)→Rt (nM l)∧∀ c∈nM l,c.id≤90:=by
  intro l h1 h2;unfold nM;split
  ·have h3:=rV (bA [[0,1],[1,2],[0,2]]) (bA [[0,1],[1,2],[0,2]]);refine⟨h3.1,fun c hc=>?_⟩;have h4:=h3.2.1 c hc;have h5:=h3.2.2;have h6:nz.length≤9 * 9:=zj5 h5 (Nat.mul_le_mul ot ot);have h7:c.id≤nz.length:=h4;omega
  ·exact⟨h1,h2 oM⟩
 have hS:∀ ls,Rt (nM (bA ls))∧∀ c∈nM (bA ls),c.id≤90:=fun ls=>key _ (wP ls).1 fun hl c hc=>by have:=(wP ls).2 c hc; omega
 have hP:∀ a b,Rt (nM (br a b))∧∀ c∈nM (br a b),c.id≤90:=fun a b=>key _ (rV a b).1 fun hl c hc=>by have:=(rV a b).2.1 c hc; omega
 have h5:=aW y 5 dC dC;unfold me
 repeat' split
 ·exact hS _
 ·exact hP _ _
 ·have h6:=vw (2+bC y 5).toNat oM oM;have h7:=kY h6.1;rw[show aa (rm (2+bC y 5).toNat)=rm (2+bC y 5).toNat from fy _] at h7;exact key _ h7 fun _=>h6.2
 ·exact hP _ _
 ·exact hS _
 ·exact hS _
theorem BQ:∀ k∈[1,3,5],∀ a,a<91→∀ b,b<91→dG (a:Nat) k=dG (b:Nat) k→a=b:=by decide +kernel
theorem BP:∀ k∈[1,3,5],∀ a,a<91→0<a→0<dG (a:Nat) k:=by decide +kernel
theorem n9 (kd:Int)(ls:List (List Int))(y:Int):Rt (jh kd ls y):=by
 obtain ⟨h1,h2⟩:=wQ (bC kd 8) ls y;have hk:wl y∈[(1:Int),3,5]:=by
  have:=aW (IntKind.i64.wrap (y.tdiv 7)) 3 dC dC;unfold wl;generalize bC (IntKind.i64.wrap (y.tdiv 7)) 3=q at *
  rcases (by omega:q=0∨q=1∨q=2) with rfl | rfl | rfl <;> decide
 refine xU h1 ⟨fun a ha b hb e=>?_,fun a ha=>?_⟩ _
 ·have p1:=h1.pos a ha;have p2:=h1.pos b hb;have q1:=h2 a ha;have q2:=h2 b hb;have e1:((a.id.toNat:Nat):Int)=a.id:=Int.toNat_of_nonneg oM;have e2:((b.id.toNat:Nat):Int)=b.id:=Int.toNat_of_nonneg oM;have:=BQ _ hk a.id.toNat oM b.id.toNat oM (by rw[e1,e2]; exact e);have hid:a.id=b.id:=oM;have f1:=h1.find ha;have f2:=h1.find hb;rw[hid,f2] at f1;injection f1 with f1
  exact f1.symm
 ·have p1:=h1.pos a ha;have q1:=h2 a ha;have e1:((a.id.toNat:Nat):Int)=a.id:=Int.toNat_of_nonneg oM;have:=BP _ hk a.id.toNat oM oM;rw[e1] at this;exact this
theorem CG:∀ k∈[1,3,5],∀ a,a<91→dG (a:Nat) k≤300:=by decide +kernel
theorem z6 (kd:Int)(ls:List (List Int))(y:Int):∀ c∈jh kd ls y,fI c.id:=by
 intro c hc;have h0:=(n9 kd ls y).pos c hc;obtain ⟨h1,h2⟩:=wQ (bC kd 8) ls y;have hk:wl y∈[(1:Int),3,5]:=by
  have:=aW (IntKind.i64.wrap (y.tdiv 7)) 3 dC dC;unfold wl;generalize bC (IntKind.i64.wrap (y.tdiv 7)) 3=q at *
  rcases (by omega:q=0∨q=1∨q=2) with rfl | rfl | rfl <;> decide
 obtain ⟨a,ha,rfl⟩:=lV (Ba y) hc;have p1:=h1.pos a ha;have q1:=h2 a ha;have e1:((a.id.toNat:Nat):Int)=a.id:=Int.toNat_of_nonneg oM;have:=CG _ hk a.id.toNat oM;rw[e1] at this;have h3:(aI (aA (wl y) (Ba y) a)).id=dG a.id (wl y):=rfl;rw[h3] at h0 ⊢;unfold fI;omega
def part (l:List Cl)(p:Int→Bool):List Cl:=l.filter fun c=>p c.id
def sb (l:List Cl)(p:Int→Bool):Prop:=∀ c∈l,p c.id=true→∀ x∈c.sides,p x.cell=true
theorem m8 {l:List Cl}(h:Rt l)(ids:List Int):sb l fun k=>(ef l ids).contains k:=by
 intro c hc hp x hx;have hm:c.id∈ef l ids:=by simpa using hp
 obtain ⟨id,hid,hr⟩:=(mr l ids c.id).1 hm;obtain ⟨d,hd,_⟩:=(h.form c hc).found x hx;have ha:jk l c.id=some (c.sides.map ai.cell):=by unfold jk; rw[h.find hc]; rfl
 have:x.cell∈ef l ids:=(mr l ids x.cell).2 ⟨id,hid,hr.snoc ha (ze5.2 ⟨x,hx,rfl⟩) (by unfold jk; rw[hd]; simp)⟩;simpa using this
section
variable {l:List Cl}(h:Rt l){p q:Int→Bool}(hp:sb l p)(hq:sb l q)
include h hp hq
end
end Go.Proofs.YtcfkpajlakidbaaGreat
namespace Go.Sy
open Go
structure Md where
 ro:Option Nat
 ds:List Deferred
def wf (ro:Option Nat):Fence:={ fn:=fun _=>True,depth:=none,alive:=false,round:=ro }
section
variable {P:Program}{M:Md}{N:Nat}{E:World}{Q:Exit→Act→World→Prop}{f f':Fr}{g g':PH}{s s':Own}{ops:Array Oper}
end
section
variable {P:Program}{M:Md}{N:Nat}{E:World}{Q:Exit→Act→World→Prop}{f:Fr}{g:PH}{s:Own}{dst:Option Tmp}{ty:TypeId}{pos:String}{af:Array Edge}{gd:Option (Nat×Bool)}
end
end Go.Sy
namespace Go.Proofs.YtcfkpajlakidbaaGreat
open _root_.Go.Proofs.Tryz _root_.Go.Proofs.YtcfkpajlakidbaaGreat.Tryz
open Go Go.Sy Go.Pl Go.Proofs
set_option maxRecDepth 100000
set_option maxHeartbeats 1000000
theorem yq {α β:Type}{l:List α}{k:Nat}(h:k<l.length)(p:α→Bool)(f:α→β):((l.take (k+1)).filter p).map f=((l.take k).filter p).map f++(if p l[k] then [f l[k]] else []):=by
 rw[tS h,zg9,zf8];congr 1;simp only[zh9,List.filter_nil];split <;> rfl
theorem BX {α β:Type}(l:List α)(k:Nat)(p:α→Bool)(f:α→β):(((l.take k).filter p).map f).length≤k:=by
 rw[zd9];refine zj5 (zc1 _ _) ?_;rw[zd7]; omega
def nB:List Cl→Int→Int
 | [],m=>m
 | c::r,m=>nB r (max m c.dim)
def wq (l:List Cl):Int:=nB (ae l) (-1)
theorem m0 (c:Cl):∀ (l:List Cl) (m:Int),nB (l++[c]) m=max (nB l m) c.dim
 | [],_=>rfl
 | _::r,_=>m0 c r _
theorem SU.maxI {P:Program}{N:Nat}{f:Fr}{dst:Option Tmp}{ty:TypeId}{pos:String}{af:Array Edge}{gd:Option (Nat×Bool)}{x y:Operand}{T U:TypeId}{m n:Int}(hx:ev f x=some (vi m))(hy:ev f y=some (vi n)) :
  SU P N ⟨dst,.call ⟨.builtin .max,#[x,y],#[T,U]⟩,ty,pos,af,gd⟩ f (vi (max m n)):=fun a w ha=>by
 have h:=run_max_int2 (P:=P) (w:=w) #[T,U] ty .i64 .i64 m n;have h2:(if m<n then n else m)=max m n:=by split <;> omega
 rw[h2] at h;simp[execOp,resolve,invoke,builtin,ha.ev hx,ha.ev hy,h]
end Go.Proofs.YtcfkpajlakidbaaGreat
namespace Go.Sy
open Go
section
variable {α:Type}{k:Nat}{P:Program}{N:Nat}{E:World}{f:Fr}{g:PH}{s:Own}{dst:Option Tmp}{ty:TypeId}{pos:String}{af:Array Edge}{gd:Option (Nat×Bool)}
end
end Go.Sy
namespace Go.Sy
open Go
section
variable {P:Program}{N:Nat}{f:Fr}{dst:Option Tmp}{ty:TypeId}{pos:String}{af:Array Edge}{gd:Option (Nat×Bool)}
theorem SU.or {x y:Operand}{T U:TypeId}{k:IntKind}{m n:Int}(hx:ev f x=some (.int k m))(hy:ev f y=some (.int k n)) :
  SU P N ⟨dst,.binOp .or T x y U,ty,pos,af,gd⟩ f (.int k (k.wrap (BitVec.ofInt k.bits m ||| BitVec.ofInt k.bits n).toNat)):=fun a w ha=>by
 simp only[execOp,ha.ev hx,ha.ev hy,eqGuard,binOp,ne_eq,not_true_eq_false,if_false,Op.intBits]; rfl
end
end Go.Sy
namespace Go.Proofs.YtcfkpajlakidbaaGreat
open _root_.Go.Proofs.Tryz _root_.Go.Proofs.YtcfkpajlakidbaaGreat.Tryz
open Go Go.Sy Go.Pl Go.Proofs
set_option maxRecDepth 100000
set_option maxHeartbeats 1000000
theorem x4 {l m:List Cl}(h:l.Perm m):∀ a,nB l a=nB m a:=by
 induction h with
 | nil=>exact fun _=>rfl
 | cons x _ ih=>exact fun a=>ih _
 | swap x y l=>intro a; simp only[nB]; congr 1; omega
 | trans _ _ h1 h2=>exact fun a=>(h1 a).trans (h2 a)
theorem uA (E:World)(g:PH)(s:Own)(v:Value)(l:List Cl)(hv:ar g v l)(hf:dM l) :
  Ctr Tryz.prog E 32 #[.agg #[v]] g s (fun r g' s'=>r=vi (wq l)∧s=s'∧Le g g'):=by
 have hft:=iC hf;have hfl:=hft.1;refine za9 (args:=[.agg #[v]]) func32 I ntmps32 (bE I) ?_;refine rZ (bW (bO I) fun b1=>?_);refine aT I (rZ (aT I (sQ (rZ (lK (qV 0 bZ aH I I I) (lW (cL call50 I (oI E g _ v l hv hf)) ?_))))));rintro tv g1 _ ⟨rfl,hle,ht⟩;have htab:=ht;obtain ⟨b,m,iv,rs,rfl,hb,hm,hI,hall⟩:=ht;obtain ⟨es,clk,hes,hmi⟩:=hm;refine lU (nC I) (lU (fA l7 I sizeOf98 I) (lK (qL isAgg98 I (cK hb I)) (lW (SO.range underlying98 I hes) ?_)));rintro _ _ _ ⟨it,rfl,rfl,rfl⟩;refine tZ (bK ?_);have hlen:=hall.length;refine oP (ι:=List MapEntry×List (Int×Value)×List Cl) (fun i=>[(3,vi (nB i.2.2 (-1))),(11,pp it 0)]) (fun _=>g1)
  (fun i=>iT it m es clk i.1::pt b1 (.cells #[v] 30 (0,0))::s)
  (fun i=>nF (rs.map cm) es i.1 i.2.1∧(∀ c∈i.2.2,c∈ae l)∧i.2.1.map Prod.fst=i.2.2.map Cl.id) (fun i=>rs.length - i.2.1.length)
  ([],[],[]) sB rfl rfl ⟨nF.nil _ _,by simp,rfl⟩ ?_
 rintro ⟨vis,vl,vc⟩ ⟨hrv,hvs,hvl⟩;dsimp only at hrv hvs hvl ⊢;have hvle:=hrv.len hmi;simp only[zd9] at hvle;have hvcl:vl.length=vc.length:=by have:=zd5 List.length hvl; simpa using this
 refine rZ (lW (SO.nextP 0 I I hes hmi hrv) ?_);rintro _ _ _ ⟨rfl,hcase⟩
 rcases hcase with ⟨rfl,rfl,hperm⟩ | ⟨e,pr,he,hp1,hk1,hv1,hrv2,rfl,rfl⟩
 ·have hp:=k7 hvl hvs (jb l) hall hperm;refine yX I (tZ (sQ (cF I (xI (tX (tX (bX (tN (sW I (aT I (rE (dR (s':=s) uR ?_))))))))))));exact za6 (.inl I) results32 I ⟨by rw[x4 hp]; rfl,rfl,hle⟩
 ·obtain ⟨x,hx,rfl⟩:=ze5.1 hp1;obtain ⟨cx,hcm,hcx⟩:=uK hall hx;have hvs2:∀ c∈vc++[cx],c∈ae l:=fun c hc=>by
   rcases ze6.1 hc with h | h
   ·exact hvs c h
   ·simp at h; rw[h]; exact hcm
  have hvl2:(vl++[cm x]).map Prod.fst=(vc++[cx]).map Cl.id:=by rw[zf8,zf8,hvl]; simp[cm,hcx.1]
  have hm2:=hrv2.len hmi;simp only[zd9,zd8,ze1] at hm2;obtain ⟨xi,xd,xv⟩:=x;have hxd:xd=cx.dim:=hcx.2.1;subst hxd;have hmx:=m0 cx vc (-1);refine yX I (tZ (sQ (cT I (kP (tN (bK (rZ (lK (SQ.entryP 0 I I hes hmi he hk1 hv1) (yX I (bW (aL zk3) fun b5=>?_))))))))));refine oZ (sK 0 aK I I I I I sB) ?_;refine tZ (rG (lM I (lU (fA au I zT3 I) (lK (qL iT3 I (cO 0 I I)) (lU (SU.eq (v':=vi (nB (vc++[cx]) (-1))) (SU.maxI I I) (zd5 vi hmx.symm)) (lA I (nL (bN (dR (s':=iT it m es clk (vis++[e])::pt b1 (.cells #[v] 30 (0,0))::s) (.cons _ (.refl _)) ?_)))))))));exact gA (vis++[e],vl++[cm ⟨xi,cx.dim,xv⟩],vc++[cx]) sB I I ⟨hrv2,hvs2,hvl2⟩ lN
def ei (l:List Cl):List Int:=l.flatMap fun c=>c.sides.map ai.cell
theorem sE (A:List Cl)(k:Int):(ei A).contains k=im A k:=by
 rw[Bool.eq_iff_iff];simp[ei,im,C6]
theorem rA {A:List Cl}{k:Nat}(h:k<A.length):ei (A.take (k+1))=ei (A.take k)++A[k].sides.map ai.cell:=by
 unfold ei;rw[tS h,List.flatMap_append];simp only[zg8,List.flatMap_nil,zc2]
theorem Af {A:List Cl}{id:Int}(h:aO A id=none)(m:List Int):e8 A (m++[id])=e8 A m:=by
 unfold e8;refine zc4 fun c hc=>?_;have:=List.find?_eq_none.1 h c hc;simp only[zi5] at this;simp[this]
theorem x5 {ss:List ai}{j:Nat}(h:j<ss.length)(m:List Int):m++(ss.take (j+1)).map ai.cell=(m++(ss.take j).map ai.cell)++[ss[j].cell]:=by
 rw[tS h,zf8,zg2]; rfl
theorem rB (E:World)(g:PH)(s:Own)(v:Value)(l:List Cl)(hv:ar g v l)(hf:dM l) :
  Ctr Tryz.prog E 28 #[.agg #[v]] g s (fun r g' s'=>s=s'∧Le g g'∧cd g' r (gP l)):=by
 have hft:=iC hf;have hfl:=hft.1;have hsrt:=fw l;have hnd:=jb l;refine za9 (args:=[.agg #[v]]) func28 I ntmps28 (bE I) ?_;refine rZ (bW (bO I) fun b1=>?_);refine aT I (rZ (aT I (rZ (lK (qV 0 bZ aH I I I) (lW (cL call61 I (fe E g _ _ l hv hf)) ?_)))));rintro v11 g1 _ ⟨rfl,hle,hc⟩;obtain ⟨rs,hrs,hall⟩:=hc;have hcs:ar g1 _ (ae l):=⟨rs,hrs,hall⟩;obtain ⟨q,dd,rfl⟩:=hrs.form;have hrl:=hall.length;refine aT I (sW I (lU (eN aU I) (lW (mK gD false sty107 I I I oM oM) ?_)));rintro _ _ _ ⟨b14,rfl,rfl,rfl⟩;refine aT I (sQ (rZ (aT I (bK ?_))));unfold gP;generalize ae l=A at *;refine SC.to (g':=g1) (s':=rowA gD 4 (.slice (some ⟨b14,0,none⟩) rs.length rs.length) (e8 A (ei (A.take 0)))::pt b1 (.cells #[v] 30 (0,0))::s) (fun w hw=>by rw[show ei (A.take 0)=[] from I,yl,hrl]; exact hw) ?_;refine oP (ι:=Nat) (fun i=>[(3,.slice none 0 0),(4,.slice q rs.length dd),(5,.slice (some ⟨b14,0,none⟩) rs.length rs.length),(6,vi i)]) (fun _=>g1)
  (fun i=>rowA gD 4 (.slice (some ⟨b14,0,none⟩) rs.length rs.length) (e8 A (ei (A.take i)))::pt b1 (.cells #[v] 30 (0,0))::s)
  (fun i=>i≤A.length) (fun i=>A.length - i) 0 sB rfl rfl (ze9 _) ?_
 intro k hk;refine sQ (sW I (lM I (lU (eN aU I) (yL I (tZ ?_)))));refine iP I (fun hlt=>?_) (fun hlt=>?_)
 ·have hkl:k<A.length:=oM;have hkr:k<rs.length:=oM;have hb1:=hrs.based oM;have hcr:=hall.get (gE hkl) (gE hkr);have hgr:rs[((k:Nat):Int).toNat]?=some rs[k]:=gE hkr;have hsucc:=rA hkl;have hxl:=hft.2 _ (gM hkl);generalize A[k]=x at *;generalize rs[k]=r at *;generalize ei (A.take k)=m at *;obtain ⟨ri,rd,rp,rn,rc⟩:=r;have hsv:SlA encSide g1 (.slice rp rn rc) x.sides:=hcr.2.2;have hxn:rn=x.sides.length:=by obtain ⟨q,cc,hq⟩:=za2 hsv; simp at hq; exact hq.2.1
  subst hxn;refine kP (tN (sQ (bK (rZ (aT I (bK ?_))))));refine oP (ι:=Nat) (fun j=>[(3,.slice none 0 0),(4,.slice q rs.length dd),(5,.slice (some ⟨b14,0,none⟩) rs.length rs.length),(6,vi k),(7,vi j)]) (fun _=>g1)
   (fun j=>rowA gD 4 (.slice (some ⟨b14,0,none⟩) rs.length rs.length) (e8 A (m++(x.sides.take j).map ai.cell))::pt b1 (.cells #[v] 30 (0,0))::s)
   (fun j=>j≤x.sides.length) (fun j=>x.sides.length - j) 0 sB rfl (by simp) (ze9 _) ?_
  intro j hj;refine sQ (sW I (lM I (lM I (lU (iA aU aK I I hb1 oM sL) (lU (fC au I co I hb1) (lK (aZ (e:=encCell) (o:=2) (u:=.slice rp x.sides.length rc) dw I hrs.rd hgr I) (lU (eN cI I) (yL I (tZ ?_)))))))));refine iP I (fun hlt2=>?_) (fun hlt2=>?_)
  ·have hjl:j<x.sides.length:=oM;have hb2:=za4 hsv oM;have hgj:x.sides[((j:Nat):Int).toNat]?=some x.sides[j]:=gE hjl;have hms:=x5 hjl m;generalize m++(x.sides.take j).map ai.cell=m2 at *;generalize x.sides[j]=z at *;have hfl2:(e8 A m2).length=A.length:=by simp[e8]
   rcases oS hsrt z.cell with ⟨hf0,hat⟩ | ⟨c,kk,hf0,hat,hck⟩
   ·refine kP (tN (sQ (bK (sW I (lM I (lM I (lU (iA aU aK I I hb1 oM sL) (lU (fC au I co I hb1) (lK (aZ (e:=encCell) (o:=2) (u:=.slice rp x.sides.length rc) dw I hrs.rd hgr I) (lM I (lU (iA cI cq I I hb2 oM sL) (lU (fC dF I zT3 I hb2) (lK (aZ (o:=0) (u:=vi z.cell) iT3 I hsv.rd hgj I) (lW (cL call62 I (gG E g1 _ _ A z.cell hcs hfl hsrt)) ?_))))))))))))));rintro _ _ _ ⟨rfl,rfl,rfl⟩;rw[hat];refine aT I (sW I (lU (SU.eq (v':=vb false) (gQ I I) (zd5 vb (zf1 oM))) (tZ (cF I (kP (bN (tN (rG (lM I (yD I (lA I (nL ?_))))))))))));exact gA (j+1) sB I (by rw[hms,Af hf0]) oM oM
   ·have hkl2:kk<A.length:=(ze8.1 hck).1;have hset:(e8 A m2).set kk true=e8 A (m2++[z.cell]):=by rw[yj hnd hck,(ck hf0).2]
    refine kP (tN (sQ (bK (sW I (lM I (lM I (lU (iA aU aK I I hb1 oM sL) (lU (fC au I co I hb1) (lK (aZ (e:=encCell) (o:=2) (u:=.slice rp x.sides.length rc) dw I hrs.rd hgr I) (lM I (lU (iA cI cq I I hb2 oM sL) (lU (fC dF I zT3 I hb2) (lK (aZ (o:=0) (u:=vi z.cell) iT3 I hsv.rd hgj I) (lW (cL call62 I (gG E g1 _ _ A z.cell hcs hfl hsrt)) ?_))))))))))))));rintro _ _ _ ⟨rfl,rfl,rfl⟩;rw[hat];refine aT I (sW I (lU (SU.eq (v':=vb true) (gQ I I) (zd5 vb (zf2 oM))) (tZ (cT I (rG (lM I (lM I (lU (iA underlying107 sizeOf4 I I I oM sL) (oZ (sT (e:=gD) (a:=true) 0 sizeOf4 I I I (by rw[hfl2]; omega) I) ?_)))))))));refine nL (bN (tN (rG (lM I (yD I (lA I (nL ?_)))))));exact gA (j+1) sB I (by rw[hms,← hset]; rfl) oM oM
  ·have hjj:x.sides.take j=x.sides:=tL oM;rw[hjj,← hsucc];refine xI (tX (tX (bX (bN (tN (rG (lM I (yD I (lA I (nL ?_))))))))));exact gA (k+1) sB I I oM oM
 ·have hkk:A.take k=A:=tL oM;rw[hkk];refine xI (tX (tX (bX (tN (sQ (rZ (aT I (bK (cP (zi9 _ _ _) (cP (zi9 _ _ _) (zb4 3 1 ?_)))))))))));refine oP (ι:=Value×Nat) (fun i=>[(3,i.1),(4,.slice q rs.length dd),(5,.slice (some ⟨b14,0,none⟩) rs.length rs.length),(9,vi i.2)]) (fun _=>g1)
   (fun i=>rowA encInt 3 i.1 (((A.take i.2).filter fun c=>!im A c.id).map Cl.id)::rowA gD 4 (.slice (some ⟨b14,0,none⟩) rs.length rs.length) (e8 A (ei A))::pt b1 (.cells #[v] 30 (0,0))::s)
   (fun i=>i.2≤A.length) (fun i=>A.length - i.2) (.slice none 0 0,0) sB rfl rfl (ze9 _) ?_
  rintro ⟨ov,i⟩ hi;dsimp only at hi ⊢;refine sQ (sW I (lM I (lU (eN aU I) (yL I (tZ ?_)))));refine iP I (fun hlt3=>?_) (fun hlt3=>?_)
  ·have hil:i<A.length:=oM;have hir:i<rs.length:=oM;have hb1:=hrs.based oM;have hcr:=hall.get (gE hil) (gE hir);have hgr:rs[((i:Nat):Int).toNat]?=some rs[i]:=gE hir;have hsucc:=yq hil (fun c=>!im A c.id) Cl.id;have hlek:=BX A i (fun c=>!im A c.id) Cl.id;have hgf:(e8 A (ei A))[((i:Nat):Int).toNat]?=some (im A A[i].id):=by rw[← sE]; exact ym (gE hil)
   generalize A[i]=x at *;generalize rs[i]=r at *;refine kP (tN (sQ (bK (sW I (lM I (lU (iA underlying107 sizeOf4 I I I oM sL) (lK (eB (e:=gD) isAgg4 I (zb5 1 I) hgf I) (lU (SU.not I) (tZ ?_)))))))));refine iQ I (fun htop=>?_) (fun htop=>?_)
   ·refine rG (lM I (lM I (lM I (lU (iA aU aK I I hb1 oM sL) (lU (fC au I zT3 I hb1) (lK (aZ (e:=encCell) (o:=0) (u:=vi x.id) iT3 I hrs.rd hgr (by rw[← hcr.1]; rfl)) ?_))))));refine lW (bS sty25 I I I (ab sB) dC) ?_;rintro _ _ _ ⟨b64,rfl,rfl,rfl⟩;refine lW (aP (e:=encInt) 0 x.id sty25 I I I I I oM oM) ?_;rintro ov' _ _ ⟨rfl,rfl⟩;refine lA I (nL (bN (tN (rG (lM I (yD I (lA I (nL ?_))))))));refine ST.to (fun w hw=>?_) (g':=g1) (s':=rowA encInt 3 ov' (((A.take (i+1)).filter fun c=>!im A c.id).map Cl.id)::rowA gD 4 (.slice (some ⟨b14,0,none⟩) rs.length rs.length) (e8 A (ei A))::pt b1 (.cells #[v] 30 (0,0))::s) ?_
    ·rw[hsucc,zf4 (by simpa using htop)]; exact hw
    exact gA (ov',i+1) sB I I (by dsimp only; omega) lN
   ·refine kP (bN (tN (rG (lM I (yD I (lA I (nL ?_)))))));refine ST.to (fun w hw=>?_) (g':=g1) (s':=rowA encInt 3 ov (((A.take (i+1)).filter fun c=>!im A c.id).map Cl.id)::rowA gD 4 (.slice (some ⟨b14,0,none⟩) rs.length rs.length) (e8 A (ei A))::pt b1 (.cells #[v] 30 (0,0))::s) ?_
    ·rw[hsucc,zf3 (by simpa using htop),zc2]; exact hw
    exact gA (ov,i+1) sB I I (by dsimp only; omega) lN
  ·have hii:A.take i=A:=tL oM;rw[hii];refine xI (tX (tX (bX (tN (sW I (aT I (rE (fT fun g2 hle2 hs2=>?_))))))));refine dR (s':=s) uR ?_;exact za6 (.inl I) results28 I ⟨I,hle.trans hle2,hs2⟩
theorem tq {A:List Cl}{ids:List Int}{x:Int}(h:x∈ef A ids):∃ c∈A,c.id=x:=by
 obtain ⟨c,hc,e⟩:=mG h;exact⟨c,hc,e⟩
theorem zo (l:List Cl):((ae l).map Cl.id).Pairwise (· < ·):=by
 have h1:=fw l;have h2:=jb l;have h3:=h1.and h2;exact h3.imp fun h=>by omega
theorem pS (l:List Cl)(ids:List Int):eV l ids=((ae l).filter fun c=>(ef (ae l) ids).contains c.id).map Cl.id:=by
 unfold eV;refine ia ?_ ?_ fun x=>?_
 ·have h2:=iW (ef (ae l) ids);have h3:(dH (ef (ae l) ids)).Nodup:=(kx _).symm.nodup (m9 _ _);exact (h2.and h3).imp fun ⟨h4,h5⟩=>by omega
 ·exact ((zo l)).sublist (List.filter_sublist.map _)
 ·rw[(kx _).mem_iff,ze5];constructor
  ·intro hx;obtain ⟨c,hc,rfl⟩:=tq hx;exact⟨c,zg7.2 ⟨hc,by simpa using hx⟩,I⟩
  ·rintro ⟨c,hc,rfl⟩;simpa using (zg7.1 hc).2
open Go.ChangeShapes Go.WideShapes Go.ChangeAt Go.RowKit
set_option maxRecDepth 100000
section
variable {H:Type}{enc:TypeId×Value→H}{W:World}{base:Nat}{spare:Nat→Bool}{hd:Bool}
theorem AX {n:Int}(h:(Lit.int .i64 n).wf=true):fI n:=by
 have h2:IntKind.i64.min≤n∧n≤IntKind.i64.max:=by simpa [Lit.wf] using h
 have e1:IntKind.i64.min = -9223372036854775808:=by decide
 have e2:IntKind.i64.max=9223372036854775807:=by decide
 unfold fI;omega
end
end Go.Proofs.YtcfkpajlakidbaaGreat
namespace Go.Sy
open Go Go.MapKept
section
variable {P:Program}{w:World}{t kt et ty:TypeId}{z:Value}{b:Nat}{es:Array MapEntry}{clk:Nat}{l:List (Int×Value)}
end
section
variable {P:Program}{N:Nat}{E:World}{ops:Array Oper}{Q:Exit→Act→World→Prop}{f:Fr}{g:PH}{s:Own}{dst:Option Tmp}{ty:TypeId}{pos:String}{af:Array Edge}{gd:Option (Nat×Bool)}
variable {t kt et:TypeId}{z:Value}{b:Nat}{l:List (Int×Value)}{x y:Operand}{k:Int}
end
end Go.Sy
namespace Go.Sy
open Go
section
variable {P:Program}{N:Nat}{E:World}{f:Fr}{g:PH}{s:Own}{dst:Option Tmp}{ty:TypeId}{pos:String}{af:Array Edge}{gd:Option (Nat×Bool)}
theorem SQ.sof {o:Oper}{v:Value}(h:SQ P N E o f g s v):SO P N E o f g s fun v' g' s'=>v'=v∧g=g'∧s=s':=SO.mono h.so fun _ _ _ ⟨h1,h2,h3⟩=>⟨h1,h2.symm,h3.symm⟩
theorem SQ.loadOne {x:Operand}{T:TypeId}{b o:Nat}{v:Value}(hT:∀ w,(isAgg T).run P w = .ok true w)(hk:∀ w,(sizeOf T).run P w = .ok 1 w)(hx:ev f x=some (pp b o))(hc:em g s ⟨b,o,none⟩ v) :
  SQ P N E ⟨dst,.load T x,ty,pos,af,gd⟩ f g s (.agg #[v]) :=
 SQ.loadAggAt (vs:=[v]) hT hk hx rfl fun j u hu=>by
  cases j with
  | zero=>simp at hu; subst hu; exact hc
  | succ j=>simp at hu
end
section
variable {α:Type}{k:Nat}{P:Program}{N:Nat}{E:World}{f:Fr}{g:PH}{s:Own}{dst:Option Tmp}{ty:TypeId}{pos:String}{af:Array Edge}{gd:Option (Nat×Bool)}
end
section
variable {P:Program}{N:Nat}{E:World}{f:Fr}{g:PH}{s:Own}{fn:Func}{R:Value→PH→Own→Prop}{e:Exit}
end
end Go.Sy
namespace Go.Sy
open Go Go.MapKept
instance quiet_scope {Q:Exit→Act→World→Prop}[h:Quiet Q]:Quiet (Exit.noGoto Q):=⟨fun c a a' w hd hq=>h.out c a a' w hd hq⟩
section
variable {P:Program}{N:Nat}{E:World}{Q:Exit→Act→World→Prop}{f:Fr}{g:PH}{s:Own}
theorem SC.scope {c:Code}(h:SC P N E c (Exit.noGoto Q) f g s):SC P N E (.scope c) Q f g s:=fun a w ha hw=>wp_scope_straight (h a w ha hw)
theorem ST.scopeR (h:ST N E Q .ret f g s):ST N E (Exit.noGoto Q) .ret f g s:=h
end
end Go.Sy
