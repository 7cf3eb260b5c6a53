/- 9 -/
import Derived.Test.YtcfkpajlakidbaaGreatTo05
import Derived.Test.YtcfkpajlakidbaaGreatTo07
import Derived.Test.YtcfkpajlakidbaaGreatTo08
import Derived.SizedLaws
import Derived.Test.YtcfkpajlakidbaaGreatTo06
import Derived.Test.YtcfkpajlakidbaaGreatTo04
import Derived.RangeFuncLeaves
import Derived.RangeFuncRecord
import Derived.RangeFuncSeq
import Derived.OrdersIn
import Derived.TacticsIn
import Derived.Laws.BytesString
import Derived.Laws.Strings
set_option linter.unusedSimpArgs false
set_option linter.unusedVariables false
namespace Go.Proofs.YtcfkpajlakidbaaGreat
open _root_.Go.Proofs.Tryz _root_.Go.Proofs.YtcfkpajlakidbaaGreat.Tryz
open Go Go.Sy Go.Pl Go.Proofs
def vJ (L:List (Int×List ah)):List (Int×Int):=L.foldl (fun zl p=>p.2.foldl (fun zl r=>fF zl r.cell (p.1 * r.sign)) zl) []
def AF (L:List (Int×List ah)):List (Int×List Int):=L.zipIdx.foldl (fun ml p=>p.1.2.foldl (dT p.2) ml) []
def kf (L:List (Int×List ah)):Int :=
 if (vJ L).any (fun p=>decide (p.2≠0)) then 24
 else if (AF L).any (fun p=>decide ((p.2.length:Int)≠2)) then 25
 else if ((hX (cz (AF L))).length:Int)≠L.length then 25 else 0
def ni (tl:List Cl)(c:Cl):List (Int×List ah):=c.sides.map fun x=>(x.sign,ao tl x)
theorem ym (tl:List Cl)(c:Cl):ce tl c=kf (ni tl c):=by
 have h1:fJ tl c.sides=vJ (ni tl c):=by
  unfold fJ vJ ni;rw[List.foldl_map];rfl
 have h2:dQ tl c.sides=AF (ni tl c):=by
  unfold dQ AF ni;rw[List.zipIdx_map,List.foldl_map];rfl
 have h3:(ni tl c).length=c.sides.length:=by simp[ni]
 unfold ce kf;rw[h1,h2,h3]
def yQ (φ:Int→Int)(r:ah):ah:=⟨φ r.cell,r.sign⟩
def s6 (φ:Int→Int)(L:List (Int×List ah)):List (Int×List ah):=L.map fun p=>(p.1,p.2.map (yQ φ))
def vS (L:List (Int×List ah)):List Int:=L.flatMap fun p=>p.2.map ah.cell
def jQ {α:Type}(φ:Int→Int)(zl:List (Int×α)):List (Int×α):=zl.map fun p=>(φ p.1,p.2)
section
variable {φ:Int→Int}{K:Int→Prop}(hφ:∀ a b,K a→K b→φ a=φ b→a=b)
include hφ
theorem Ag {zl:List (Int×Int)}{k:Int}(x:Int)(hz:∀ p∈zl,K p.1)(hk:K k):fF (jQ φ zl) (φ k) x=jQ φ (fF zl k x):=by
 induction zl with
 | nil=>rfl
 | cons p r ih =>
  obtain ⟨a,z⟩:=p;have ha:=hz (a,z) (by simp);simp only[jQ,zf7,fF] at ih ⊢;by_cases h:k=a
  ·subst h; simp
  ·rw[zf3 h,zf3 fun e=>h (hφ k a hk ha e)];simp only[zf7];rw[ih fun p hp=>hz p (by simp[hp])]
theorem Aj {zl:List (Int×List Int)}{k:Int}(x:Int)(hz:∀ p∈zl,K p.1)(hk:K k):eO (jQ φ zl) (φ k) x=jQ φ (eO zl k x):=by
 induction zl with
 | nil=>rfl
 | cons p r ih =>
  obtain ⟨a,z⟩:=p;have ha:=hz (a,z) (by simp);simp only[jQ,zf7,eO] at ih ⊢;by_cases h:k=a
  ·subst h; simp
  ·rw[zf3 h,zf3 fun e=>h (hφ k a hk ha e)];simp only[zf7];rw[ih fun p hp=>hz p (by simp[hp])]
omit hφ in
theorem Ai {zl:List (Int×Int)}{k x:Int}(hz:∀ p∈zl,K p.1)(hk:K k):∀ p∈fF zl k x,K p.1:=by
 induction zl with
 | nil=>intro p hp; simp[fF] at hp; subst hp; exact hk
 | cons q r ih =>
  obtain ⟨a,z⟩:=q;have ha:=hz (a,z) (by simp);intro p hp;simp only[fF] at hp;split at hp
  ·rcases ze4.1 hp with rfl | hp
   ·exact ha
   ·exact hz p (by simp[hp])
  ·rcases ze4.1 hp with rfl | hp
   ·exact ha
   ·exact ih (fun p hp=>hz p (by simp[hp])) p hp
omit hφ in
theorem Ak {zl:List (Int×List Int)}{k x:Int}(hz:∀ p∈zl,K p.1)(hk:K k):∀ p∈eO zl k x,K p.1:=by
 induction zl with
 | nil=>intro p hp; simp[eO] at hp; subst hp; exact hk
 | cons q r ih =>
  obtain ⟨a,z⟩:=q;have ha:=hz (a,z) (by simp);intro p hp;simp only[eO] at hp;split at hp
  ·rcases ze4.1 hp with rfl | hp
   ·exact ha
   ·exact hz p (by simp[hp])
  ·rcases ze4.1 hp with rfl | hp
   ·exact ha
   ·exact ih (fun p hp=>hz p (by simp[hp])) p hp
theorem pW (t:Int):∀ (l:List ah) (zl:List (Int×Int)),(∀ r∈l,K r.cell)→(∀ p∈zl,K p.1) →
  (l.map (yQ φ)).foldl (fun zl r=>fF zl r.cell (t * r.sign)) (jQ φ zl)=jQ φ (l.foldl (fun zl r=>fF zl r.cell (t * r.sign)) zl)∧∀ p∈l.foldl (fun zl r=>fF zl r.cell (t * r.sign)) zl,K p.1
 | [],zl,_,hz=>⟨rfl,hz⟩
 | r::l,zl,hl,hz=>by
  have hr:=hl r (by simp);have:=pW t l (fF zl r.cell (t * r.sign)) (fun q hq=>hl q (by simp[hq])) (Ai hz hr);simp only[zf7,zi1];rw[show (yQ φ r).cell=φ r.cell from rfl,show (yQ φ r).sign=r.sign from rfl,Ag hφ _ hz hr];exact this
theorem tJ (t:Int):∀ (l:List ah) (zl:List (Int×List Int)),(∀ r∈l,K r.cell)→(∀ p∈zl,K p.1) →
  (l.map (yQ φ)).foldl (dT t) (jQ φ zl)=jQ φ (l.foldl (dT t) zl)∧∀ p∈l.foldl (dT t) zl,K p.1
 | [],zl,_,hz=>⟨rfl,hz⟩
 | r::l,zl,hl,hz=>by
  have hr:=hl r (by simp);have:=tJ t l (eO zl r.cell t) (fun q hq=>hl q (by simp[hq])) (Ak hz hr);simp only[zf7,zi1];rw[show dT t (jQ φ zl) (yQ φ r)=jQ φ (eO zl r.cell t) from Aj hφ _ hz hr];exact this
theorem th:∀ (L:List (Int×List ah)) (zl:List (Int×Int)),(∀ k∈vS L,K k)→(∀ p∈zl,K p.1) →
  (s6 φ L).foldl (fun zl p=>p.2.foldl (fun zl r=>fF zl r.cell (p.1 * r.sign)) zl) (jQ φ zl)=jQ φ (L.foldl (fun zl p=>p.2.foldl (fun zl r=>fF zl r.cell (p.1 * r.sign)) zl) zl)
 | [],_,_,_=>rfl
 | p::L,zl,hl,hz=>by
  obtain ⟨h1,h2⟩:=pW hφ p.1 p.2 zl (fun r hr=>hl _ (List.mem_flatMap.2 ⟨p,by simp,ze5.2 ⟨r,hr,rfl⟩⟩)) hz;simp only[s6,zf7,zi1] at h1 ⊢;rw[h1];exact th L _ (fun k hk=>hl k (by simp only[vS,zg8,ze6]; exact .inr hk)) h2
theorem wz:∀ (L:List (Int×List ah)) (i:Nat) (zl:List (Int×List Int)),(∀ k∈vS L,K k)→(∀ p∈zl,K p.1) →
  ((s6 φ L).zipIdx i).foldl (fun ml p=>p.1.2.foldl (dT p.2) ml) (jQ φ zl)=jQ φ ((L.zipIdx i).foldl (fun ml p=>p.1.2.foldl (dT p.2) ml) zl)
 | [],_,_,_,_=>rfl
 | p::L,i,zl,hl,hz=>by
  obtain ⟨h1,h2⟩:=tJ hφ i p.2 zl (fun r hr=>hl _ (List.mem_flatMap.2 ⟨p,by simp,ze5.2 ⟨r,hr,rfl⟩⟩)) hz;simp only[s6,zf7,List.zipIdx_cons,zi1] at h1 ⊢;rw[h1];exact wz L (i+1) _ (fun k hk=>hl k (by simp only[vS,zg8,ze6]; exact .inr hk)) h2
end
theorem wZ {α:Type}(φ:Int→Int)(zl:List (Int×α))(q:α→Bool):(jQ φ zl).any (fun p=>q p.2)=zl.any (fun p=>q p.2):=by
 simp only[jQ,List.any_map];rfl
theorem zH (φ:Int→Int)(ml:List (Int×List Int)):cz (jQ φ ml)=cz ml:=by
 simp only[cz,jQ,List.foldl_map];rfl
theorem sY {φ:Int→Int}{L:List (Int×List ah)}(hφ:∀ a∈vS L,∀ b∈vS L,φ a=φ b→a=b):kf (s6 φ L)=kf L:=by
 have h1:vJ (s6 φ L)=jQ φ (vJ L):=th (K:=fun k=>k∈vS L) (fun a b ha hb=>hφ a ha b hb) L [] (fun _ h=>h) (by simp);have h2:AF (s6 φ L)=jQ φ (AF L):=wz (K:=fun k=>k∈vS L) (fun a b ha hb=>hφ a ha b hb) L 0 [] (fun _ h=>h) (by simp);unfold kf;rw[h1,h2,wZ φ _ fun z=>decide (z≠0),wZ φ _ fun l:List Int=>decide ((l.length:Int)≠2),zH];have h3:(s6 φ L).length=L.length:=by simp[s6]
 rw[h3]
def code (k q:Nat):Int:=if q<k then ((q * 16+k:Nat):Int) else ((k * 16+(q+1):Nat):Int)
def B4 (n:Nat):List (Int×List ah):=(List.range n).reverse.map fun k:Nat=>(ci k,(List.range (n - 1)).reverse.map fun q:Nat=>⟨code k q,ci q⟩)
theorem Bl:∀ n,n<10→2<n→kf (B4 n)=0:=by decide +kernel
theorem fX (b:Nat)(a:Int)(l:List Int):dL b (a::l)=(if b % 2=1 then [a] else [])++dL (b / 2) l:=by
 unfold dL;have hz:∀ (l:List Int) (i:Nat),((l.zipIdx (i+1)).filter fun p=>b / 2 ^ p.2 % 2 == 1).map (·.1)=((l.zipIdx i).filter fun p=>b / 2 / 2 ^ p.2 % 2 == 1).map (·.1):=by
  intro l;induction l with
  | nil=>intro i; rfl
  | cons x r ih =>
   intro i;have hp:b / 2 ^ (i+1)=b / 2 / 2 ^ i:=by rw[Nat.pow_succ,Nat.mul_comm,Nat.div_div_eq_div_mul]
   simp only[List.zipIdx_cons,zh9,hp];have:=ih (i+1);split
   ·simp only[zf7,this]
   ·exact this
 simp only[List.zipIdx_cons,zh9,Nat.pow_zero,Nat.div_one];by_cases h:b % 2=1
 ·simp only[h,if_true,beq_self_eq_true,zf7];rw[hz l 0];rfl
 ·have h2:(b % 2 == 1)=false:=by simpa using h
  simp only[h,h2,if_false,Bool.false_eq_true];rw[hz l 0];rfl
theorem xC (l:List Int):∀ b,(dL b l).Sublist l:=by
 induction l with
 | nil=>intro b; exact .slnil
 | cons a r ih =>
  intro b;rw[fX];split
  ·exact (ih _).cons_cons a
  ·exact (ih _).cons a
theorem zo (l:List Int):∀ b,b≠0→b<2 ^ l.length→dL b l≠[]:=by
 induction l with
 | nil=>intro b h0 h; simp at h; exact absurd h h0
 | cons a r ih =>
  intro b h0 h;rw[fX];split
  ·simp
  ·rename_i h1;rw[ze2,Nat.pow_succ] at h;simpa using ih (b / 2) oM oM
theorem sh {x l:List Int}(h:x.Sublist l):∃ b,b<2 ^ l.length∧dL b l=x:=by
 induction h with
 | slnil=>exact⟨0,by simp,rfl⟩
 | cons a _ ih =>
  obtain ⟨b,hb,e⟩:=ih;refine⟨2 * b,by rw[ze2,Nat.pow_succ]; omega,?_⟩;rw[fX,zf3 oM,show 2 * b / 2=b by omega,e];rfl
 | cons_cons a _ ih =>
  obtain ⟨b,hb,e⟩:=ih;refine⟨2 * b+1,by rw[ze2,Nat.pow_succ]; omega,?_⟩;rw[fX,zf4 oM,show (2 * b+1) / 2=b by omega,e];rfl
theorem fy (t x:List Int):x∈bh t↔x.Sublist t∧x≠[]:=by
 unfold bh;constructor
 ·intro h;obtain ⟨i,hi,rfl⟩:=ze5.1 h;have:=List.mem_range.1 hi;exact⟨xC _ _,zo _ _ oM oM⟩
 ·rintro ⟨h,hne⟩;obtain ⟨b,hb,rfl⟩:=sh h;have h0:b≠0:=fun e=>by
   subst e;apply hne;have:∀ l:List Int,dL 0 l=[]:=by
    intro l;induction l with
    | nil=>rfl
    | cons a r ih=>rw[fX]; simpa using ih
   exact this t
  exact ze5.2 ⟨b - 1,List.mem_range.2 oM,by rw[show b - 1+1=b by omega]⟩
structure fG (all:List (List Int)):Prop where
 strict:dP all
 form:∀ s∈all,s≠[]∧cR s∧s.length≤9
 faces:∀ s∈all,2≤s.length→∀ k,k<s.length→s.eraseIdx k∈all
theorem fG.nil:fG []:=⟨List.Pairwise.nil,by simp,by simp⟩
theorem fG.add {all:List (List Int)}{t:List Int}(h:fG all)(ht:cR t)(hl:t.length≤9):fG (dD all t):=by
 refine⟨jj all t,fun s hs=>?_,fun s hs h2 k hk=>?_⟩
 ·rcases (fk all t s).1 hs with h1 | h1
  ·exact h.form s h1
  ·obtain ⟨h2,h3⟩:=(fy t s).1 h1;exact⟨h3,ht.sublist h2,zj8 h2.length_le hl⟩
 ·refine (fk all t _).2 ?_
  rcases (fk all t s).1 hs with h1 | h1
  ·exact .inl (h.faces s h1 h2 k hk)
  ·refine .inr ((fy t _).2 ⟨(List.eraseIdx_sublist s k).trans ((fy t s).1 h1).1,fun e=>?_⟩);have:=zd5 List.length e;rw[List.length_eraseIdx] at this;simp[hk] at this;omega
theorem fz:∀ (ls acc:List (List Int)) {all:List (List Int)},aC acc ls=some all→fG acc→acc.length≤4000→fG all∧all.length≤4000
 | [],acc,all,h,hg,hl=>by cases h; exact⟨hg,hl⟩
 | s::r,acc,all,h,hg,hl=>by
  unfold aC at h;split at h
  ·exact fz r acc h hg hl
  ·rename_i hb;split at h
   ·cases h
   ·rename_i hlen;refine fz r _ h (hg.add (jt s) ?_) oM;cases hc:bM s with
    | nil=>simp
    | cons a q =>
     rw[hc] at hb;simp[hY] at hb;simp;omega
section
variable {all:List (List Int)}(hg:fG all)
include hg
theorem fG.get_lb {t:List Int}(ht:t∈all):all[lbL all t]?=some t:=by
 obtain ⟨h1,h2⟩:=l8 t hg.strict.srt;have hs:dP (all.take (lbL all t)++all.drop (lbL all t)):=by rw[zi4]; exact hg.strict
 have hd:=(List.pairwise_append.1 hs).2.1;have hm:t∈all.drop (lbL all t):=by
  have:t∈all.take (lbL all t)++all.drop (lbL all t):=by rw[zi4]; exact ht
  rcases ze6.1 this with h | h
  ·have:=h1 t h;rw[bT] at this;exact absurd this dC
  ·exact h
 have e:all[lbL all t]?=(all.drop (lbL all t))[0]?:=by simp
 rw[e];cases hc:all.drop (lbL all t) with
 | nil=>rw[hc] at hm; simp at hm
 | cons y r =>
  rw[hc] at hm hd h2
  rcases ze4.1 hm with rfl | hm
  ·rfl
  ·exact absurd ((zj3.1 hd).1 t hm) (h2 y (by simp))
theorem fG.lb_get {k:Nat}(hk:k<all.length):lbL all all[k]=k:=by
 have h1:=hg.get_lb (gM hk);obtain ⟨h2,h3⟩:=ze8.1 h1;have hself:¬ ai all[k] all[k]<0:=by rw[bT]; decide
 rcases Nat.lt_trichotomy (lbL all all[k]) k with h | h | h
 ·have:=zc5.1 hg.strict _ _ h2 hk h;rw[h3] at this;exact absurd this hself
 ·exact h
 ·have:=zc5.1 hg.strict _ _ hk h2 h;rw[h3] at this;exact absurd this hself
end
def ixC (all:List (List Int))(t:List Int):Int:=((lbL all t:Nat):Int)+1
theorem fG.inj {all:List (List Int)}(hg:fG all){t u:List Int}(ht:t∈all)(hu:u∈all)(h:ixC all t=ixC all u):t=u:=by
 have h1:=hg.get_lb ht;have h2:=hg.get_lb hu;have:lbL all t=lbL all u:=by unfold ixC at h; omega
 rw[this,h2] at h1;injection h1 with h1
 exact h1.symm
theorem fG.lt {all:List (List Int)}(hg:fG all){t u:List Int}(ht:t∈all)(hu:u∈all)(h:ai t u<0):ixC all t<ixC all u:=by
 obtain ⟨i1,e1⟩:=ze8.1 (hg.get_lb ht);obtain ⟨i2,e2⟩:=ze8.1 (hg.get_lb hu);unfold ixC
 rcases Nat.lt_trichotomy (lbL all t) (lbL all u) with h1 | h1 | h1
 ·omega
 ·have:t=u:=hg.inj ht hu (by unfold ixC; omega);subst this;rw[bT] at h;exact absurd h dC
 ·have:=zc5.1 hg.strict _ _ i2 i1 h1;rw[e1,e2] at this;exact absurd h (fN this)
def em (all:List (List Int))(s:List Int):List ah:=if s.length≤1 then [] else (List.range s.length).reverse.map fun k:Nat=>⟨ixC all (s.eraseIdx k),ci k⟩
def gt (all:List (List Int))(s:List Int):Cl:=⟨ixC all s,(s.length:Int) - 1,em all s⟩
theorem uf {s:List Int}(hs:cR s):∀ {i j:Nat},i<j→j<s.length→ai (s.eraseIdx j) (s.eraseIdx i)<0:=by
 induction s with
 | nil=>intro i j _ h; simp at h
 | cons a r ih =>
  intro i j hij hj;obtain ⟨h1,h2⟩:=zj3.1 hs;cases j with
  | zero=>omega
  | succ j =>
   simp only[ze2] at hj;cases i with
   | zero =>
    cases r with
    | nil=>simp at hj
    | cons b q =>
     have hab:=h1 b (by simp);have hl:((a::b::q).eraseIdx (j+1)).length=((a::b::q).eraseIdx 0).length:=by
      simp[List.length_eraseIdx] at hj ⊢;omega
     rw[eZ hl];simp only[List.eraseIdx_cons_succ,List.eraseIdx_cons_zero,fo];have:kI a b = -1:=by unfold kI; rw[zf4 hab]
     simp[this]
   | succ i =>
    have h3:=ih h2 (i:=i) (j:=j) oM oM;have hl:(r.eraseIdx j).length=(r.eraseIdx i).length:=by
     rw[List.length_eraseIdx,List.length_eraseIdx,zf4 oM,zf4 oM]
    have hl2:((a::r).eraseIdx (j+1)).length=((a::r).eraseIdx (i+1)).length:=by simp[hl]
    rw[eZ hl] at h3;rw[eZ hl2];simp only[List.eraseIdx_cons_succ,fo];have:kI a a=0:=by unfold kI; rw[zf3 oM,zf3 oM]
    simpa [this] using h3
theorem ll {A:List Cl}(h:(A.map Cl.id).Nodup){x:Cl}(hx:x∈A):aO A x.id=some x:=by
 induction A with
 | nil=>simp at hx
 | cons c t ih =>
  simp only[zf7,zj2] at h;unfold aO
  rcases ze4.1 hx with rfl | hx
  ·simp
  ·have hne:¬ c.id=x.id:=fun e=>h.1 (by rw[e]; exact ze5.2 ⟨x,hx,I⟩);rw[List.find?_cons];simp only[hne,decide_false];exact ih h.2 hx
theorem uW (c:Cl):au (au c)=au c:=by
 unfold au;rw[← dA (cH c.sides) (aI.refl _)]
theorem fj (l:List Cl):aa (aa l)=aa l:=by
 have h1:sortBy Cl.id (aa l)=aa l:=(dA (fY l) (aI.refl _)).symm;show (sortBy Cl.id (aa l)).map au=aa l;rw[h1];unfold aa;rw[zh8];exact zc4 fun c _=>uW c
theorem y3 {α:Type}{key:α→Int}{l:List α}(h:l.Pairwise fun a b=>key b<key a):sortBy key l=l.reverse:=by
 refine (dA ?_ ⟨by simp,fun c=>?_⟩).symm
 ·unfold Srt;rw[List.pairwise_reverse];exact h.imp fun h=>by omega
 ·rw[List.filter_reverse];have:∀ m:List α,m.Pairwise (fun a b=>key b<key a)→(∀ a∈m,(key a == c)=true)→m.reverse=m:=by
   intro m hm hc
   match m,hm,hc with
   | [],_,_=>rfl
   | [_],_,_=>rfl
   | a::b::r,hm,hc =>
    have h1:=(zj3.1 hm).1 b (by simp);have h2:=hc a (by simp);have h3:=hc b (by simp);simp at h2 h3;omega
  exact this _ (h.sublist List.filter_sublist) fun a ha=>(zg7.1 ha).2
section
variable {all:List (List Int)}(hg:fG all)
include hg
theorem fG.face {s:List Int}(hs:s∈all){k:Nat}(hk:k<s.length)(h2:2≤s.length):s.eraseIdx k∈all∧(s.eraseIdx k).length=s.length - 1 :=
 ⟨hg.faces s hs h2 k hk,by rw[List.length_eraseIdx,zf4 hk]⟩
theorem fG.sides {s:List Int}(hs:s∈all):sortBy ah.cell (aN all s s.length)=em all s:=by
 have hne:=(hg.form s hs).1;have hst:=(hg.form s hs).2.1;by_cases h1:s.length≤1
 ·have h0:s.length=1:=by have:=List.length_pos_iff.2 hne; omega
  unfold em;rw[zf4 h1,h0];have:ek all s 0=[]:=by
   unfold ek;have h3:(s.eraseIdx 0).length=0:=by rw[List.length_eraseIdx,zf4 oM]; omega
   rw[zf3 oM]
  simp[aN,List.range_succ,this,sortBy]
 ·have h2:2≤s.length:=oM;have e:aN all s s.length=(List.range s.length).map fun k:Nat=>(⟨ixC all (s.eraseIdx k),ci k⟩:ah):=by
   unfold aN;rw[List.flatMap_def];have:(List.range s.length).map (ek all s)=(List.range s.length).map fun k:Nat=>[(⟨ixC all (s.eraseIdx k),ci k⟩:ah)]:=zc4 fun k hk=>by
    have hk:=List.mem_range.1 hk;unfold ek;rw[(hg.face hs hk h2).2,zf4 oM];rfl
   rw[this];generalize List.range s.length=R;induction R with
   | nil=>rfl
   | cons x r ih=>simp only[zf7,List.flatten_cons,ih]; rfl
  unfold em;rw[zf3 h1,e,List.map_reverse];refine y3 ?_;rw[zj4];refine List.Pairwise.imp_of_mem ?_ (List.pairwise_lt_range (n:=s.length));intro i j hi hj hij;have hi:=List.mem_range.1 hi;have hj:=List.mem_range.1 hj;exact hg.lt (hg.face hs hj h2).1 (hg.face hs hi h2).1 (uf hst hij hj)
theorem fG.cells:aa (aV all)=all.map (gt all):=by
 rw[oa];apply List.ext_getElem?;intro k;simp only[zh3];by_cases hk:k<all.length
 ·rw[gS hk,gE hk];simp only[Option.map_some,zg1];unfold au lb gt;simp only[hg.sides (gM hk),ixC,hg.lb_get hk]
 ·rw[List.getElem?_eq_none (by rw[be]; omega),List.getElem?_eq_none oM];rfl
theorem fG.ids:((all.map (gt all)).map Cl.id).Pairwise (· < ·):=by
 rw[zh8,zj4];refine List.Pairwise.imp_of_mem ?_ hg.strict;intro a b ha hb h;exact hg.lt ha hb h
theorem fG.find {s:List Int}(hs:s∈all):aO (all.map (gt all)) (ixC all s)=some (gt all s) :=
 ll (x:=gt all s) (hg.ids.imp fun h=>by omega) (ze5.2 ⟨s,hs,rfl⟩)
end
theorem xm (k:Nat):ci k=1∨ci k = -1:=by unfold ci; omega
theorem nZ {all:List (List Int)}{s:List Int}(h:2≤s.length){i:Nat}(hi:i<s.length):(em all s)[i]?=some ⟨ixC all (s.eraseIdx (s.length - 1 - i)),ci ((s.length - 1 - i:Nat):Int)⟩:=by
 unfold em;rw[zf3 oM,zh3,List.getElem?_reverse (by simpa using hi)];simp only[zh7];rw[List.getElem?_range oM];rfl
theorem pA {all:List (List Int)}{s:List Int}:(em all s).length=if s.length≤1 then 0 else s.length:=by
 unfold em;split <;> simp
section
variable {all:List (List Int)}(hg:fG all)
include hg
theorem fG.formOk {s:List Int}(hs:s∈all):bV (all.map (gt all)) (gt all s)=0:=by
 obtain ⟨hne,hst,h9⟩:=hg.form s hs;have hp:=List.length_pos_iff.2 hne;have hlen:(gt all s).sides.length=if s.length≤1 then 0 else s.length:=pA
 have hdim:(gt all s).dim=(s.length:Int) - 1:=rfl;have h1:eo (gt all s)=false:=by unfold eo; rw[hdim]; simp; omega
 have h2:ax (gt all s)=false:=by
  unfold ax;rw[hdim,hlen];split
  ·simp; omega
  ·simp; omega
 have h3:(List.range (gt all s).sides.length).any (gG (all.map (gt all)) (gt all s))=false:=by
  rw[zj5];intro i hi;have hi:=List.mem_range.1 hi;rw[hlen] at hi;split at hi
  ·omega
  ·rename_i hl;have h2:2≤s.length:=oM;have hgi:=nZ (all:=all) h2 hi;have hf:=hg.face hs (k:=s.length - 1 - i) oM h2;unfold gG;rw[show (gt all s).sides[i]?=_ from hgi];show ¬ bP _ _ i ⟨ixC all (s.eraseIdx (s.length - 1 - i)),_⟩=true;unfold bP;dsimp only;rw[hg.find hf.1];have hd:(gt all (s.eraseIdx (s.length - 1 - i))).dim=(gt all s).dim - 1:=by
    show ((s.eraseIdx (s.length - 1 - i)).length:Int) - 1=(s.length:Int) - 1 - 1;rw[hf.2];omega
   simp only[Option.isSome_some,Bool.not_true,Bool.false_or,Option.getD_some,hd,ne_eq,not_true_eq_false,decide_false];by_cases hi0:i>0
   ·have hgp:=nZ (all:=all) h2 (i:=i - 1) oM;rw[show (gt all s).sides[i - 1]?=_ from hgp];have hf2:=hg.face hs (k:=s.length - 1 - (i - 1)) oM h2;have:=hg.lt hf2.1 hf.1 (uf hst oM oM);simp;omega
   ·simp[hi0]
 have h4:(gt all s).sides.any bu=false:=by
  rw[zj5];intro x hx;show ¬ bu x=true;have hx:x∈em all s:=hx;unfold em at hx;split at hx
  ·simp at hx
  ·obtain ⟨k,_,rfl⟩:=ze5.1 hx
   rcases xm k with h | h <;> simp[bu,h]
 have h5:(decide ((gt all s).dim=1)&&decide (kg (gt all s).sides≠0))=false:=by
  by_cases hd:(gt all s).dim=1
  ·rw[hdim] at hd;have hl2:s.length=2:=oM;have:kg (gt all s).sides=0:=by
    show kg (em all s)=0;unfold em;rw[zf3 oM,hl2];simp[List.range_succ,kg,ci]
   rw[this];simp
  ·simp[hd]
 unfold bV;rw[h1,h2,h3,h4,h5];rfl
end
theorem vq (s:List Int):∀ {k q:Nat},k≤q→(s.eraseIdx k).eraseIdx q=(s.eraseIdx (q+1)).eraseIdx k:=by
 induction s with
 | nil=>intro k q _; rfl
 | cons a r ih =>
  intro k q h;cases k with
  | zero=>simp
  | succ k =>
   cases q with
   | zero=>omega
   | succ q =>
    simp only[List.eraseIdx_cons_succ];rw[ih oM]
theorem nP {s:List Int}(hs:s.Nodup){a b i:Nat}(hab:a<b)(hb:b<s.length)(hi:i<s.length):s[i]∈(s.eraseIdx b).eraseIdx a↔i≠a∧i≠b:=by
 have hinj:∀ {j k:Nat} (hj:j<s.length) (hk:k<s.length),s[j]=s[k]→j=k:=fun {j k} hj hk e=>by
  rcases Nat.lt_trichotomy j k with h | h | h
  ·exact absurd e (zc5.1 hs j k hj hk h)
  ·exact h
  ·exact absurd e.symm (zc5.1 hs k j hk hj h)
 rw[List.mem_eraseIdx_iff_getElem];constructor
 ·rintro ⟨j,hj1,hj2,e⟩;have hj1':=hj1;rw[List.length_eraseIdx,zf4 hb] at hj1';rw[List.getElem_eraseIdx] at e;split at e
  ·have:=hinj _ _ e;omega
  ·have:=hinj _ _ e;omega
 ·rintro ⟨h1,h2⟩
  rcases Nat.lt_or_ge i b with h | h
  ·refine⟨i,by rw[List.length_eraseIdx,zf4 hb]; omega,h1,?_⟩;rw[List.getElem_eraseIdx,dif_pos h]
  ·refine⟨i - 1,by rw[List.length_eraseIdx,zf4 hb]; omega,oM,?_⟩;rw[List.getElem_eraseIdx,dif_neg oM];congr 1;omega
theorem vu {s:List Int}(hs:s.Nodup){a b c d:Nat}(hab:a<b)(hb:b<s.length)(hcd:c<d)(hd:d<s.length)(h:(s.eraseIdx b).eraseIdx a=(s.eraseIdx d).eraseIdx c):a=c∧b=d:=by
 have key:∀ i,i<s.length→((i≠a∧i≠b)↔(i≠c∧i≠d)):=fun i hi=>by
  rw[← nP hs hab hb hi,← nP hs hcd hd hi,h]
 have ha:=key a oM;have hb':=key b hb;have hc:=key c oM;have hd':=key d hd;omega
def Cx (all:List (List Int))(s:List Int)(c:Int):Int:=ixC all ((s.eraseIdx (c % 16).toNat).eraseIdx (c / 16).toNat)
theorem wQ {n k q:Nat}(hk:k<n)(hq:q<n - 1):∃ a b:Nat,a<b∧b<n∧code k q=((a * 16+b:Nat):Int)∧((q<k∧a=q∧b=k)∨(k≤q∧a=k∧b=q+1)):=by
 unfold code;by_cases h:q<k
 ·rw[zf4 h]; exact⟨q,k,h,hk,I,.inl ⟨h,I,I⟩⟩
 ·rw[zf3 h]; exact⟨k,q+1,oM,oM,I,.inr ⟨oM,I,I⟩⟩
theorem iD {a b:Nat}(h:b<16):((((a * 16+b:Nat):Int) % 16).toNat=b)∧((((a * 16+b:Nat):Int) / 16).toNat=a):=oM
section
variable {all:List (List Int)}(hg:fG all)
include hg
theorem fG.aroundOk {s:List Int}(hs:s∈all)(h3:2<s.length):ce (all.map (gt all)) (gt all s)=0:=by
 obtain ⟨hne,hst,h9⟩:=hg.form s hs;have hnd:s.Nodup:=hst.imp fun h=>by omega
 have hE:∀ a b,a<b→b<s.length→(s.eraseIdx b).eraseIdx a∈all:=fun a b hab hb=>by
  have h1:=hg.face hs (k:=b) hb oM;exact (hg.face h1.1 (k:=a) (by rw[h1.2]; omega) (by rw[h1.2]; omega)).1
 have hlook:ni (all.map (gt all)) (gt all s)=s6 (Cx all s) (B4 s.length):=by
  unfold ni s6 B4;show (em all s).map _=_;unfold em;rw[zf3 oM,zh8,zh8];refine zc4 fun k hk=>?_;have hk:k<s.length:=by simpa using hk
  have hf:=hg.face hs hk oM;simp only[Function.comp_def];congr 1;unfold ao;rw[hg.find hf.1];show em all (s.eraseIdx k)=_;unfold em;rw[hf.2,zf3 oM,zh8];refine zc4 fun q hq=>?_;have hq:q<s.length - 1:=by simpa using hq
  obtain ⟨a,b,hab,hb,hc,hcase⟩:=wQ hk hq;simp only[Function.comp_def,yQ];congr 1;unfold Cx;rw[hc,(iD (a:=a) (b:=b) oM).1,(iD (a:=a) (b:=b) oM).2]
  rcases hcase with ⟨_,rfl,rfl⟩ | ⟨h,rfl,rfl⟩
  ·rfl
  ·rw[vq s h]
 rw[ym,hlook,sY,Bl _ oM h3];have hkey:∀ x∈vS (B4 s.length),∃ a b:Nat,a<b∧b<s.length∧x=((a * 16+b:Nat):Int):=by
  intro x hx;obtain ⟨p,hp,hx⟩:=List.mem_flatMap.1 hx;obtain ⟨k,hk,rfl⟩:=ze5.1 hp;obtain ⟨r,hr,rfl⟩:=ze5.1 hx;obtain ⟨q,hq,rfl⟩:=ze5.1 hr;obtain ⟨a,b,hab,hb,hc,_⟩:=wQ (n:=s.length) (k:=k) (q:=q) (by simpa using hk) (by simpa using hq);exact⟨a,b,hab,hb,hc⟩
 intro x hx y hy h;obtain ⟨a,b,hab,hb,rfl⟩:=hkey x hx;obtain ⟨c,d,hcd,hd,rfl⟩:=hkey y hy;unfold Cx at h;rw[(iD (a:=a) (b:=b) oM).1,(iD (a:=a) (b:=b) oM).2,(iD (a:=c) (b:=d) oM).1,(iD (a:=c) (b:=d) oM).2] at h;obtain ⟨rfl,rfl⟩:=vu hnd hab hb hcd hd (hg.inj (hE a b hab hb) (hE c d hcd hd) h);rfl
end
theorem qE {tl:List Cl}:∀ {l:List Cl} {n:Int},(∀ x∈l,n<x.id)→l.Pairwise (fun a b=>a.id<b.id)→(∀ x∈l,bV tl x=0)→fE tl l n=none
 | [],_,_,_,_=>rfl
 | x::r,n,h1,h2,h3=>by
  have hx:=h1 x (by simp);obtain ⟨h4,h5⟩:=zj3.1 h2;unfold fE;rw[zf3 oM,zf3 (by rw[h3 x (by simp)]; simp)];exact qE h4 h5 fun y hy=>h3 y (by simp[hy])
theorem qD {tl:List Cl}:∀ {l:List Cl},(∀ x∈l,x.dim>1→ce tl x=0)→lx tl l=none
 | [],_=>rfl
 | x::r,h=>by
  unfold lx;rw[zf3 fun ⟨h1,h2⟩=>h2 (h x (by simp) h1)];exact qD fun y hy=>h y (by simp[hy])
theorem o6 {l:List Cl}(h0:l.length≤4000)(h1:∀ x∈aa l,0<x.id)(h2:(aa l).Pairwise fun a b=>a.id<b.id)(h3:∀ x∈aa l,bV (aa l) x=0)(h4:∀ x∈aa l,x.dim>1→ce (aa l) x=0):aY l=(0,0):=by
 unfold aY;rw[zf3 oM,a7 h2,qE h1 h2 h3,qD h4];rfl
theorem mL (ls:List (List Int)):aY (bC ls)=(0,0):=by
 unfold bC;cases h:aC [] ls with
 | none=>rfl
 | some all =>
  obtain ⟨hg,hl⟩:=fz ls [] h fG.nil (by simp);dsimp only;have hc:aa (aa (aV all))=all.map (gt all):=by rw[fj,hg.cells]
  have hi:=hg.ids;rw[zj4] at hi;refine o6 (by rw[hg.cells]; simpa using hl) ?_ ?_ ?_ ?_ <;> rw[hc]
  ·intro x hx;obtain ⟨s,_,rfl⟩:=ze5.1 hx;show 0<ixC all s;unfold ixC;omega
  ·exact hi
  ·intro x hx;obtain ⟨s,hs,rfl⟩:=ze5.1 hx;exact hg.formOk hs
  ·intro x hx hd;obtain ⟨s,hs,rfl⟩:=ze5.1 hx;refine hg.aroundOk hs ?_;have:(s.length:Int) - 1>1:=hd;omega
open Go.ChangeShapes Go.WideShapes Go.ChangeAt Go.RowKit
set_option maxRecDepth 100000
section
variable {H:Type}{enc:TypeId×Value→H}{W:World}{base:Nat}{spare:Nat→Bool}{hd:Bool}
end
inductive Cn (E:Int→Int→Prop):Int→Int→Prop
 | refl (a:Int):Cn E a a
 | step {a b c:Int} (h:E a b∨E b a) (r:Cn E b c):Cn E a c
theorem Cn.trans {E:Int→Int→Prop}{a b c:Int}(h:Cn E a b)(k:Cn E b c):Cn E a c:=by
 induction h with
 | refl _=>exact k
 | step h _ ih=>exact .step h (ih k)
theorem Cn.one {E:Int→Int→Prop}{a b:Int}(h:E a b):Cn E a b:=.step (.inl h) (.refl b)
theorem Cn.symm {E:Int→Int→Prop}{a b:Int}(h:Cn E a b):Cn E b a:=by
 induction h with
 | refl _=>exact .refl _
 | step h _ ih=>exact ih.trans (.step h.symm (.refl _))
theorem Cn.mono {E E':Int→Int→Prop}(h:∀ a b,E a b→Cn E' a b){a b:Int}(hc:Cn E a b):Cn E' a b:=by
 induction hc with
 | refl _=>exact .refl _
 | step e _ ih =>
  rcases e with e | e
  ·exact (h _ _ e).trans ih
  ·exact (h _ _ e).symm.trans ih
theorem Cn.iso {E:Int→Int→Prop}{a b:Int}(h:∀ b,¬ E a b∧¬ E b a)(hc:Cn E a b):a=b:=by
 cases hc with
 | refl _=>rfl
 | step e _ =>
  rcases e with e | e
  ·exact absurd e (h _).1
  ·exact absurd e (h _).2
theorem Cn.add {E E':Int→Int→Prop}{x y:Int}(h:∀ a b,E' a b↔E a b∨(a=x∧b=y))(a b:Int):Cn E' a b↔Cn E a b∨(Cn E a x∧Cn E y b)∨(Cn E a y∧Cn E x b):=by
 have hxy:Cn E' x y:=.one ((h x y).2 (.inr ⟨rfl,rfl⟩));have hm:∀ {a b:Int},Cn E a b→Cn E' a b:=fun hc=>hc.mono fun a b e=>.one ((h a b).2 (.inl e));constructor
 ·intro hc;induction hc with
  | refl _=>exact .inl (.refl _)
  | step e _ ih =>
   have key:∀ {p q r:Int},Cn E p q→(Cn E q r∨(Cn E q x∧Cn E y r)∨(Cn E q y∧Cn E x r))→Cn E p r∨(Cn E p x∧Cn E y r)∨(Cn E p y∧Cn E x r):=by
    rintro p q r h1 (h2 | ⟨h2,h3⟩ | ⟨h2,h3⟩)
    ·exact .inl (h1.trans h2)
    ·exact .inr (.inl ⟨h1.trans h2,h3⟩)
    ·exact .inr (.inr ⟨h1.trans h2,h3⟩)
   rcases e with e | e
   ·rcases (h _ _).1 e with e | ⟨rfl,rfl⟩
    ·exact key (.one e) ih
    ·rcases ih with h2 | ⟨_,h3⟩ | ⟨_,h3⟩
     ·exact .inr (.inl ⟨.refl _,h2⟩)
     ·exact .inr (.inl ⟨.refl _,h3⟩)
     ·exact .inl h3
   ·rcases (h _ _).1 e with e | ⟨rfl,rfl⟩
    ·exact key (Cn.one e).symm ih
    ·rcases ih with h2 | ⟨_,h3⟩ | ⟨_,h3⟩
     ·exact .inr (.inr ⟨.refl _,h2⟩)
     ·exact .inl h3
     ·exact .inr (.inr ⟨.refl _,h3⟩)
 ·rintro (h1 | ⟨h1,h2⟩ | ⟨h1,h2⟩)
  ·exact hm h1
  ·exact (hm h1).trans (hxy.trans (hm h2))
  ·exact (hm h1).trans (hxy.symm.trans (hm h2))
def dn (ml:List (Int×List Int))(a b:Int):Prop:=∃ p∈ml,p.2.head?=some a∧b∈p.2
def RZ (e:En)(z:Int×Int):Prop:=e.id=z.1∧e.sum=z.2
def RM (e:En)(p:Int×List Int):Prop:=e.id=p.1∧e.many=p.2.length∧p.2.head?=some (e.fst:Int)
theorem pg {x:Int}(h : -9223372036854775808≤x∧x<9223372036854775808):wr x=x:=zk1 _ oM
theorem AA {i:Nat}{c p:Int}:∀ {es:List En} {zl:List (Int×Int)},aw RZ es zl→(∀ e∈es,wr (e.sum+p)=e.sum+p)→wr (0+p)=p→aw RZ (jH i c p es) (fF zl c p)
 | [],[],_,_,hp=>⟨⟨rfl,hp⟩,trivial⟩
 | e::es,(a,z)::zl,h,hb,hp=>by
  obtain ⟨⟨h1,h2⟩,h3⟩:=h;have h1:e.id=a:=h1;have h2:e.sum=z:=h2;simp only[jH,fF];by_cases hc:e.id=c
  ·rw[zf4 hc,zf4 (by rw[← h1,hc])];exact⟨⟨h1,by show wr (e.sum+p)=z+p; rw[hb e (by simp),h2]⟩,h3⟩
  ·rw[zf3 hc,zf3 (by rw[← h1]; exact fun e=>hc e.symm)];exact⟨⟨h1,h2⟩,AA h3 (fun x hx=>hb x (by simp[hx])) hp⟩
 | [],_::_,h,_,_=>h.elim
 | _::_,[],h,_,_=>h.elim
theorem AB {i:Nat}{c p:Int}:∀ {es:List En} {ml:List (Int×List Int)},aw RM es ml→(∀ e∈es,wr (e.many+1)=e.many+1)→aw RM (jH i c p es) (eO ml c i) ∧
  ∀ a b,dn (eO ml c i) a b↔dn ml a b∨(a=iy i c es∧b=i)
 | [],[],_,_=>by
  refine⟨⟨⟨rfl,by rfl,rfl⟩,trivial⟩,fun a b=>?_⟩;constructor
  ·rintro ⟨q,hq,h1,h2⟩;simp[eO] at hq;subst hq;simp at h1 h2;exact .inr ⟨h1.symm,h2⟩
  ·rintro (⟨q,hq,_⟩ | ⟨rfl,rfl⟩)
   ·simp at hq
   ·exact⟨(c,[(i:Int)]),by simp[eO],I,by simp⟩
 | e::es,(k,l)::ml,h,hb=>by
  obtain ⟨⟨h1,h2,h4⟩,h3⟩:=h;have h1:e.id=k:=h1;have h2:e.many=l.length:=h2;have h4:l.head?=some (e.fst:Int):=h4;simp only[jH,eO,iy];by_cases hc:e.id=c
  ·rw[zf4 hc,zf4 (by rw[← h1,hc]),zf4 hc];have hh:(l++[(i:Int)]).head?=some (e.fst:Int):=by
    cases l with
    | nil=>simp at h4
    | cons x r=>simpa using h4
   refine⟨⟨⟨h1,by show wr (e.many+1)=_; rw[hb e (by simp),h2]; simp,hh⟩,h3⟩,fun a b=>?_⟩;constructor
   ·rintro ⟨q,hq,h5,h6⟩
    rcases ze4.1 hq with rfl | hq
    ·dsimp only at h5 h6;rw[hh] at h5
     rcases ze6.1 h6 with h6 | h6
     ·exact .inl ⟨(k,l),by simp,by rw[h4,h5],h6⟩
     ·simp at h6;injection h5 with h5
      exact .inr ⟨h5.symm,h6⟩
    ·exact .inl ⟨q,by simp[hq],h5,h6⟩
   ·rintro (⟨q,hq,h5,h6⟩ | ⟨rfl,rfl⟩)
    ·rcases ze4.1 hq with rfl | hq
     ·exact⟨(k,l++[(i:Int)]),by simp,by rw[hh,← h4,h5],by simp[h6]⟩
     ·exact⟨q,by simp[hq],h5,h6⟩
    ·exact⟨(k,l++[(i:Int)]),by simp,hh,by simp⟩
  ·rw[zf3 hc,zf3 (by rw[← h1]; exact fun e=>hc e.symm),zf3 hc];obtain ⟨i1,i2⟩:=AB (i:=i) (c:=c) (p:=p) h3 fun x hx=>hb x (by simp[hx]);refine⟨⟨⟨h1,h2,h4⟩,i1⟩,fun a b=>?_⟩;have e1:∀ L,dn ((k,l)::L) a b↔(l.head?=some a∧b∈l)∨dn L a b:=fun L=>by
    unfold dn;simp
   rw[e1,e1,i2,or_assoc]
 | [],_::_,h,_=>h.elim
 | _::_,[],h,_=>h.elim
structure Sd (n t k:Nat)(es:List En)(part:List Int)(zl:List (Int×Int))(ml:List (Int×List Int)):Prop where
 z:aw RZ es zl
 m:aw RM es ml
 bz:∀ e∈es,-(t:Int)≤e.sum∧e.sum≤t∧0≤e.many∧e.many≤t
 bf:∀ e∈es,e.fst<k
 bm:∀ p∈ml,∀ x∈p.2,0≤x∧x<k
 len:part.length=n
 bp:∀ a,a<k→0≤part.getD a 0∧part.getD a 0<k
 cn:∀ a b:Nat,a<k→b<k→(part.getD a 0=part.getD b 0↔Cn (dn ml) a b)
theorem fQ {ml:List (Int×List Int)}{k:Nat}(h:∀ p∈ml,∀ x∈p.2,0≤x∧x<(k:Int)){a b:Int}(hl:dn ml a b):(0≤a∧a<k)∧(0≤b∧b<k):=by
 obtain ⟨p,hp,h1,h2⟩:=hl;exact⟨h p hp a (List.mem_of_head? h1),h p hp b h2⟩
theorem Sd.open {n t k:Nat}{es:List En}{part:List Int}{zl:List (Int×Int)}{ml:List (Int×List Int)}(h:Sd n t k es part zl ml)(hk:k<n):Sd n t (k+1) es (part.set k k) zl ml:=by
 have hl:=h.len;have g1:(part.set k (k:Int)).getD k 0=k:=by rw[zg4,List.getElem?_set]; simp[hl,hk]
 have g2:∀ a,a≠k→(part.set k (k:Int)).getD a 0=part.getD a 0:=fun a ha=>by
  rw[zg4,zg4,List.getElem?_set,zf3 fun e=>ha e.symm]
 have iso:∀ b,¬ dn ml k b∧¬ dn ml b k:=fun b=>⟨fun e=>by have:=fQ h.bm e; omega,fun e=>by have:=fQ h.bm e; omega⟩;refine⟨h.z,h.m,h.bz,fun e he=>by have:=h.bf e he; omega,fun p hp x hx=>by have:=h.bm p hp x hx; omega,by simp[hl],fun a ha=>?_,fun a b ha hb=>?_⟩
 ·by_cases e:a=k
  ·subst e; rw[g1]; omega
  ·rw[g2 a e]; have:=h.bp a oM; omega
 ·by_cases e:a=k <;> by_cases e2:b=k
  ·subst e; subst e2; exact⟨fun _=>.refl _,fun _=>I⟩
  ·subst e;rw[g1,g2 b e2];have:=h.bp b oM;exact⟨fun h=>by omega,fun hc=>by have:=hc.iso iso; omega⟩
  ·subst e2;rw[g1,g2 a e];have:=h.bp a oM;exact⟨fun h=>by omega,fun hc=>by have:=hc.symm.iso iso; omega⟩
  ·rw[g2 a e,g2 b e2];exact h.cn a b oM oM
theorem ju {m:Nat}{old now:Int}{p:List Int}{a:Nat}(h:a<p.length)(hm:a<m):(dj m old now p).getD a 0=if p.getD a 0=now then old else p.getD a 0:=by
 rw[zg4,zg4];simp only[dj,List.getElem?_mapIdx,gE h,Option.map_some,Option.getD_some,hm,true_and]
theorem zK {i:Nat}{c:Int}{es:List En}(h:∀ e∈es,e.fst<i+1):iy i c es<i+1:=by
 induction es with
 | nil=>exact Nat.lt_succ_self i
 | cons e r ih =>
  unfold iy;split
  ·exact h e (by simp)
  ·exact ih fun x hx=>h x (by simp[hx])
theorem uk {P:En→Prop}{i:Nat}{c p:Int}(hn:P (En.up ⟨c,0,0,i⟩ p))(hu:∀ e,P e→P (e.up p))(ho:∀ e,P e→P e):∀ {es:List En},(∀ e∈es,P e)→∀ e∈jH i c p es,P e
 | [],_,e,he=>by simp[jH] at he; subst he; exact hn
 | x::r,h,e,he=>by
  unfold jH at he;split at he
  ·rcases ze4.1 he with rfl | he
   ·exact hu x (h x (by simp))
   ·exact h e (by simp[he])
  ·rcases ze4.1 he with rfl | he
   ·exact h e (by simp)
   ·exact uk hn hu ho (fun y hy=>h y (by simp[hy])) e he
theorem ur {P:Int→Prop}{c:Int}{i:Int}(hi:P i):∀ {ml:List (Int×List Int)},(∀ p∈ml,∀ x∈p.2,P x)→∀ p∈eO ml c i,∀ x∈p.2,P x
 | [],_,p,hp,x,hx=>by simp[eO] at hp; subst hp; simp at hx; subst hx; exact hi
 | (k,l)::r,h,p,hp,x,hx=>by
  unfold eO at hp;split at hp
  ·rcases ze4.1 hp with rfl | hp
   ·rcases ze6.1 hx with hx | hx
    ·exact h (k,l) (by simp) x hx
    ·simp at hx; subst hx; exact hi
   ·exact h p (by simp[hp]) x hx
  ·rcases ze4.1 hp with rfl | hp
   ·exact h (k,l) (by simp) x hx
   ·exact ur hi (fun q hq=>h q (by simp[hq])) p hp x hx
theorem Sd.next {n t i:Nat}{es:List En}{part:List Int}{zl:List (Int×Int)}{ml:List (Int×List Int)}{x r:ah}(h:Sd n t (i+1) es part zl ml)(hi:i<n)(ht:t<1000000)(hx:x.sign=1∨x.sign = -1)(hr:r.sign=1∨r.sign = -1) :
  Sd n (t+1) (i+1) (j8 i x.sign (es,part) r).1 (j8 i x.sign (es,part) r).2 (j7 x zl r) (dT i ml r):=by
 have hp:=tt hx hr;have hw:wr (x.sign * r.sign)=x.sign * r.sign:=pg oM;unfold j8 j7 dT;dsimp only;rw[hw];generalize x.sign * r.sign=p at *;have hl:=h.len;have hbm:=AB (i:=i) (c:=r.cell) (p:=p) h.m fun e he=>by have:=h.bz e he; exact pg oM
 have hf:=zK (c:=r.cell) h.bf;refine⟨AA h.z (fun e he=>by have:=h.bz e he; exact pg oM) (by rw[Int.zero_add]; exact pg oM),hbm.1,?_,?_,?_,by rw[j4]; exact hl,fun a ha=>?_,fun a b ha hb=>?_⟩
 ·have:∀ e∈jH i r.cell p es,(-(t:Int)≤e.sum∧e.sum≤t∧0≤e.many∧e.many≤t)∨(-((t+1:Nat):Int)≤e.sum∧e.sum≤((t+1:Nat):Int)∧0≤e.many∧e.many≤((t+1:Nat):Int)):=by
   have h0:=h.bz;clear h hbm hf hl;generalize hes:jH i r.cell p es=fs;intro e he;subst hes;induction es with
   | nil =>
    simp[jH] at he;subst he;right;simp only[En.up];rw[pg oM,pg oM];omega
   | cons y q ih =>
    unfold jH at he;split at he
    ·rcases ze4.1 he with rfl | he
     ·right;have:=h0 y (by simp);simp only[En.up];rw[pg oM,pg oM];omega
     ·exact .inl (h0 e (by simp[he]))
    ·rcases ze4.1 he with rfl | he
     ·exact .inl (h0 e (by simp))
     ·exact ih (fun z hz=>h0 z (by simp[hz])) he
  intro e he
  rcases this e he with h1 | h1 <;> omega
 ·exact uk (P:=fun e=>e.fst<i+1) (Nat.lt_succ_self i) (fun e he=>he) (fun e he=>he) h.bf
 ·exact ur (P:=fun x=>0≤x∧x<((i+1:Nat):Int)) oM h.bm
 ·rw[ju oM ha];split
  ·exact h.bp _ hf
  ·exact h.bp a ha
 ·rw[ju oM ha,ju oM hb,Cn.add (x:=(iy i r.cell es:Int)) (y:=(i:Int)) hbm.2 a b];rw[← h.cn a b ha hb,← h.cn a _ ha hf,← h.cn i b oM hb,← h.cn a i ha oM,← h.cn _ b hf hb];generalize part.getD a 0=pa;generalize part.getD b 0=pb;generalize part.getD i 0=pi;generalize part.getD (iy i r.cell es) 0=pf;by_cases h1:pa=pi <;> by_cases h2:pb=pi <;> simp[h1,h2] <;> omega
theorem Sd.inner {n i:Nat}{x:ah}(hi:i<n)(hx:x.sign=1∨x.sign = -1):∀ (l:List ah) {t:Nat} {es:List En} {part:List Int} {zl:List (Int×Int)} {ml:List (Int×List Int)},Sd n t (i+1) es part zl ml→t+l.length<1000000→(∀ r∈l,r.sign=1∨r.sign = -1) →
  Sd n (t+l.length) (i+1) (l.foldl (j8 i x.sign) (es,part)).1 (l.foldl (j8 i x.sign) (es,part)).2 (l.foldl (j7 x) zl) (l.foldl (dT i) ml)
 | [],_,_,_,_,_,h,_,_=>h
 | r::l,t,es,part,zl,ml,h,ht,hr=>by
  simp only[ze2] at ht;have h1:=h.next (x:=x) (r:=r) hi oM hx (hr r (by simp));have:=Sd.inner hi hx l h1 oM (fun q hq=>hr q (by simp[hq]));simp only[zi1,ze2];rw[show t+(l.length+1)=t+1+l.length by omega];exact this
theorem Sd.outer {tl:List Cl}{n:Nat}:∀ (l:List ah) {t k:Nat} {es:List En} {part:List Int} {zl:List (Int×Int)} {ml:List (Int×List Int)},Sd n t k es part zl ml→k+l.length≤n→t+64 * l.length<1000000→(∀ x∈l,x.sign=1∨x.sign = -1)→(∀ x∈l,(ao tl x).length≤64∧∀ r∈ao tl x,r.sign=1∨r.sign = -1) →
  ∃ t',Sd n t' (k+l.length) ((l.zipIdx k).foldl (lI tl) (es,part)).1 ((l.zipIdx k).foldl (lI tl) (es,part)).2 (l.foldl (fun zl x=>(ao tl x).foldl (j7 x) zl) zl) ((l.zipIdx k).foldl (fun ml p=>(ao tl p.1).foldl (dT p.2) ml) ml)
 | [],t,_,_,_,_,_,h,_,_,_,_=>⟨t,h⟩
 | x::l,t,k,es,part,zl,ml,h,hk,ht,hs,hq=>by
  simp only[ze2] at hk ht;have h0:=hq x (by simp);have h1:=(h.open oM).inner (x:=x) oM (hs x (by simp)) (ao tl x) oM h0.2;obtain ⟨t',h2⟩:=Sd.outer l h1 oM oM (fun y hy=>hs y (by simp[hy])) (fun y hy=>hq y (by simp[hy]));refine⟨t',?_⟩;simp only[List.zipIdx_cons,zi1,ze2];rw[show k+(l.length+1)=k+1+l.length by omega];exact h2
theorem mw {α β:Type}{R:α→β→Prop}{p:α→Bool}{q:β→Bool}(h:∀ a b,R a b→p a=q b):∀ {l:List α} {m:List β},aw R l m→l.any p=m.any q
 | [],[],_=>rfl
 | a::l,b::m,hr=>by simp only[List.any_cons,h a b hr.1,mw h hr.2]
 | [],_::_,hr=>hr.elim
 | _::_,[],hr=>hr.elim
theorem pF {ml:List (Int×List Int)}(h2:∀ p∈ml,p.2.length=2)(a b:Int):Rch (iH (cz ml)) a b↔Cn (dn ml) a b:=by
 have hstep:∀ x y,y∈dX (cz ml) x→Cn (dn ml) x y:=fun x y hy=>by
  obtain ⟨p,hp,h⟩:=(jL ml x y).1 hy
  rcases h with h | h
  ·exact .one ⟨p,hp,by rw[h]; rfl,by rw[h]; simp⟩
  ·exact (Cn.one (E:=dn ml) ⟨p,hp,by rw[h]; rfl,by rw[h]; simp⟩).symm
 have hadj:∀ x,iH (cz ml) x≠none:=fun x=>by simp[iH]
 constructor
 ·intro h;induction h with
  | refl _ _=>exact .refl _
  | step x y _ l hl hy _ ih =>
   simp only[iH,zg1] at hl;subst hl;exact (hstep x y hy).trans ih
 ·intro h;induction h with
  | refl a=>exact .refl a (hadj a)
  | @step x y z e _ ih =>
   have key:∀ u v,dn ml u v→v=u∨v∈dX (cz ml) u:=fun u v ⟨p,hp,h3,h4⟩=>by
    have:=h2 p hp
    match hq:p.2,this with
    | [c,d],_ =>
     rw[hq] at h3 h4;simp at h3 h4;subst h3
     rcases h4 with h4 | h4
     ·exact .inl h4
     ·exact .inr ((jL ml c v).2 ⟨p,hp,.inl (by rw[hq,h4])⟩)
   rcases e with e | e
   ·rcases key x y e with rfl | h5
    ·exact ih
    ·exact .step x y z _ I h5 ih
   ·rcases key y x e with rfl | h5
    ·exact ih
    ·refine .step x y z _ I ?_ ih;obtain ⟨p,hp,h6⟩:=(jL ml y x).1 h5;exact (jL ml x y).2 ⟨p,hp,h6.symm⟩
theorem l6 {l:List Int}(hn:l.Nodup)(hb:∀ x∈l,0≤x):(l.map Int.toNat).Nodup:=by
 rw[List.Nodup,zj4];refine List.Pairwise.imp_of_mem ?_ hn;intro a b ha hb' hne e;have:=hb a ha;have:=hb b hb';omega
theorem jW {l:List Int}{n:Nat}(hn:l.Nodup)(hb:∀ x∈l,0≤x∧x<(n:Int)):l.length≤n:=by
 have h1:=l6 hn fun x hx=>(hb x hx).1;have:=cW (l:=List.range n) h1 List.nodup_range fun x hx=>by
  obtain ⟨y,hy,rfl⟩:=ze5.1 hx;have:=hb y hy;exact List.mem_range.2 oM
 simpa using this
theorem po {tl:List Cl}{c:Cl}(hok:AOk tl c)(h0:0<c.sides.length):gg tl c=ce tl c:=by
 obtain ⟨h64,hs,hq⟩:=hok;have start:Sd c.sides.length 0 0 [] (List.replicate c.sides.length 0) [] []:=⟨trivial,trivial,by simp,by simp,by simp,by simp,by simp,fun a b ha=>by omega⟩;obtain ⟨t,hd⟩:=start.outer c.sides (tl:=tl) oM oM hs hq;have e1:((c.sides.zipIdx 0).foldl (lI tl) ([],List.replicate c.sides.length 0))=kN tl c.sides c.sides.length:=rfl;rw[e1] at hd;have hz:aw RZ (kN tl c.sides c.sides.length).1 (fJ tl c.sides):=hd.z;have hm:aw RM (kN tl c.sides c.sides.length).1 (dQ tl c.sides):=hd.m;unfold gg ce;rw[mw (p:=fun e=>decide (e.sum≠0)) (q:=fun p:Int×Int=>decide (p.2≠0)) (fun a b h=>by rw[h.2]) hz];rw[mw (p:=fun e=>decide (e.many≠2)) (q:=fun p:Int×List Int=>decide ((p.2.length:Int)≠2)) (fun a b h=>by rw[h.2.1]) hm];split
 ·rfl
 ·split
  ·rfl
  ·rename_i hno;have h2:∀ p∈dQ tl c.sides,p.2.length=2:=fun p hp=>by
    have:=zj5.1 ((zi8 _).mp hno) p hp;simp at this;omega
   have hbm:∀ p∈dQ tl c.sides,∀ x∈p.2,0≤x∧x<((0+c.sides.length:Nat):Int):=hd.bm;rw[Nat.zero_add] at hbm;have hcn:∀ a b:Nat,a<c.sides.length→b<c.sides.length→((kN tl c.sides c.sides.length).2.getD a 0=(kN tl c.sides c.sides.length).2.getD b 0↔Rch (iH (cz (dQ tl c.sides))) a b):=fun a b ha hb=>by
    rw[pF h2];exact hd.cn a b oM oM
   have hln:=hd.len;have hmem:∀ x:Int,x∈hX (cz (dQ tl c.sides))↔Rch (iH (cz (dQ tl c.sides))) 0 x:=fun x=>rI (cnt:=lv (cz (dQ tl c.sides))) (fun v v' h=>iw h) (jA _) (zj9 (zc1 _ _)) (by simp[iH]) x;have hnd:(hX (cz (dQ tl c.sides))).Nodup:=iu _ _ _ _ (by simp);have hin:∀ x∈hX (cz (dQ tl c.sides)),0≤x∧x<(c.sides.length:Int):=fun x hx=>by
    have hr:=(pF h2 0 x).1 ((hmem x).1 hx);have:∀ a b,Cn (dn (dQ tl c.sides)) a b→(0≤a∧a<(c.sides.length:Int))→(0≤b∧b<(c.sides.length:Int)):=by
     intro a b h;induction h with
     | refl _=>exact fun h=>h
     | step e _ ih =>
      intro _
      rcases e with e | e
      ·exact ih (fQ hbm e).2
      ·exact ih (fQ hbm e).1
    exact this 0 x hr oM
   generalize (kN tl c.sides c.sides.length).2=part at *;generalize hX (cz (dQ tl c.sides))=seen at *;by_cases hall:∀ a,a<c.sides.length→part.getD a 0=part.getD 0 0
   ·have hf:part.any (fun x=>decide (x≠part.getD 0 0))=false:=by
     rw[zj5];intro x hx;obtain ⟨i,hi,rfl⟩:=zc3 hx;have:=hall i oM;rw[zg4,gE hi] at this;simpa using this
    have hlen:seen.length=c.sides.length:=by
     refine Nat.le_antisymm (jW hnd hin) ?_;have h3:=cW (m:=List.range c.sides.length) (l:=seen.map Int.toNat) List.nodup_range (l6 hnd fun x hx=>(hin x hx).1) fun i hi=>by
      have hi:=List.mem_range.1 hi;exact ze5.2 ⟨(i:Int),(hmem i).2 ((hcn 0 i h0 hi).1 (hall i hi).symm),by simp⟩
     simpa using h3
    rw[hf,hlen];simp
   ·have ht:part.any (fun x=>decide (x≠part.getD 0 0))=true:=by
     simp only[Classical.not_forall] at hall;obtain ⟨a,ha,hne⟩:=hall;rw[zi9];refine⟨part.getD a 0,?_,by simpa using hne⟩;rw[zg4,gE oM];exact gM _
    have hlen:(seen.length:Int)≠c.sides.length:=by
     simp only[Classical.not_forall] at hall;obtain ⟨a,ha,hne⟩:=hall;have hna:(a:Int) ∉ seen:=fun h=>hne ((hcn 0 a h0 ha).2 ((hmem a).1 h)).symm;have:=jW (l:=(a:Int)::seen) (n:=c.sides.length) (zj2.2 ⟨hna,hnd⟩) fun x hx=>by
      rcases ze4.1 hx with rfl | hx
      ·omega
      ·exact hin x hx
     simp at this;omega
    rw[ht,zf4 rfl,zf4 hlen]
theorem ck {tl:List Cl}:∀ {l:List Cl} {n:Int},fE tl l n=none→l.Pairwise (fun a b=>a.id<b.id)∧(∀ x∈l,n<x.id)∧∀ x∈l,bV tl x=0
 | [],_,_=>⟨List.Pairwise.nil,by simp,by simp⟩
 | x::r,n,h=>by
  unfold fE at h;split at h
  ·cases h
  ·rename_i hid;split at h
   ·cases h
   ·rename_i hf;obtain ⟨h1,h2,h3⟩:=ck h;refine⟨zj3.2 ⟨h2,h1⟩,fun y hy=>?_,fun y hy=>?_⟩
    ·rcases ze4.1 hy with rfl | hy
     ·omega
     ·have:=h2 y hy; omega
    ·rcases ze4.1 hy with rfl | hy
     ·exact zg3 hf
     ·exact h3 y hy
theorem iK (l:List Cl):aB l=aY l:=by
 unfold aB aY;split
 ·rfl
 ·cases h:fE (ae l) (aa l) 0 with
  | some p=>rfl
  | none =>
   obtain ⟨h1,_,h3⟩:=ck h;have ht:=a7 h1;have key:∀ m:List Cl,(∀ x∈m,x∈aa l)→kT (aa l) m=lx (ae l) m:=by
    intro m;induction m with
    | nil=>intro _; rfl
    | cons x r ih =>
     intro hm;have hx:=hm x (by simp);unfold kT lx;rw[ih fun y hy=>hm y (by simp[hy])];by_cases hd:x.dim>1
     ·have hok:=wd h3 hx;have hn:0<x.sides.length:=by
       have hf:=h3 x hx;unfold bV at hf;split at hf
       ·cases hf
       ·split at hf
        ·cases hf
        ·rename_i hc;simp[ax] at hc;have:=hc.2 hd;omega
      rw[ht] at hok ⊢;rw[po hok hn]
     ·simp[hd]
   rw[key _ fun x hx=>hx]
set_option maxRecDepth 10000
theorem jO {l:List Cl}(h:(aY l).2=0):fE (ae l) (aa l) 0=none:=by
 unfold aY at h;split at h
 ·simp at h
 ·cases h1:fE (ae l) (aa l) 0 with
  | none=>rfl
  | some p=>rw[h1] at h; exact absurd h (rL h1)
theorem zm (a b:List Cl):bA a b=AL a b:=by
 have hb:bU a b=lz a b:=by
  unfold bU lz;rw[iK,iK];by_cases h1:(aY a).2=0
  ·by_cases h2:(aY b).2=0
   ·rw[a7 (ck (jO h1)).1,a7 (ck (jO h2)).1,ak,ak]
   ·simp[h2]
  ·simp[h1]
 unfold bA AL;rw[hb,iK]
section
variable {A:List (List Int)}(hA:fG A)
include hA
end
theorem zq {N i k i' k':Nat}(hk:k<N)(hk':k'<N)(h:i * N+k=i' * N+k'):i=i'∧k=k':=by
 have e:∀ {i k:Nat},k<N→(i * N+k) / N=i:=fun {i k} hk=>by rw[Nat.add_comm,Nat.add_mul_div_right _ _ oM,Nat.div_eq_of_lt hk,Nat.zero_add]
 have h1:=e (i:=i) hk;rw[h,e hk'] at h1;subst h1;exact⟨I,oM⟩
theorem Bm {N i k i' k':Nat}(hk:k<N)(h:i<i'):i * N+k<i' * N+k':=by
 have:(i+1) * N≤i' * N:=Nat.mul_le_mul_right N h;rw[Nat.succ_mul] at this;omega
theorem Bx {tl:List Cl}{c:Cl}(h1:0≤c.dim∧c.dim≤8)(h2:ax c=false)(h3:∀ x∈c.sides,∃ d,aO tl x.cell=some d∧d.dim=c.dim - 1)(h4:c.sides.Pairwise fun a b=>a.cell<b.cell)(h5:∀ x∈c.sides,x.sign=1∨x.sign = -1)(h6:c.dim=1→kg c.sides=0):bV tl c=0:=by
 have e1:eo c=false:=by unfold eo; simp; omega
 have e3:(List.range c.sides.length).any (gG tl c)=false:=by
  rw[zj5];intro i hi;have hi:=List.mem_range.1 hi;obtain ⟨d,hd1,hd2⟩:=h3 _ (gM hi);unfold gG;rw[gE hi];show ¬ bP _ _ i c.sides[i]=true;unfold bP;rw[hd1];simp only[Option.isSome_some,Bool.not_true,Bool.false_or,Option.getD_some,hd2,ne_eq,not_true_eq_false,decide_false];by_cases hi0:i>0
  ·have hlt:=zc5.1 h4 (i - 1) i oM hi oM;rw[gE oM];simp;omega
  ·simp[hi0]
 have e4:c.sides.any bu=false:=by
  rw[zj5];intro x hx
  rcases h5 x hx with h | h <;> simp[bu,h]
 have e5:(decide (c.dim=1)&&decide (kg c.sides≠0))=false:=by
  by_cases hd:c.dim=1
  ·rw[h6 hd]; simp
  ·simp[hd]
 unfold bV;rw[e1,h2,e3,e4,e5];rfl
section
variable {A B:List (List Int)}(hA:fG A)(hB:fG B)
include hA hB
end
section
variable {A B:List (List Int)}(hA:fG A)(hB:fG B)
include hA hB
end
structure Few (a:List Cl)(A:List (List Int)):Prop where
 good:fG A
 cells:a=A.map (gt A)
 small:∀ s∈A,s.length≤3
 few:A.length≤14
def sumR (tl:List Cl)(l:List ah)(r:Int):Int:=(l.flatMap fun x=>(ao tl x).map fun q=>if q.cell=r then x.sign * q.sign else 0).sum
def hits (tl:List Cl)(x:ah)(r:Int):Nat:=((ao tl x).filter fun q=>decide (q.cell=r)).length
def cntR (tl:List Cl)(l:List ah)(r:Int):Nat:=(l.map fun x=>hits tl x r).sum
def ng (tl:List Cl)(l:List ah)(a b:Int):Prop:=∃ x∈l,∃ y∈l,x.cell=a∧y.cell=b∧∃ r,0<hits tl x r∧0<hits tl y r
theorem xS (zl:List (Int×Int))(k x r:Int):gp (fF zl k x) r=gp zl r+if r=k then x else 0:=by
 induction zl with
 | nil =>
  simp only[fF,gp];split <;> simp
 | cons p q ih =>
  obtain ⟨a,z⟩:=p;simp only[fF];by_cases h:k=a
  ·subst h;simp only[if_true,gp];split <;> simp
  ·rw[zf3 h];simp only[gp,ih];by_cases hr:r=a
   ·subst hr;rw[zf4 rfl,zf4 rfl,zf3 fun e=>h e.symm];omega
   ·rw[zf3 hr,zf3 hr]
theorem nV (x:ah)(r:Int):∀ (l:List ah) (zl:List (Int×Int)),gp (l.foldl (j7 x) zl) r=gp zl r+(l.map fun q=>if q.cell=r then x.sign * q.sign else 0).sum
 | [],zl=>by simp
 | q::l,zl=>by
  simp only[zi1,zf7,List.sum_cons];rw[nV x r l,j7,xS];by_cases h:r=q.cell
  ·rw[zf4 h,zf4 h.symm]; omega
  ·rw[zf3 h,zf3 fun e=>h e.symm]; omega
theorem qq (tl:List Cl)(l:List ah)(r:Int):gp (fJ tl l) r=sumR tl l r:=by
 have:∀ (l:List ah) (zl:List (Int×Int)),gp (l.foldl (fun zl x=>(ao tl x).foldl (j7 x) zl) zl) r=gp zl r+sumR tl l r:=by
  intro l;induction l with
  | nil=>intro zl; simp[sumR]
  | cons x q ih =>
   intro zl;simp only[zi1];rw[ih,nV];simp only[sumR,zg8,List.sum_append];omega
 have h:=this l [];simpa [fJ,gp] using h
theorem yq (ml:List (Int×Int))(k x:Int):(fF ml k x).map Prod.fst=if ml.any (fun p=>decide (p.1=k)) then ml.map Prod.fst else ml.map Prod.fst++[k]:=by
 induction ml with
 | nil=>simp[fF]
 | cons p r ih =>
  obtain ⟨a,l⟩:=p;simp only[fF];by_cases h:k=a
  ·subst h;simp
  ·have h2:¬ a=k:=fun e=>h e.symm;rw[zf3 h];simp only[zf7,ih,List.any_cons,h2,decide_false,Bool.false_or];split <;> simp
theorem vG {ml:List (Int×Int)}(h:(ml.map Prod.fst).Nodup)(k x:Int):((fF ml k x).map Prod.fst).Nodup:=by
 rw[yq];split
 ·exact h
 ·rename_i hk;rw[List.nodup_append];refine⟨h,by simp,fun a ha b hb e=>hk ?_⟩;simp at hb;subst hb;obtain ⟨p,hp,hpe⟩:=ze5.1 ha;rw[zi9];exact⟨p,hp,by simp[hpe,e]⟩
theorem rT (tl:List Cl)(l:List ah):((fJ tl l).map Prod.fst).Nodup:=by
 have h1:∀ (x:ah) (q:List ah) (zl:List (Int×Int)),(zl.map Prod.fst).Nodup→((q.foldl (j7 x) zl).map Prod.fst).Nodup:=by
  intro x q;induction q with
  | nil=>intro zl h; exact h
  | cons r t ih=>intro zl h; exact ih _ (vG h _ _)
 have h2:∀ (q:List ah) (zl:List (Int×Int)),(zl.map Prod.fst).Nodup→((q.foldl (fun zl x=>(ao tl x).foldl (j7 x) zl) zl).map Prod.fst).Nodup:=by
  intro q;induction q with
  | nil=>intro zl h; exact h
  | cons x t ih=>intro zl h; exact ih _ (h1 _ _ _ h)
 exact h2 _ _ (by simp)
theorem tT:∀ {zl:List (Int×Int)},(zl.map Prod.fst).Nodup→∀ p∈zl,gp zl p.1=p.2
 | [],_,p,hp=>by simp at hp
 | (a,z)::r,h,p,hp=>by
  simp only[zf7,zj2] at h
  rcases ze4.1 hp with rfl | hp
  ·simp[gp]
  ·simp only[gp];rw[zf3 fun e=>h.1 (ze5.2 ⟨p,hp,e⟩)];exact tT h.2 p hp
theorem qr:∀ {zl:List (Int×Int)} {k:Int},gp zl k≠0→∃ p∈zl,p.1=k∧p.2=gp zl k
 | [],_,h=>by simp[gp] at h
 | (a,z)::r,k,h=>by
  simp only[gp] at h ⊢;split
  ·rename_i e;exact⟨(a,z),by simp,e.symm,I⟩
  ·rename_i e;rw[zf3 e] at h;obtain ⟨p,hp,h1,h2⟩:=qr h;exact⟨p,by simp[hp],h1,h2⟩
theorem pV (tl:List Cl)(l:List ah):(fJ tl l).any (fun p=>decide (p.2≠0))=false↔∀ r,sumR tl l r=0:=by
 rw[zj5];constructor
 ·intro h r;rw[← qq];refine zg3 fun hne=>?_;obtain ⟨p,hp,_,h2⟩:=qr hne;exact h p hp (by simpa [h2] using hne)
 ·intro h p hp;have:=tT (rT tl l) p hp;rw[qq,h] at this;simp[← this]
theorem nW (i r:Int):∀ (l:List ah) (ml:List (Int×List Int)),dX (l.foldl (dT i) ml) r=dX ml r++List.replicate (l.filter fun q=>decide (q.cell=r)).length i
 | [],ml=>by simp
 | q::l,ml=>by
  simp only[zi1];rw[nW i r l,dT,qv,zh9];by_cases h:r=q.cell
  ·rw[zf4 h,zf4 (by simp[h])];simp[List.replicate_succ]
  ·rw[zf3 h,zf3 (by simp; exact fun e=>h e.symm)]
theorem tU (tl:List Cl)(l:List ah)(r:Int):dX (dQ tl l) r=l.zipIdx.flatMap fun p=>List.replicate (hits tl p.1 r) (p.2:Int):=by
 have:∀ (q:List (ah×Nat)) (ml:List (Int×List Int)),dX (q.foldl (fun ml p=>(ao tl p.1).foldl (dT p.2) ml) ml) r=dX ml r++q.flatMap fun p=>List.replicate (hits tl p.1 r) (p.2:Int):=by
  intro q;induction q with
  | nil=>intro ml; simp
  | cons p t ih =>
   intro ml;simp only[zi1];rw[ih,nW];simp[hits]
 have h:=this l.zipIdx [];simpa [dQ,dX] using h
theorem wA (tl:List Cl)(l:List ah)(r:Int):(dX (dQ tl l) r).length=cntR tl l r:=by
 rw[tU];have:∀ (l:List ah) (k:Nat),((l.zipIdx k).flatMap fun p=>List.replicate (hits tl p.1 r) (p.2:Int)).length=cntR tl l r:=by
  intro l;induction l with
  | nil=>intro k; rfl
  | cons x q ih=>intro k; simp only[List.zipIdx_cons,zg8,zd8,List.length_replicate,ih,cntR,zf7,List.sum_cons]
 exact this l 0
theorem lC (tl:List Cl)(l:List ah)(r i:Int):i∈dX (dQ tl l) r↔∃ k:Nat,i=k∧∃ x,l[k]?=some x∧0<hits tl x r:=by
 rw[tU,List.mem_flatMap];constructor
 ·rintro ⟨⟨x,k⟩,hp,hi⟩;obtain ⟨h1,rfl⟩:=List.mem_replicate.1 hi;refine⟨k,I,x,?_,Nat.pos_of_ne_zero h1⟩;simpa using List.mem_zipIdx_iff_getElem?.1 hp
 ·rintro ⟨k,rfl,x,hx,hh⟩;exact⟨(x,k),List.mem_zipIdx_iff_getElem?.2 (by simpa using hx),List.mem_replicate.2 ⟨Nat.ne_of_gt hh,I⟩⟩
theorem lk:∀ {ml:List (Int×List Int)},(ml.map Prod.fst).Nodup→∀ p∈ml,dX ml p.1=p.2
 | [],_,p,hp=>by simp at hp
 | (a,z)::r,h,p,hp=>by
  simp only[zf7,zj2] at h
  rcases ze4.1 hp with rfl | hp
  ·simp[dX]
  ·simp only[dX];rw[zf3 fun e=>h.1 (ze5.2 ⟨p,hp,e⟩)];exact lk h.2 p hp
theorem ma:∀ {ml:List (Int×List Int)} {k:Int},dX ml k≠[]→∃ p∈ml,p.1=k∧p.2=dX ml k
 | [],_,h=>by simp[dX] at h
 | (a,z)::r,k,h=>by
  simp only[dX] at h ⊢;split
  ·rename_i e;exact⟨(a,z),by simp,e.symm,I⟩
  ·rename_i e;rw[zf3 e] at h;obtain ⟨p,hp,h1,h2⟩:=ma h;exact⟨p,by simp[hp],h1,h2⟩
theorem w4:∀ {ml:List (Int×List Int)} {k x:Int},(∀ p∈ml,p.2≠[])→∀ p∈eO ml k x,p.2≠[]
 | [],_,_,_,p,hp=>by simp[eO] at hp; subst hp; simp
 | (a,l)::r,k,x,h,p,hp=>by
  unfold eO at hp;split at hp
  ·rcases ze4.1 hp with rfl | hp
   ·simp
   ·exact h p (by simp[hp])
  ·rcases ze4.1 hp with rfl | hp
   ·exact h _ (by simp)
   ·exact w4 (fun q hq=>h q (by simp[hq])) p hp
theorem Ch (tl:List Cl)(l:List ah):∀ p∈dQ tl l,p.2≠[]:=by
 have h1:∀ (i:Int) (q:List ah) (ml:List (Int×List Int)),(∀ p∈ml,p.2≠[])→∀ p∈q.foldl (dT i) ml,p.2≠[]:=by
  intro i q;induction q with
  | nil=>intro ml h; exact h
  | cons r t ih=>intro ml h; exact ih _ (w4 h)
 have h2:∀ (q:List (ah×Nat)) (ml:List (Int×List Int)),(∀ p∈ml,p.2≠[])→∀ p∈q.foldl (fun ml p=>(ao tl p.1).foldl (dT p.2) ml) ml,p.2≠[]:=by
  intro q;induction q with
  | nil=>intro ml h; exact h
  | cons x t ih=>intro ml h; exact ih _ (h1 _ _ _ h)
 exact h2 _ _ (by simp)
theorem tI (tl:List Cl)(l:List ah):(dQ tl l).any (fun p=>decide ((p.2.length:Int)≠2))=false↔∀ r,cntR tl l r=0∨cntR tl l r=2:=by
 rw[zj5];constructor
 ·intro h r;rw[← wA];by_cases hne:dX (dQ tl l) r=[]
  ·left; rw[hne]; rfl
  ·right;obtain ⟨p,hp,_,h2⟩:=ma hne;have:=h p hp;rw[h2] at this;simp at this;omega
 ·intro h p hp;have h1:=lk (i5 tl l) p hp;have h2:=h p.1;rw[← wA,h1] at h2;have h3:=List.length_pos_iff.2 (Ch tl l p hp);simp;omega
theorem Ci (tl:List Cl)(l:List ah):∀ p∈dQ tl l,∀ x∈p.2,0≤x∧x<(l.length:Int):=fun p hp x hx=>by
 rw[← lk (i5 tl l) p hp] at hx;obtain ⟨k,rfl,y,hy,_⟩:=(lC tl l p.1 x).1 hx;have:=(ze8.1 hy).1;omega
theorem zf {ml:List (Int×List Int)}{n:Nat}(h2:∀ p∈ml,p.2.length=2)(hb:∀ p∈ml,∀ x∈p.2,0≤x∧x<(n:Int))(h0:0<n):(hX (cz ml)).length=n↔∀ a:Nat,a<n→Cn (dn ml) 0 a:=by
 have hmem:∀ x:Int,x∈hX (cz ml)↔Rch (iH (cz ml)) 0 x:=fun x=>rI (cnt:=lv (cz ml)) (fun v v' h=>iw h) (jA _) (zj9 (zc1 _ _)) (by simp[iH]) x;have hnd:(hX (cz ml)).Nodup:=iu _ _ _ _ (by simp);have hin:∀ x∈hX (cz ml),0≤x∧x<(n:Int):=fun x hx=>by
  have hr:=(pF h2 0 x).1 ((hmem x).1 hx);have:∀ a b,Cn (dn ml) a b→(0≤a∧a<(n:Int))→(0≤b∧b<(n:Int)):=by
   intro a b h;induction h with
   | refl _=>exact fun h=>h
   | step e _ ih =>
    intro _
    rcases e with e | e
    ·exact ih (fQ hb e).2
    ·exact ih (fQ hb e).1
  exact this 0 x hr oM
 generalize hX (cz ml)=seen at *;constructor
 ·intro hl a ha;refine Classical.byContradiction fun hne=>?_;have hna:(a:Int) ∉ seen:=fun h=>hne ((pF h2 0 a).1 ((hmem a).1 h));have:=jW (l:=(a:Int)::seen) (n:=n) (zj2.2 ⟨hna,hnd⟩) fun x hx=>by
   rcases ze4.1 hx with rfl | hx
   ·omega
   ·exact hin x hx
  simp at this;omega
 ·intro hall;refine Nat.le_antisymm (jW hnd hin) ?_;have h3:=cW (m:=List.range n) (l:=seen.map Int.toNat) List.nodup_range (l6 hnd fun x hx=>(hin x hx).1) fun i hi=>by
   have hi:=List.mem_range.1 hi;exact ze5.2 ⟨(i:Int),(hmem i).2 ((pF h2 0 i).2 (hall i hi)),by simp⟩
  simpa using h3
theorem Cn.map {E E':Int→Int→Prop}{f:Int→Int}(h:∀ a b,E a b→Cn E' (f a) (f b)){a b:Int}(hc:Cn E a b):Cn E' (f a) (f b):=by
 induction hc with
 | refl _=>exact .refl _
 | step e _ ih =>
  rcases e with e | e
  ·exact (h _ _ e).trans ih
  ·exact (h _ _ e).symm.trans ih
theorem e7 {tl:List Cl}{c:Cl}(h0:0<c.sides.length)(hnd:(c.sides.map ah.cell).Nodup) :
  ce tl c=0↔(∀ r,sumR tl c.sides r=0)∧(∀ r,cntR tl c.sides r=0∨cntR tl c.sides r=2)∧∀ x∈c.sides,∀ y∈c.sides,Cn (ng tl c.sides) x.cell y.cell:=by
 unfold ce;generalize c.sides=l at *;by_cases hs:(fJ tl l).any (fun p=>decide (p.2≠0))=false
 ·rw[zf3 (by rw[hs]; simp)];by_cases hm:(dQ tl l).any (fun p=>decide ((p.2.length:Int)≠2))=false
  ·rw[zf3 (by rw[hm]; simp)];have h2:∀ p∈dQ tl l,p.2.length=2:=fun p hp=>by
    have:=zj5.1 hm p hp;simp at this;omega
   have hsa:=zf h2 (Ci tl l) h0;have hinj:∀ {i j:Nat} {x y:ah},l[i]?=some x→l[j]?=some y→x.cell=y.cell→i=j:=fun {i j x y} hi hj e=>by
    obtain ⟨i1,e1⟩:=ze8.1 hi;obtain ⟨i2,e2⟩:=ze8.1 hj;have key:∀ {a b:Nat} (ha:a<l.length) (hb:b<l.length),a<b→l[a].cell≠l[b].cell:=fun {a b} ha hb h=>by
     have:=zc5.1 hnd a b (by simpa using ha) (by simpa using hb) h;simpa using this
    rcases Nat.lt_trichotomy i j with h | h | h
    ·exact absurd (by rw[e1,e2]; exact e) (key i1 i2 h)
    ·exact h
    ·exact absurd (by rw[e1,e2]; exact e.symm) (key i2 i1 h)
   have hconn:(∀ a:Nat,a<l.length→Cn (dn (dQ tl l)) 0 a)↔∀ x∈l,∀ y∈l,Cn (ng tl l) x.cell y.cell:=by
    constructor
    ·intro hall x hx y hy;obtain ⟨i,hi,rfl⟩:=zc3 hx;obtain ⟨j,hj,rfl⟩:=zc3 hy;have hc:=(hall i hi).symm.trans (hall j hj);have:=hc.map (f:=fun a=>(l.getD a.toNat ⟨0,0⟩).cell) (E':=ng tl l) fun a b hl=>by
      obtain ⟨p,hp,h3,h4⟩:=hl;rw[← lk (i5 tl l) p hp] at h3 h4;obtain ⟨k,rfl,x,hx,hh⟩:=(lC tl l p.1 a).1 (List.mem_of_head? h3);obtain ⟨m,rfl,y,hy,hh2⟩:=(lC tl l p.1 b).1 h4;refine .one ⟨x,zf5 hx,y,zf5 hy,?_,?_,p.1,hh,hh2⟩
      ·simp[zg4,hx]
      ·simp[zg4,hy]
     simpa [zg4,hi,hj] using this
    ·intro hall;have key:∀ a b,Cn (ng tl l) a b→∀ (i:Nat) (x:ah),l[i]?=some x→x.cell=a→∀ (j:Nat) (y:ah),l[j]?=some y→y.cell=b→Cn (dn (dQ tl l)) (i:Int) (j:Int):=by
      have one:∀ {a b:Int},ng tl l a b→∀ (i:Nat) (x:ah),l[i]?=some x→x.cell=a→∃ (j:Nat) (y:ah),l[j]?=some y∧y.cell=b∧Cn (dn (dQ tl l)) (i:Int) (j:Int):=by
       rintro a b ⟨x',hx',y,hy,rfl,rfl,r,h3,h4⟩ i x hi he;obtain ⟨i',hi',rfl⟩:=zc3 hx';obtain ⟨j,hj,rfl⟩:=zc3 hy;have hii:=hinj hi (gE hi') he;subst hii;refine⟨j,l[j],gE hj,I,?_⟩;have m1:=(lC tl l r i).2 ⟨i,rfl,l[i],gE hi',h3⟩;have m2:=(lC tl l r j).2 ⟨j,rfl,l[j],gE hj,h4⟩;obtain ⟨p,hp,_,hp2⟩:=ma (ml:=dQ tl l) (k:=r) fun e=>by rw[e] at m1; simp at m1
       rw[← hp2] at m1 m2;cases hh:p.2 with
       | nil=>rw[hh] at m1; simp at m1
       | cons u q =>
        have hu:∀ v∈p.2,dn (dQ tl l) u v:=fun v hv=>⟨p,hp,by rw[hh]; rfl,hv⟩;exact (Cn.one (hu _ m1)).symm.trans (Cn.one (hu _ m2))
      intro a b hc;induction hc with
      | refl a =>
       intro i x hi he j y hj he2;have:=hinj hi hj (he.trans he2.symm);subst this;exact .refl _
      | step e _ ih =>
       intro i x hi he j y hj he2;have e':ng tl l _ _:=e.elim (fun e=>e) fun ⟨x,hx,y,hy,h1,h2,r,h3,h4⟩=>⟨y,hy,x,hx,h2,h1,r,h4,h3⟩;obtain ⟨k,z,hk,hz,hc⟩:=one e' i x hi he;exact hc.trans (ih k z hk hz j y hj he2)
     intro a ha;exact key _ _ (hall _ (gM h0) _ (gM ha)) 0 _ (gE h0) I a _ (gE ha) I
   rw[← hconn,← hsa];constructor
   ·intro h;refine⟨(pV tl l).1 hs,(tI tl l).1 hm,?_⟩;refine zg3 fun hne=>?_;rw[zf4 oM] at h;exact absurd h dC
   ·rintro ⟨_,_,h⟩;rw[zf3 oM]
  ·have hm':(dQ tl l).any (fun p=>decide ((p.2.length:Int)≠2))=true:=by simpa using hm
   rw[zf4 hm'];exact⟨fun h=>absurd h dC,fun h=>absurd ((tI tl l).2 h.2.1) hm⟩
 ·have hs':(fJ tl l).any (fun p=>decide (p.2≠0))=true:=by simpa using hs
  rw[zf4 hs'];exact⟨fun h=>absurd h dC,fun h=>absurd ((pV tl l).2 h.1) hs⟩
structure Fm (tl:List Cl)(c:Cl):Prop where
 dim:0≤c.dim∧c.dim≤8
 cnt:ax c=false
 found:∀ x∈c.sides,∃ d,aO tl x.cell=some d∧d.dim=c.dim - 1
 asc:c.sides.Pairwise fun a b=>a.cell<b.cell
 sg:∀ x∈c.sides,x.sign=1∨x.sign = -1
 one:c.dim=1→kg c.sides=0
theorem Fm.ok {tl:List Cl}{c:Cl}(h:Fm tl c):bV tl c=0:=Bx h.dim h.cnt h.found h.asc h.sg h.one
theorem Cu {l:List ah}(hs:l.Pairwise fun a b=>a.cell≤b.cell)(hd:∀ i x y,l[i]?=some x→l[i+1]?=some y→x.cell≠y.cell):l.Pairwise fun a b=>a.cell<b.cell:=by
 induction l with
 | nil=>exact List.Pairwise.nil
 | cons a r ih =>
  obtain ⟨h1,h2⟩:=zj3.1 hs;have hr:=ih h2 fun i x y hx hy=>hd (i+1) x y (by simpa using hx) (by simpa using hy);refine zj3.2 ⟨fun b hb=>?_,hr⟩;cases r with
  | nil=>simp at hb
  | cons z q =>
   have hz:a.cell<z.cell:=by
    have:=h1 z (by simp);have:=hd 0 a z rfl rfl;omega
   rcases ze4.1 hb with rfl | hb
   ·exact hz
   ·have:=(zj3.1 hr).1 b hb;omega
theorem CF {tl:List Cl}{c:Cl}(h:bV tl c=0)(hs:c.sides.Pairwise fun a b=>a.cell≤b.cell):Fm tl c:=by
 unfold bV at h;split at h
 ·cases h
 ·rename_i h1;split at h
  ·cases h
  ·rename_i h2;split at h
   ·cases h
   ·rename_i h3;split at h
    ·cases h
    ·rename_i h4;split at h
     ·cases h
     ·rename_i h5;have hbad:∀ i x,c.sides[i]?=some x→bP tl c i x=false:=fun i x hx=>by
       have hi:=(ze8.1 hx).1;have:=zj5.1 ((zi8 _).mp h3) i (List.mem_range.2 hi);unfold gG at this;rw[hx] at this;simpa using this
      refine⟨?_,by simpa using h2,fun x hx=>?_,Cu hs fun i x y hx hy e=>?_,fun x hx=>?_,fun hd=>?_⟩
      ·simp[eo] at h1; omega
      ·obtain ⟨i,hi,rfl⟩:=zc3 hx;have:=hbad i _ (gE hi);unfold bP at this;simp only[Bool.or_eq_false_iff,Bool.not_eq_false',decide_eq_false_iff_not,ne_eq,Decidable.not_not] at this;obtain ⟨⟨g1,g2⟩,_⟩:=this;obtain ⟨d,hd⟩:=zh2.1 g1;rw[hd] at g2;exact⟨d,hd,g2⟩
      ·have:=hbad (i+1) y hy;unfold bP at this;rw[show i+1 - 1=i by omega,hx] at this;simp[e] at this
      ·have:=zj5.1 ((zi8 _).mp h4) x hx;simp[bu] at this;by_cases h6:x.sign=1
       ·exact .inl h6
       ·exact .inr (this h6)
      ·simpa [hd] using h5
structure Rt (l:List Cl):Prop where
 few:l.length≤4000
 asc:l.Pairwise fun a b=>a.id<b.id
 pos:∀ x∈l,0<x.id
 form:∀ x∈l,Fm l x
 around:∀ x∈l,x.dim>1→ce l x=0
theorem Rt.canon {l:List Cl}(h:Rt l):aa l=l:=by
 unfold aa;rw[(dA (key:=Cl.id) (h.asc.imp fun h=>by omega) (aI.refl l)).symm];have:∀ c∈l,au c=c:=fun c hc=>by
  unfold au;rw[(dA (key:=ah.cell) ((h.form c hc).asc.imp fun h=>by omega) (aI.refl c.sides)).symm]
 rw[zc4 this];simp
theorem Rt.tab {l:List Cl}(h:Rt l):ae l=l:=by rw[a7 (by rw[h.canon]; exact h.asc),h.canon]
theorem Rt.check {l:List Cl}(h:Rt l):aY l=(0,0):=by
 refine o6 h.few ?_ ?_ ?_ ?_ <;> rw[h.canon]
 ·exact h.pos
 ·exact h.asc
 ·exact fun x hx=>(h.form x hx).ok
 ·exact h.around
theorem Rt.find {l:List Cl}(h:Rt l){c:Cl}(hc:c∈l):aO l c.id=some c:=by
 refine ll ?_ hc;rw[List.Nodup,zj4];exact h.asc.imp fun h=>by omega
theorem ji {tl:List Cl}:∀ {l:List Cl},lx tl l=none→∀ x∈l,x.dim>1→ce tl x=0
 | [],_,x,hx,_=>by simp at hx
 | y::r,h,x,hx,hd=>by
  unfold lx at h;split at h
  ·cases h
  ·rename_i hn
   rcases ze4.1 hx with rfl | hx
   ·exact zg3 fun h=>hn ⟨hd,h⟩
   ·exact ji h x hx hd
theorem qC {tl:List Cl}:∀ {l:List Cl} {p:Int×Int},lx tl l=some p→p.2≠0
 | [],_,h=>by cases h
 | y::r,p,h=>by
  unfold lx at h;split at h
  ·rename_i hn; cases h; exact hn.2
  ·exact qC h
theorem sV (l:List Cl):∀ c∈aa l,c.sides.Pairwise fun a b=>a.cell≤b.cell:=fun c hc=>by
 obtain ⟨d,_,rfl⟩:=ze5.1 hc;exact cH d.sides
theorem kO {l:List Cl}(h:(aY l).2=0):Rt (aa l):=by
 have h1:=jO h;obtain ⟨h2,h3,h4⟩:=ck h1;have ht:=a7 h2;have h5:l.length≤4000:=ye h;refine⟨by rw[ak]; exact h5,h2,h3,fun x hx=>CF (by rw[← ht]; exact h4 x hx) (sV l x hx),?_⟩;have h6:lx (ae l) (aa l)=none:=by
  unfold aY at h;rw[zf3 oM,h1] at h;cases hc:lx (ae l) (aa l) with
  | none=>rfl
  | some p =>
   rw[hc] at h;exact absurd h (qC hc)
 rw[ht] at h6;exact ji h6
theorem im {l m:List Int}(h:l.Perm m):l.sum=m.sum:=by
 induction h with
 | nil=>rfl
 | cons x _ ih=>simp[ih]
 | swap x y l=>simp; omega
 | trans _ _ ih1 ih2=>exact ih1.trans ih2
theorem xD {l m:List Nat}(h:l.Perm m):l.sum=m.sum:=by
 induction h with
 | nil=>rfl
 | cons x _ ih=>simp[ih]
 | swap x y l=>simp; omega
 | trans _ _ ih1 ih2=>exact ih1.trans ih2
theorem gK {α:Type}{key:α→Int}(l:List α):(sortBy key l).Perm l:=by
 have hi:∀ (x:α) (l:List α),(ins key x l).Perm (x::l):=by
  intro x l;induction l with
  | nil=>exact .refl _
  | cons y r ih =>
   unfold ins;split
   ·exact .refl _
   ·exact (ih.cons y).trans (.swap x y r)
 induction l with
 | nil=>exact .refl _
 | cons x r ih=>exact (hi x _).trans (ih.cons x)
def inner (tl:List Cl)(x:ah)(r:Int):Int:=((ao tl x).map fun q=>if q.cell=r then x.sign * q.sign else 0).sum
theorem dN (tl:List Cl)(l:List ah)(r:Int):sumR tl l r=(l.map fun x=>inner tl x r).sum:=by
 unfold sumR;induction l with
 | nil=>rfl
 | cons x q ih=>simp only[zg8,List.sum_append,zf7,List.sum_cons,ih]; rfl
theorem pX {tl:List Cl}{l m:List ah}(h:l.Perm m)(r:Int):sumR tl l r=sumR tl m r:=by
 rw[dN,dN];exact im (h.map _)
theorem qz {tl:List Cl}{l m:List ah}(h:l.Perm m)(r:Int):cntR tl l r=cntR tl m r:=xD (h.map _)
def sgn (b:Bool):Int:=if b then -1 else 1
theorem qi (b:Bool){a:Int}(h:a=1∨a = -1):qP b a=sgn b * a∧(qP b a=1∨qP b a = -1):=by
 rcases h with rfl | rfl <;> cases b <;> exact⟨by decide,by decide⟩
theorem cm {α:Type}{l:List α}{f g:α→Int}{K:Int}(h:∀ x∈l,f x=K * g x):(l.map f).sum=K * (l.map g).sum:=by
 induction l with
 | nil=>simp
 | cons x r ih =>
  simp only[zf7,List.sum_cons];rw[h x (by simp),ih fun y hy=>h y (by simp[hy]),Int.mul_add]
structure Nm (l:List Cl)(k:Int):Prop where
 inj:∀ a∈l,∀ b∈l,dF a.id k=dF b.id k→a=b
 pos:∀ a∈l,0<dF a.id k
section
variable {l:List Cl}(h:Rt l){k:Int}(hn:Nm l k)(t:Int)
include h hn
omit hn in
theorem eP (c:Cl)(hc:c∈l){x:ah}(hx:x∈c.sides):∃ d∈l,d.id=x.cell∧aO l x.cell=some d∧d.dim=c.dim - 1:=by
 obtain ⟨d,hd,hdd⟩:=(h.form c hc).found x hx;obtain ⟨h1,h2⟩:=cX hd;exact⟨d,h1,h2,hd,hdd⟩
theorem Bi:((l.map (aF k t)).map Cl.id).Nodup:=by
 rw[zh8,List.Nodup,zj4];refine List.Pairwise.imp_of_mem ?_ h.asc;intro a b ha hb hlt e;have:=hn.inj a ha b hb e;subst this;omega
theorem qd:((aa (l.map (aF k t))).map Cl.id).Nodup:=by
 have h1:=Bi h hn t;have h2:((aa (l.map (aF k t))).map Cl.id).Perm ((l.map (aF k t)).map Cl.id):=by
  rw[kB];exact (gK _).map _
 exact h2.symm.nodup h1
omit h hn in
theorem Bh {c:Cl}(hc:c∈l):au (aF k t c)∈aa (l.map (aF k t)) :=
 ze5.2 ⟨_,(cq _ _).2 (ze5.2 ⟨c,hc,rfl⟩),rfl⟩
omit h hn in
theorem lD {c':Cl}(hc:c'∈aa (l.map (aF k t))):∃ c∈l,c'=au (aF k t c):=by
 obtain ⟨d,hd,rfl⟩:=ze5.1 hc;obtain ⟨c,hc',rfl⟩:=ze5.1 ((cq _ _).1 hd);exact⟨c,hc',I⟩
theorem lh {c:Cl}(hc:c∈l):aO (aa (l.map (aF k t))) (dF c.id k)=some (au (aF k t c)) :=
 ll (x:=au (aF k t c)) (qd h hn t) (Bh t hc)
omit h hn in
theorem dS (c:Cl):(au (aF k t c)).sides.Perm (c.sides.map (a6 k t c)):=gK _
omit hn in
theorem lg {c:Cl}(hc:c∈l){x:ah}(hx:x∈c.sides):(a6 k t c x).sign=sgn (gC t c x.cell) * (sgn (gW t c) * x.sign)∧((a6 k t c x).sign=1∨(a6 k t c x).sign = -1):=by
 have h1:=qi (gW t c) ((h.form c hc).sg x hx);have h2:=qi (gC t c x.cell) h1.2;exact⟨by rw[← h1.1]; exact h2.1,h2.2⟩
theorem tC {c:Cl}(hc:c∈l):Fm (aa (l.map (aF k t))) (au (aF k t c)):=by
 have hf:=h.form c hc;have hlen:(au (aF k t c)).sides.length=c.sides.length:=by rw[(dS t c).length_eq,zd9]
 have hmem:∀ x',x'∈(au (aF k t c)).sides↔∃ x∈c.sides,a6 k t c x=x':=fun x'=>by rw[(dS t c).mem_iff,ze5]
 refine⟨hf.dim,?_,fun x' hx'=>?_,?_,fun x' hx'=>?_,fun hd=>?_⟩
 ·have:=hf.cnt;unfold ax at this ⊢;rw[hlen];exact this
 ·obtain ⟨x,hx,rfl⟩:=(hmem x').1 hx';obtain ⟨d,hd,hid,_,hdd⟩:=eP h c hc hx;have:=lh h hn t hd;rw[hid] at this;exact⟨_,this,hdd⟩
 ·have h1:(au (aF k t c)).sides.Pairwise fun a b=>a.cell≤b.cell:=cH _;have h2:((au (aF k t c)).sides.map ah.cell).Nodup:=by
   refine ((dS t c).map ah.cell).symm.nodup ?_;rw[zh8,List.Nodup,zj4];refine List.Pairwise.imp_of_mem ?_ hf.asc;intro a b ha hb hlt e;obtain ⟨d,hd,hid,_⟩:=eP h c hc ha;obtain ⟨d',hd',hid',_⟩:=eP h c hc hb;have e:dF a.cell k=dF b.cell k:=e;rw[← hid,← hid'] at e;have:=hn.inj d hd d' hd' e;subst this;omega
  rw[List.Nodup,zj4] at h2;exact (h1.and h2).imp fun ⟨h3,h4⟩=>by omega
 ·obtain ⟨x,hx,rfl⟩:=(hmem x').1 hx';exact (lg h t hc hx).2
 ·have hd:c.dim=1:=hd;have h1:=hf.one hd;unfold kg at h1 ⊢;rw[im ((dS t c).map ah.sign),zh8];rw[cm (g:=ah.sign) (K:=sgn (gW t c)) fun x hx=>?_,h1,Int.mul_zero];have h2:=(lg (k:=k) h t hc hx).1;have h3:gC t c x.cell=false:=by unfold gC; simp[hd]
  rw[h3] at h2;show (a6 k t c x).sign=_;rw[h2];unfold sgn;simp
theorem oI {c:Cl}(hc:c∈l){x:ah}(hx:x∈c.sides){e:Cl}(he:e∈l):hits (aa (l.map (aF k t))) (a6 k t c x) (dF e.id k)=hits l x e.id:=by
 obtain ⟨d,hd,hid,hfd,_⟩:=eP h c hc hx;unfold hits ao;rw[hfd,show (a6 k t c x).cell=dF d.id k by rw[hid]; rfl,lh h hn t hd];show ((au (aF k t d)).sides.filter _).length=_;rw[((dS t d).filter _).length_eq,List.filter_map,zd9];congr 1;refine List.filter_congr fun q hq=>?_;obtain ⟨u,hu,hui,_⟩:=eP h d hd hq;show decide (dF q.cell k=dF e.id k)=decide (q.cell=e.id);rw[decide_eq_decide,← hui];by_cases hue:u=e
 ·subst hue; simp
 ·have h1:¬ dF u.id k=dF e.id k:=fun e'=>hue (hn.inj u hu e he e');have h2:¬ u.id=e.id:=fun e'=>hue (by have a1:=h.find hu; have a2:=h.find he; rw[e',a2] at a1; injection a1 with a1; exact a1.symm);simp[h1,h2]
theorem mM {c:Cl}(hc:c∈l){x:ah}(hx:x∈c.sides){r:Int}(hr:∀ e∈l,dF e.id k≠r):hits (aa (l.map (aF k t))) (a6 k t c x) r=0:=by
 obtain ⟨d,hd,hid,hfd,_⟩:=eP h c hc hx;unfold hits ao;rw[show (a6 k t c x).cell=dF d.id k by rw[hid]; rfl,lh h hn t hd];show ((au (aF k t d)).sides.filter _).length=_;rw[((dS t d).filter _).length_eq,List.length_eq_zero_iff,List.filter_eq_nil_iff];intro q' hq';obtain ⟨q,hq,rfl⟩:=ze5.1 hq';obtain ⟨u,hu,hui,_⟩:=eP h d hd hq;have:=hr u hu;rw[hui] at this;show ¬ decide (dF q.cell k=r)=true;simpa using this
theorem xA {c:Cl}(hc:c∈l)(hd1:c.dim>1){x:ah}(hx:x∈c.sides){e:Cl}(he:e∈l) :
  inner (aa (l.map (aF k t))) (a6 k t c x) (dF e.id k)=sgn (gW t c) * sgn ((decide (t>1)&&decide (c.dim - 1>1))&&decide (e.id.tmod t=1)) * inner l x e.id:=by
 obtain ⟨d,hd,hid,hfd,hdd⟩:=eP h c hc hx;have hsx:=(lg (k:=k) h t hc hx).1;unfold inner ao;rw[hfd,show (a6 k t c x).cell=dF d.id k by rw[hid]; rfl,lh h hn t hd];show ((au (aF k t d)).sides.map _).sum=_;rw[im ((dS t d).map _),zh8];show _=_ * (d.sides.map _).sum;refine cm fun q hq=>?_;obtain ⟨u,hu,hui,_⟩:=eP h d hd hq;have hsq:=(lg (k:=k) h t hd hq).1;simp only[Function.comp_def];show (if dF q.cell k=dF e.id k then (a6 k t c x).sign * (a6 k t d q).sign else 0)=_;by_cases hue:u=e
 ·subst hue;rw[hui,zf4 rfl,zf4 rfl,hsx,hsq];have h1:gC t c x.cell=gW t d:=by
   unfold gC gW;rw[hid];simp[hd1]
  have h2:gC t d q.cell=((decide (t>1)&&decide (c.dim - 1>1))&&decide (q.cell.tmod t=1)):=by
   unfold gC;rw[hdd]
  rw[h1,h2];generalize gW t d=b1;generalize gW t c=b2;generalize ((decide (t>1)&&decide (c.dim - 1>1))&&decide (q.cell.tmod t=1))=b3;cases b1 <;> cases b2 <;> cases b3 <;> simp[sgn,Int.neg_mul,Int.mul_neg]
 ·have h1:¬ dF q.cell k=dF e.id k:=fun e'=>hue (hn.inj u hu e he (by rw[hui]; exact e'));have h2:¬ q.cell=e.id:=fun e'=>hue (by have a1:=h.find hu; have a2:=h.find he; rw[hui,e',a2] at a1; injection a1 with a1; exact a1.symm);rw[zf3 h1,zf3 h2,Int.mul_zero]
omit h hn in
theorem tQ {tl:List Cl}{x:ah}{r:Int}(h0:hits tl x r=0):inner tl x r=0:=by
 unfold hits at h0;rw[List.length_eq_zero_iff,List.filter_eq_nil_iff] at h0;unfold inner;have:((ao tl x).map fun q=>if q.cell=r then x.sign * q.sign else 0)=(ao tl x).map fun _=>(0:Int):=zc4 fun q hq=>zf3 (by simpa using h0 q hq);rw[this];generalize ao tl x=m;induction m with
 | nil=>rfl
 | cons a b ih=>simpa using ih
theorem uM {c:Cl}(hc:c∈l)(hd1:c.dim>1):ce (aa (l.map (aF k t))) (au (aF k t c))=0:=by
 have hf:=h.form c hc;have hf':=tC h hn t hc;have hn0:0<c.sides.length:=by
  have:=hf.cnt;simp[ax] at this;have:=this.2 hd1;omega
 have hlen:(au (aF k t c)).sides.length=c.sides.length:=by rw[(dS t c).length_eq,zd9]
 have nd:∀ {c:Cl},(c.sides.Pairwise fun a b=>a.cell<b.cell)→(c.sides.map ah.cell).Nodup:=fun h=>by
  rw[List.Nodup,zj4];exact h.imp fun h=>by omega
 obtain ⟨a1,a2,a3⟩:=(e7 hn0 (nd hf.asc)).1 (h.around c hc hd1);refine (e7 (by rw[hlen]; exact hn0) (nd hf'.asc)).2 ⟨fun r=>?_,fun r=>?_,fun x' hx' y' hy'=>?_⟩
 ·rw[pX (dS t c),dN,zh8];simp only[Function.comp_def];by_cases hr:∃ e∈l,dF e.id k=r
  ·obtain ⟨e,he,rfl⟩:=hr;have h1:=a1 e.id;rw[dN] at h1;rw[cm (g:=fun x=>inner l x e.id) (K:=sgn (gW t c) * sgn ((decide (t>1)&&decide (c.dim - 1>1))&&decide (e.id.tmod t=1))) fun x hx=>xA h hn t hc hd1 hx he,h1,Int.mul_zero]
  ·have hr:∀ e∈l,dF e.id k≠r:=fun e he e'=>hr ⟨e,he,e'⟩;rw[cm (g:=fun _=>(0:Int)) (K:=0) fun x hx=>by
    rw[tQ (mM h hn t hc hx hr)];rfl,Int.zero_mul]
 ·rw[qz (dS t c)];unfold cntR;rw[zh8];simp only[Function.comp_def];by_cases hr:∃ e∈l,dF e.id k=r
  ·obtain ⟨e,he,rfl⟩:=hr;have h1:=a2 e.id;unfold cntR at h1;rw[zc4 (g:=fun x=>hits l x e.id) fun x hx=>oI h hn t hc hx he];exact h1
  ·have hr:∀ e∈l,dF e.id k≠r:=fun e he e'=>hr ⟨e,he,e'⟩;left;rw[zc4 (g:=fun _=>0) fun x hx=>mM h hn t hc hx hr];generalize c.sides=m;induction m with
   | nil=>rfl
   | cons a b ih=>simpa using ih
 ·have hmem:∀ x',x'∈(au (aF k t c)).sides↔x'∈c.sides.map (a6 k t c):=fun x'=>(dS t c).mem_iff;obtain ⟨x,hx,rfl⟩:=ze5.1 ((hmem x').1 hx');obtain ⟨y,hy,rfl⟩:=ze5.1 ((hmem y').1 hy');have hm:∀ x∈c.sides,a6 k t c x∈(au (aF k t c)).sides:=fun x hx=>(hmem _).2 (ze5.2 ⟨x,hx,rfl⟩);refine (a3 x hx y hy).map (f:=fun a=>dF a k) fun a b=>?_;rintro ⟨u,hu,v,hv,rfl,rfl,r,h1,h2⟩;obtain ⟨du,hdu,hidu,hfu,_⟩:=eP h c hc hu;have hr:∃ e∈l,e.id=r:=by
   unfold hits ao at h1;rw[hfu] at h1;obtain ⟨q,hq⟩:=List.exists_mem_of_length_pos h1;obtain ⟨hq1,hq2⟩:=zg7.1 hq;obtain ⟨e,he,hei,_⟩:=eP h du hdu (x:=q) hq1;exact⟨e,he,by rw[hei]; simpa using hq2⟩
  obtain ⟨e,he,rfl⟩:=hr;exact .one ⟨_,hm u hu,_,hm v hv,I,I,dF e.id k,by rw[oI h hn t hc hu he]; exact h1,by rw[oI h hn t hc hv he]; exact h2⟩
theorem xz:Rt (aa (l.map (aF k t))):=by
 refine⟨by rw[ak,zd9]; exact h.few,?_,fun x' hx'=>?_,fun x' hx'=>?_,fun x' hx' hd=>?_⟩
 ·have h1:=e6 (l.map (aF k t));have h2:=qd h hn t;rw[zj4] at h1;rw[List.Nodup,zj4] at h2;exact (h1.and h2).imp fun ⟨h3,h4⟩=>by omega
 ·obtain ⟨c,hc,rfl⟩:=lD t hx';exact hn.pos c hc
 ·obtain ⟨c,hc,rfl⟩:=lD t hx';exact tC h hn t hc
 ·obtain ⟨c,hc,rfl⟩:=lD t hx';exact uM h hn t hc hd
end
def Bd (l:List Cl):Prop:=∀ c∈l,c.id≤l.length
theorem wu (ls:List (List Int)):Rt (bC ls)∧Bd (bC ls):=by
 have h1:=kO (l:=bC ls) (by rw[mL]);have h2:aa (bC ls)=bC ls:=by
  unfold bC;cases aC [] ls with
  | none=>rfl
  | some all=>exact fj _
 rw[h2] at h1;refine⟨h1,?_⟩;unfold bC;cases h:aC [] ls with
 | none=>intro c hc; simp at hc
 | some all =>
  obtain ⟨hg,_⟩:=fz ls [] h fG.nil (by simp);dsimp only;rw[hg.cells];intro c hc;obtain ⟨s,hs,rfl⟩:=ze5.1 hc;have:=(ze8.1 (hg.get_lb hs)).1;show ixC all s≤_;unfold ixC;rw[zd9];omega
theorem Ax {l:List Int}{x:Int}(h:x∈l):lbI l x<l.length:=by
 unfold lbI;induction l with
 | nil=>simp at h
 | cons a r ih =>
  rw[zh9]
  rcases ze4.1 h with rfl | h
  ·have:=zc1 (fun y=>decide (y<x)) r;simp;omega
  ·have:=ih h;split
   ·simp only[ze2]; omega
   ·simp only[ze2]; omega
theorem rF (a b:List Cl):Rt (bA a b)∧Bd (bA a b)∧(bA a b).length≤a.length * b.length:=by
 rw[zm];unfold AL;split
 ·exact⟨⟨by simp,List.Pairwise.nil,by simp,by simp,by simp⟩,fun c hc=>by simp at hc,by simp⟩
 ·rename_i hbad;split
  ·rename_i hok;have hlen:(aa (cA a b)).length=a.length * b.length:=by
    rw[ak];unfold cA;rw[gL,ak,ak]
   refine⟨kO hok,fun c hc=>?_,by rw[hlen]; exact lR _⟩;rw[hlen];obtain ⟨h1,h2,_⟩:=uP (by simpa using hbad);have ta:=a7 (ck (jO h1)).1;have tb:=a7 (ck (jO h2)).1;obtain ⟨d,hd,rfl⟩:=ze5.1 hc;have hd:=(cq _ _).1 hd;unfold cA at hd;rw[ta,tb] at hd;obtain ⟨x,hx,hd⟩:=List.mem_flatMap.1 hd;obtain ⟨y,hy,rfl⟩:=ze5.1 hd;have l1:=Ax (ze5.2 ⟨x,hx,rfl⟩:x.id∈(aa a).map Cl.id);have l2:=Ax (ze5.2 ⟨y,hy,rfl⟩:y.id∈(aa b).map Cl.id);rw[zd9,ak] at l1 l2;show aR (aa a) (aa b) x.id y.id≤_;unfold aR;rw[ak];have h3:(lbI ((aa a).map Cl.id) x.id+1) * b.length≤a.length * b.length:=Nat.mul_le_mul_right _ l1;rw[Nat.succ_mul] at h3;have h4:((lbI ((aa a).map Cl.id) x.id * b.length:Nat):Int)=(lbI ((aa a).map Cl.id) x.id:Int) * (b.length:Int):=Int.natCast_mul _ _;rw[← h4];omega
  ·exact⟨⟨by simp,List.Pairwise.nil,by simp,by simp,by simp⟩,fun c hc=>by simp at hc,by simp⟩
theorem uQ:∀ n,n<7→2≤n→(aY (qO n)).2=0∧∀ c∈qO n,c.id≤90:=by decide +kernel
theorem jq:∀ (ls acc:List (List Int)) {all:List (List Int)},aC acc ls=some all→(∀ x∈ls,x.length≤2)→all.length≤acc.length+3 * ls.length
 | [],acc,all,h,_=>by cases h; simp
 | s::r,acc,all,h,hl=>by
  have hs:=hl s (by simp);have h3:(bM s).length≤s.length:=by
   unfold bM;exact zj8 (gI _ _) (by rw[eC]; exact lR _)
  simp only[ze2];unfold aC at h;split at h
  ·have:=jq r acc h fun x hx=>hl x (by simp[hx]);omega
  ·split at h
   ·cases h
   ·have h1:=jq r _ h fun x hx=>hl x (by simp[hx]);have h2:(dD acc (bM s)).length≤acc.length+3:=by
     unfold dD;refine zj8 (gI _ _) ?_;rw[(fV _).length_eq,zd8];have:2 ^ (bM s).length≤2 ^ 2:=Nat.pow_le_pow_right dC oM;simp[bh];omega
    omega
theorem n9:(bC [[0,1],[1,2],[0,2]]).length≤9:=by
 unfold bC;cases h:aC [] [[0,1],[1,2],[0,2]] with
 | none=>simp
 | some all =>
  have:=jq _ _ h dC;dsimp only;rw[ak,be];simpa using this
theorem wv (m:Int)(ls:List (List Int))(y:Int):Rt (ny (lQ m ls y))∧∀ c∈ny (lQ m ls y),c.id≤90:=by
 have key:∀ l:List Cl,Rt l→(l.length≤45→∀ c∈l,c.id≤90)→Rt (ny l)∧∀ c∈ny l,c.id≤90:=by
  intro l h1 h2;unfold ny;split
  ·have h3:=rF (bC [[0,1],[1,2],[0,2]]) (bC [[0,1],[1,2],[0,2]]);refine⟨h3.1,fun c hc=>?_⟩;have h4:=h3.2.1 c hc;have h5:=h3.2.2;have h6:nk.length≤9 * 9:=zj8 h5 (Nat.mul_le_mul n9 n9);have h7:c.id≤nk.length:=h4;omega
  ·exact⟨h1,h2 oM⟩
 have hS:∀ ls,Rt (ny (bC ls))∧∀ c∈ny (bC ls),c.id≤90:=fun ls=>key _ (wu ls).1 fun hl c hc=>by have:=(wu ls).2 c hc; omega
 have hP:∀ a b,Rt (ny (bA a b))∧∀ c∈ny (bA a b),c.id≤90:=fun a b=>key _ (rF a b).1 fun hl c hc=>by have:=(rF a b).2.1 c hc; omega
 have h5:=a8 y 5 dC dC;unfold lQ
 repeat' split
 ·exact hS _
 ·exact hP _ _
 ·have h6:=uQ (2+bG y 5).toNat oM oM;have h7:=kO h6.1;rw[show aa (qO (2+bG y 5).toNat)=qO (2+bG y 5).toNat from fj _] at h7;exact key _ h7 fun _=>h6.2
 ·exact hP _ _
 ·exact hS _
 ·exact hS _
theorem Br:∀ k∈[1,3,5],∀ a,a<91→∀ b,b<91→dF (a:Nat) k=dF (b:Nat) k→a=b:=by decide +kernel
theorem Bq:∀ k∈[1,3,5],∀ a,a<91→0<a→0<dF (a:Nat) k:=by decide +kernel
theorem nR (kd:Int)(ls:List (List Int))(y:Int):Rt (ja kd ls y):=by
 obtain ⟨h1,h2⟩:=wv (bG kd 8) ls y;have hk:vQ y∈[(1:Int),3,5]:=by
  have:=a8 (IntKind.i64.wrap (y.tdiv 7)) 3 dC dC;unfold vQ;generalize bG (IntKind.i64.wrap (y.tdiv 7)) 3=q at *
  rcases (by omega:q=0∨q=1∨q=2) with rfl | rfl | rfl <;> decide
 refine xz h1 ⟨fun a ha b hb e=>?_,fun a ha=>?_⟩ _
 ·have p1:=h1.pos a ha;have p2:=h1.pos b hb;have q1:=h2 a ha;have q2:=h2 b hb;have e1:((a.id.toNat:Nat):Int)=a.id:=Int.toNat_of_nonneg oM;have e2:((b.id.toNat:Nat):Int)=b.id:=Int.toNat_of_nonneg oM;have:=Br _ hk a.id.toNat oM b.id.toNat oM (by rw[e1,e2]; exact e);have hid:a.id=b.id:=oM;have f1:=h1.find ha;have f2:=h1.find hb;rw[hid,f2] at f1;injection f1 with f1
  exact f1.symm
 ·have p1:=h1.pos a ha;have q1:=h2 a ha;have e1:((a.id.toNat:Nat):Int)=a.id:=Int.toNat_of_nonneg oM;have:=Bq _ hk a.id.toNat oM oM;rw[e1] at this;exact this
theorem Cg:∀ k∈[1,3,5],∀ a,a<91→dF (a:Nat) k≤300:=by decide +kernel
theorem zD (kd:Int)(ls:List (List Int))(y:Int):∀ c∈ja kd ls y,gD c.id:=by
 intro c hc;have h0:=(nR kd ls y).pos c hc;obtain ⟨h1,h2⟩:=wv (bG kd 8) ls y;have hk:vQ y∈[(1:Int),3,5]:=by
  have:=a8 (IntKind.i64.wrap (y.tdiv 7)) 3 dC dC;unfold vQ;generalize bG (IntKind.i64.wrap (y.tdiv 7)) 3=q at *
  rcases (by omega:q=0∨q=1∨q=2) with rfl | rfl | rfl <;> decide
 obtain ⟨a,ha,rfl⟩:=lD (AD y) hc;have p1:=h1.pos a ha;have q1:=h2 a ha;have e1:((a.id.toNat:Nat):Int)=a.id:=Int.toNat_of_nonneg oM;have:=Cg _ hk a.id.toNat oM;rw[e1] at this;have h3:(au (aF (vQ y) (AD y) a)).id=dF a.id (vQ y):=rfl;rw[h3] at h0 ⊢;unfold gD;omega
def part (l:List Cl)(p:Int→Bool):List Cl:=l.filter fun c=>p c.id
def rP (l:List Cl)(p:Int→Bool):Prop:=∀ c∈l,p c.id=true→∀ x∈c.sides,p x.cell=true
theorem mW {l:List Cl}(h:Rt l)(ids:List Int):rP l fun k=>(cY l ids).contains k:=by
 intro c hc hp x hx;have hm:c.id∈cY l ids:=by simpa using hp
 obtain ⟨id,hid,hr⟩:=(ir l ids c.id).1 hm;obtain ⟨d,hd,_⟩:=(h.form c hc).found x hx;have ha:jd l c.id=some (c.sides.map ah.cell):=by unfold jd; rw[h.find hc]; rfl
 have:x.cell∈cY l ids:=(ir l ids x.cell).2 ⟨id,hid,hr.snoc ha (ze5.2 ⟨x,hx,rfl⟩) (by unfold jd; rw[hd]; simp)⟩;simpa using this
section
variable {l:List Cl}(h:Rt l){p q:Int→Bool}(hp:rP l p)(hq:rP l q)
include h hp hq
end
set_option maxHeartbeats 1000000
def swp {α:Type}(l:List α)(i k:Nat)(hi:i<l.length)(hk:k<l.length):List α:=(l.set i l[k]).set k l[i]
theorem tg {α:Type}(l:List α)(i k:Nat)(hi:i<l.length)(hk:k<l.length):(swp l i k hi hk).Perm l:=List.set_set_perm hi hk
theorem uB {α:Type}(l:List α)(i k:Nat)(hi:i<l.length)(hk:k<l.length):(swp l i k hi hk).length=l.length:=by simp[swp]
theorem aw.set {α β:Type}{R:α→β→Prop}{a:α}{b:β}(h:R a b):∀ {l:List α} {m:List β} (k:Nat),aw R l m→aw R (l.set k a) (m.set k b)
 | [],[],_,_=>trivial
 | _::_,_::_,0,h'=>⟨h,h'.2⟩
 | _::_,_::_,k+1,h'=>⟨h'.1,aw.set h k h'.2⟩
 | [],_::_,_,h'=>h'.elim
 | _::_,[],_,h'=>h'.elim
theorem w3 {α β:Type}{R:α→β→Prop}{l:List α}{m:List β}(h:aw R l m){i:Nat}(h1:i<l.length)(h2:i<m.length):R l[i] m[i] :=
 h.get (gE h1) (gE h2)
theorem zr {l:List Cl}{rs:List Rc}(h:l.length=rs.length)(i k:Nat)(hi:i<l.length)(hk:k<l.length):(i7 l rs).Perm (i7 (swp l i k hi hk) (swp rs i k (h ▸ hi) (h ▸ hk))):=by
 have h1:∀ j (hj:j<l.length),(i7 l rs)[j]'(by rw[jw h]; exact hj)=AE l[j] (rs[j]'(h ▸ hj)):=fun j hj=>by
  have:=tF (gE hj) (gE (h ▸ hj:j<rs.length));rw[gE (by rw[jw h]; exact hj)] at this;exact Option.some.inj this
 unfold swp;rw[← oK _ _ (by simp[h]),← oK _ _ h,← h1 i hi,← h1 k hk];exact (List.set_set_perm _ _).symm
def ShC (a b:Cl):Prop:=a.id=b.id∧a.dim=b.dim∧a.sides.Perm b.sides
def ShL (l m:List Cl):Prop:=∃ l1:List Cl,l1.Perm l∧aw ShC l1 m
theorem ShL.fits {l m:List Cl}(h:ShL l m)(hf:c4 l):c4 m:=by
 obtain ⟨l1,h1,h2⟩:=h;refine⟨by rw[← h2.length,h1.length_eq]; exact hf.1,fun c hc=>?_⟩;have:∀ {l m:List Cl},aw ShC l m→∀ c∈m,∃ d∈l,ShC d c:=by
  intro l;induction l with
  | nil=>intro m h c hc; cases m with | nil=>cases hc | cons _ _=>exact h.elim
  | cons x t ih =>
   intro m h c hc;cases m with
   | nil=>cases hc
   | cons y m =>
    rcases ze4.1 hc with rfl | hc
    ·exact⟨x,by simp,h.1⟩
    ·obtain ⟨d,hd,he⟩:=ih h.2 c hc;exact⟨d,by simp[hd],he⟩
 obtain ⟨d,hd,he⟩:=this h2 c hc;rw[← he.2.2.length_eq];exact hf.2 d (h1.mem_iff.1 hd)
theorem tG (E:World)(g:PH)(s:Own)(a:Int)(n:Nat)(h:n<1099511627776):Ctr Tryz.prog E 10 #[vi a,vi ((n:Int)+1)] g s (fun r g' s'=>∃ k:Nat,k≤n∧r=vi (k:Int)∧g=g'∧s=s'):=by
 obtain ⟨h1,h2⟩:=zz a (n+1) oM oM;refine (aW E g s a ((n:Int)+1) oM).mono ?_;rintro _ _ _ ⟨rfl,rfl,rfl⟩;exact⟨(bG a ((n+1:Nat):Int)).toNat,oM,by rw[← h1]; rfl,rfl,rfl⟩
theorem pn (E:World)(g:PH)(s:Own)(v:Value)(l:List Cl)(y:Int)(hv:aq g v l)(hf:c4 l) :
  Ctr Tryz.prog E 18 #[.agg #[v],vi y] g s (fun r g' s'=>s=s'∧Le g g'∧∃ u m,r = .agg #[u]∧aq g' u m∧ShL l m):=by
 obtain ⟨p,c,rfl⟩:=hv.form;have hll:=hf.1;refine za9 (args:=[.agg #[.slice p l.length c],vi y]) func18 I ntmps18 (bE I) ?_;refine rZ (bW (bO I) fun b2=>?_);refine bW (aL zk3) fun b4=>?_;refine tZ (rZ (lK (qV 1 bD aA I I I) (lW (cL call45 I (zR E g _ _ l hv hf)) ?_)));rintro _ _ _ ⟨rfl,u,rs,rfl,hO,rfl⟩;have el:=hO.length;refine zc8 fun ⟨w0,hw0⟩=>?_;obtain ⟨q,d,rfl⟩:=ag (i:=0) hw0 rfl;have hbq:0<rs.length→based (.slice q rs.length d)=true:=fun h=>(by obtain ⟨b0,c0,he⟩:=bF (i:=0) hw0 rfl h; rw[he]; rfl);clear hw0 w0;refine bW (aL zk3) fun b5=>?_;refine oZ (sK 0 aA I I I I I sB) ?_;refine tZ ?_;refine SC.to (fun w hw=>hw) (g':=g) (s':=pt b5 (.cells #[.slice q rs.length d] 30 (0,0))::rowA encCell 63 (.slice q rs.length d) rs::(i7 l rs++(pt b4 (.cells #[.slice none 0 0] 30 (0,0))::pt b2 (.cells #[.slice p l.length c] 30 (0,0))::s))) ?_;generalize hR:(pt b4 (.cells #[.slice none 0 0] 30 (0,0))::pt b2 (.cells #[.slice p l.length c] 30 (0,0))::s)=R;refine SC.cut (ι:=List Cl×List Rc) (fun _=>[(1,vi y),(2,pp b2 0),(4,pp b4 0),(5,pp b5 0)]) (fun _=>g)
  (fun i=>pt b5 (.cells #[.slice q rs.length d] 30 (0,0))::rowA encCell 63 (.slice q rs.length d) i.2::(i7 i.1 i.2++R))
  (fun i=>i.1.Perm l∧aw vO i.1 i.2∧i.2.length=rs.length) ?_ ?_
 ·refine rZ (lU (fA dg I cw I) (lK (qL (v:=.slice q rs.length d) dV I (cO 0 I I)) (lU (eN aJ I) (lU (sU I I oM) (aT I (bK ?_))))));refine oP (ι:=List Cl×List Rc×Int) (fun i=>[(1,vi y),(2,pp b2 0),(4,pp b4 0),(5,pp b5 0),(6,vi i.2.2)]) (fun _=>g)
   (fun i=>pt b5 (.cells #[.slice q rs.length d] 30 (0,0))::rowA encCell 63 (.slice q rs.length d) i.2.1::(i7 i.1 i.2.1++R))
   (fun i=>i.1.Perm l∧aw vO i.1 i.2.1∧i.2.1.length=rs.length∧(-1≤i.2.2∧i.2.2<rs.length)) (fun i=>(i.2.2+1).toNat) (l,rs,(rs.length:Int) - 1)
   sB rfl rfl ⟨.refl _,hO,rfl,by dsimp only; omega,by dsimp only; omega⟩ ?_
  rintro ⟨l1,rs1,j⟩ ⟨hp,hO1,hrl,hj0,hj1⟩;dsimp only at hp hO1 hrl hj0 hj1 ⊢;have hll1:=hO1.length;refine sQ (sW I (lU (gR I I) (tZ ?_)));refine iP I (fun hgt=>?_) (fun hgt=>?_)
  ·obtain ⟨jn,rfl⟩:∃ n:Nat,j=n:=⟨j.toNat,oM⟩;have hjl:jn<rs1.length:=oM;have hbs:=hbq oM;have hgj:rs1[((jn:Nat):Int).toNat]?=some rs1[jn]:=gE hjl;obtain ⟨⟨xi,xd,⟨xp,xn,xc⟩⟩,hx⟩:∃ x,x=rs1[jn]:=⟨_,rfl⟩;rw[← hx] at hgj;refine kP (tN (sQ (bK (sW I (lM I (lU (SU.mulW I I) (lU (zd4 I I) (lM I (yD I (lW (cL iG I (tG E g _ _ jn oM)) ?_))))))))));rintro _ _ _ ⟨kn,hkn,rfl,rfl,rfl⟩;have hkl:kn<rs1.length:=oM;have hgk:rs1[((kn:Nat):Int).toNat]?=some rs1[kn]:=gE hkl;refine aT I (rZ (lU (fA dg I cw I) (lK (qL (v:=.slice q rs.length d) dV I (cO 0 I I)) (lM I (lU (iA aJ az I I hbs oM sL) (lK (eA eL az I (zb5 1 I) hgj) (bW (aL zk4) fun b8=>?_)))))));refine oZ (sK 0 az I I I I I sB) ?_;refine tZ (sQ ?_);refine dW [9] [(0,2),(1,1),(2,2),(3,2),(4,1),(5,2),(6,2),(7,1),(8,2),(9,0)] zd6 kR ?_;refine pU I (fA dg I cw I) (pK I (qL (v:=.slice q rs.length d) dV I (cO 1 I I)) (yM I (pU I (fA dg I cw I) (pK I (qL (v:=.slice q rs.length d) dV I (cO 1 I I)) (yM I (pU I (iA aJ az I I hbs oM sL) (pK I (eA eL az I (zb5 2 I) hgk) (pU I (iA aJ az I I hbs oM sL) (SP.on I (sT (a:=rs1[kn]) 2 az I I I hjl I) (.inl dC) ?_)))))))));rintro _ _ _ ⟨rfl,rfl⟩;refine pN (tN (rG (lU (fA dg I cw I) (lK (qL (v:=.slice q rs.length d) dV I (cO 1 I I)) (lM I (lK (qV 0 eL az I I I) (lU (iA aJ az I I hbs oM sL) (oZ (sT (a:=(⟨xi,xd,⟨xp,xn,xc⟩⟩:Rc)) 2 az I I I (by simp only[zh6]; exact hkl) I) ?_))))))));refine nL (bN (tN (rG (lM I (lU (sU I I oM) (lA I (nL ?_)))))));refine ST.to (fun w hw=>?_) (g':=g) (s':=pt b5 (.cells #[.slice q rs.length d] 30 (0,0))::rowA encCell 63 (.slice q rs.length d) (swp rs1 jn kn hjl hkl)::(i7 (swp l1 jn kn oM oM) (swp rs1 jn kn hjl hkl)++R)) ?_
   ·have h1:=hw.sublist (zi3 _ _);have h2:=h1.perm (.cons _ (.cons _ ((zr hll1 jn kn oM oM).append_right R)));have e:swp rs1 jn kn hjl hkl=(rs1.set jn rs1[kn]).set kn (⟨xi,xd,⟨xp,xn,xc⟩⟩:Rc):=by unfold swp; rw[hx]
    rw[show rowA encCell 63 (.slice q rs.length d) (swp rs1 jn kn hjl hkl)=rowA encCell 63 (.slice q rs.length d) ((rs1.set jn rs1[kn]).set kn (⟨xi,xd,⟨xp,xn,xc⟩⟩:Rc)) by rw[e]];exact h2
   exact gA (swp l1 jn kn oM oM,swp rs1 jn kn hjl hkl,(jn:Int) - 1) sB I I ⟨(tg _ _ _ _ _).trans hp,aw.set (w3 hO1 oM hjl) kn (aw.set (w3 hO1 oM hkl) jn hO1),by rw[uB]; exact hrl,by dsimp only; omega,by dsimp only; omega⟩ (by dsimp only; omega)
  ·refine xI (tX (tX (bX ?_)));exact za7 (l1,rs1) sB I I ⟨hp,hO1,hrl⟩
 ·rintro ⟨l1,rs1⟩ ⟨hp,hO1,hrl⟩;dsimp only at hp hO1 hrl ⊢;have hll1:=hO1.length;have hfl:=fun x hx=>hf.2 x (hp.mem_iff.1 hx);refine sQ (rZ (aT I (bK ?_)));refine oP (ι:=PH×List Cl×List Cl×List Rc×List Cl×List Rc) (fun i=>[(1,vi y),(2,pp b2 0),(4,pp b4 0),(5,pp b5 0),(9,vi i.2.2.2.1.length)]) (fun i=>i.1)
   (fun i=>pt b5 (.cells #[.slice q rs.length d] 30 (0,0))::rowA encCell 63 (.slice q rs.length d) rs1::(i7 i.2.2.2.2.1 i.2.2.2.2.2++R))
   (fun i=>Le g i.1∧rs1=i.2.2.2.1++i.2.2.2.2.2∧l1=i.2.1++i.2.2.2.2.1∧aw ShC i.2.1 i.2.2.1∧aw (ay i.1) i.2.2.1 i.2.2.2.1∧aw vO i.2.2.2.2.1 i.2.2.2.2.2) (fun i=>i.2.2.2.2.2.length) (g,[],[],[],l1,rs1)
   sB rfl rfl ⟨zb7 g,rfl,rfl,trivial,trivial,hO1⟩ ?_
  rintro ⟨g1,D0,D,RD,L,RL⟩ ⟨hle,hrs,hls,hsh,hcr,hOL⟩;dsimp only at hle hrs hls hsh hcr hOL ⊢;have hlr:rs1.length=RD.length+RL.length:=by rw[hrs]; simp
  have hLl:=hOL.length;refine sQ (sW I (lU (fA dg I cw I) (lK (qL dV I (cO 0 I I)) (lU (eN aJ I) (yL I (tZ ?_))))));refine iP I (fun hlt=>?_) (fun hlt=>?_)
  ·cases RL with
   | nil=>simp at hlr; omega
   | cons x RL =>
   obtain ⟨cx,L',hLe,hcx,hOL'⟩:=hOL.cons_right;subst hLe;obtain ⟨xi,xd,⟨xp,xn,xc⟩⟩:=x;obtain ⟨e1,e2,e3⟩:=hcx;dsimp only at e1 e2 e3;subst e1 e2 e3;have hbs:=hbq (by simp at hlr; omega);have hgx:rs1[((RD.length:Nat):Int).toNat]?=some (⟨cx.id,cx.dim,⟨xp,cx.sides.length,xc⟩⟩:Rc):=by rw[hrs]; exact bw oM
   have hxl:cx.sides.length<1099511627776:=hfl cx (by rw[hls]; simp);simp only[ze2] at hlr;refine cP (s':=rowA encSide 87 (.slice xp cx.sides.length xc) cx.sides::pt b5 (.cells #[.slice q rs.length d] 30 (0,0))::rowA encCell 63 (.slice q rs.length d) rs1::(i7 L' RL++R)) (List.perm_middle (l₁:=[_,_])) ?_;refine SC.facts fun ⟨w0,hw0⟩=>?_;have hbx:0<cx.sides.length→based (.slice xp cx.sides.length xc)=true:=fun h=>by obtain ⟨b0,c0,he⟩:=bF (i:=0) hw0 rfl h; rw[he]; rfl
   clear hw0 w0;refine kP (tN (sQ (bK (rZ (lU (fA dg I cw I) (lK (qL (v:=.slice q rs.length d) dV I (cO 1 I I)) (lM I (lU (iA aJ az I I hbs oM sL) (lU (fC ar I bJ I hbs) (lK (aZ (o:=2) (u:=.slice xp cx.sides.length xc) cI I (zb5 2 I) hgx I) (aT I (sW I (lU (eN cf I) (lU (sU I I oM) (aT I (bK ?_))))))))))))))));refine oP (ι:=List ah×Int) (fun i=>[(1,vi y),(2,pp b2 0),(4,pp b4 0),(5,pp b5 0),(9,vi RD.length),(10,.slice xp cx.sides.length xc),(11,vi i.2)]) (fun _=>g1)
    (fun i=>rowA encSide 87 (.slice xp cx.sides.length xc) i.1::pt b5 (.cells #[.slice q rs.length d] 30 (0,0))::rowA encCell 63 (.slice q rs.length d) rs1::(i7 L' RL++R))
    (fun i=>i.1.Perm cx.sides∧(-1≤i.2∧i.2<cx.sides.length)) (fun i=>(i.2+1).toNat) (cx.sides,(cx.sides.length:Int) - 1)
    sB rfl rfl ⟨.refl _,by dsimp only; omega,by dsimp only; omega⟩ ?_
   rintro ⟨ss,j⟩ ⟨hps,hj0,hj1⟩;dsimp only at hps hj0 hj1 ⊢;have hsl:=hps.length_eq;refine sQ (sW I (lU (gR I I) (tZ ?_)));refine iP I (fun hgt=>?_) (fun hgt=>?_)
   ·obtain ⟨jn,rfl⟩:∃ n:Nat,j=n:=⟨j.toNat,oM⟩;have hjl:jn<ss.length:=oM;have hbsx:=hbx oM;have hgj:ss[((jn:Nat):Int).toNat]?=some ss[jn]:=gE hjl;obtain ⟨⟨zc,zs⟩,hz⟩:∃ z,z=ss[jn]:=⟨_,rfl⟩;rw[← hz] at hgj;refine kP (tN (sQ (bK (sW I (lU (SU.quo I I dC) (lM I (lU (SU.mulW I I) (lU (zd4 I I) (lM I (yD I (lW (cL iG I (tG E g1 _ _ jn oM)) ?_)))))))))));rintro _ _ _ ⟨kn,hkn,rfl,rfl,rfl⟩;have hkl:kn<ss.length:=oM;have hgk:ss[((kn:Nat):Int).toNat]?=some ss[kn]:=gE hkl;refine aT I (sW I (lM I (lU (iA cf bB I I hbsx oM sL) (lK (eA jR bB I (zb5 0 I) hgj) (bW (aL zk2) fun b13=>?_)))));refine oZ (sK 0 bB I I I I I sB) ?_;refine tZ (sW I (lM I (lM I (lM I (lU (iA cf bB I I hbsx oM sL) (lK (eA jR bB I (zb5 1 I) hgk) (lU (iA cf bB I I hbsx oM sL) (oZ (sT (a:=ss[kn]) 1 bB I I I hjl I) (tZ (rG (lM I (lM I (lK (qV 0 jR bB I I I) (lU (iA cf bB I I hbsx oM sL) (oZ (sT (a:=(⟨zc,zs⟩:ah)) 1 bB I I I (by simp only[zh6]; exact hkl) I) ?_)))))))))))))));refine nL (bN (tN (rG (lM I (lU (sU I I oM) (lA I (nL (dR (zi3 _ _) ?_))))))));have e:swp ss jn kn hjl hkl=(ss.set jn ss[kn]).set kn (⟨zc,zs⟩:ah):=by unfold swp; rw[hz]
    exact gA ((ss.set jn ss[kn]).set kn (⟨zc,zs⟩:ah),(jn:Int) - 1) sB I I ⟨by dsimp only; rw[← e]; exact (tg _ _ _ _ _).trans hps,by dsimp only; omega,by dsimp only; omega⟩ (by dsimp only; omega)
   ·refine xI (tX (tX (bX (bN (tN (fS fun g2 hle2 hs2=>?_))))));refine rG (lM I (yD I (lA I (nL ?_))));exact gA (g2,D0++[cx],D++[⟨cx.id,cx.dim,ss⟩],RD++[⟨cx.id,cx.dim,⟨xp,cx.sides.length,xc⟩⟩],L',RL) ⟨I,I,I,I,bk lN,trivial⟩ I I
     ⟨hle.trans hle2,by rw[hrs]; simp,by rw[hls]; simp,hsh.append ⟨⟨rfl,rfl,hps.symm⟩,trivial⟩,(hcr.mono fun _ _=>ay.mono hle2).append ⟨(show ay g2 ⟨cx.id,cx.dim,ss⟩ ⟨cx.id,cx.dim,⟨xp,cx.sides.length,xc⟩⟩ from ⟨rfl,rfl,hs2⟩),trivial⟩,hOL'⟩ lN
  ·have hr0:RL=[]:=ze7 oM;subst hr0;have hl0:L=[]:=ze7 (by simpa using hLl);subst hl0;rw[zc2] at hrs hls;subst hrs hls;subst hR;refine SC.to (fun w hw=>hw.perm (zj1 _ _ _)) (g':=g1) (s':=rowA encCell 63 (.slice q rs.length d) rs1::pt b5 (.cells #[.slice q rs.length d] 30 (0,0))::(pt b4 (.cells #[.slice none 0 0] 30 (0,0))::pt b2 (.cells #[.slice p l.length c] 30 (0,0))::s)) ?_;refine fS fun g2 hle2 hs2=>?_;refine xI (tX (tX (bX (tN (rZ (lK (qV 0 bD aA I I I) (oZ (sK 1 aA I I I I I sB) ?_)))))));refine tZ (rE ?_);exact ST.retCD 1 s (.inl I) results18 I bD aA I I uR ⟨I,hle.trans hle2,_,D,I,⟨rs1,hs2,hcr.mono fun _ _=>ay.mono hle2⟩,⟨l1,hp,hsh⟩⟩
end Go.Proofs.YtcfkpajlakidbaaGreat
namespace Go.Sy
open Go
structure Md where
 ro:Option Nat
 ds:List Deferred
def wf (ro:Option Nat):Fence:={ fn:=fun _=>True,depth:=none,alive:=false,round:=ro }
section
variable {P:Program}{M:Md}{N:Nat}{E:World}{Q:Exit→Act→World→Prop}{f f':Fr}{g g':PH}{s s':Own}{ops:Array Oper}
end
section
variable {P:Program}{M:Md}{N:Nat}{E:World}{Q:Exit→Act→World→Prop}{f:Fr}{g:PH}{s:Own}{dst:Option Tmp}{ty:TypeId}{pos:String}{af:Array Edge}{gd:Option (Nat×Bool)}
end
end Go.Sy
namespace Go.Proofs.YtcfkpajlakidbaaGreat
open _root_.Go.Proofs.Tryz _root_.Go.Proofs.YtcfkpajlakidbaaGreat.Tryz
open Go Go.Sy Go.Pl Go.Proofs
set_option maxRecDepth 100000
set_option maxHeartbeats 1000000
theorem x5 {α β:Type}{l:List α}{k:Nat}(h:k<l.length)(p:α→Bool)(f:α→β):((l.take (k+1)).filter p).map f=((l.take k).filter p).map f++(if p l[k] then [f l[k]] else []):=by
 rw[tS h,zg9,zf8];congr 1;simp only[zh9,List.filter_nil];split <;> rfl
theorem Bz {α β:Type}(l:List α)(k:Nat)(p:α→Bool)(f:α→β):(((l.take k).filter p).map f).length≤k:=by
 rw[zd9];refine zj8 (zc1 _ _) ?_;rw[zd7]; omega
def rA:List Cl→Int→Int
 | [],m=>m
 | c::r,m=>rA r (max m c.dim)
def vU (l:List Cl):Int:=rA (ae l) (-1)
theorem mP (c:Cl):∀ (l:List Cl) (m:Int),rA (l++[c]) m=max (rA l m) c.dim
 | [],_=>rfl
 | _::r,_=>mP c r _
theorem SU.maxI {P:Program}{N:Nat}{f:Fr}{dst:Option Tmp}{ty:TypeId}{pos:String}{af:Array Edge}{gd:Option (Nat×Bool)}{x y:Operand}{T U:TypeId}{m n:Int}(hx:ev f x=some (vi m))(hy:ev f y=some (vi n)) :
  SU P N ⟨dst,.call ⟨.builtin .max,#[x,y],#[T,U]⟩,ty,pos,af,gd⟩ f (vi (max m n)):=fun a w ha=>by
 have h:=run_max_int2 (P:=P) (w:=w) #[T,U] ty .i64 .i64 m n;have h2:(if m<n then n else m)=max m n:=by split <;> omega
 rw[h2] at h;simp[execOp,resolve,invoke,builtin,ha.ev hx,ha.ev hy,h]
end Go.Proofs.YtcfkpajlakidbaaGreat
namespace Go.Sy
open Go
section
variable {α:Type}{k:Nat}{P:Program}{N:Nat}{E:World}{f:Fr}{g:PH}{s:Own}{dst:Option Tmp}{ty:TypeId}{pos:String}{af:Array Edge}{gd:Option (Nat×Bool)}
end
end Go.Sy
namespace Go.Sy
open Go
section
variable {P:Program}{N:Nat}{f:Fr}{dst:Option Tmp}{ty:TypeId}{pos:String}{af:Array Edge}{gd:Option (Nat×Bool)}
theorem SU.or {x y:Operand}{T U:TypeId}{k:IntKind}{m n:Int}(hx:ev f x=some (.int k m))(hy:ev f y=some (.int k n)) :
  SU P N ⟨dst,.binOp .or T x y U,ty,pos,af,gd⟩ f (.int k (k.wrap (BitVec.ofInt k.bits m ||| BitVec.ofInt k.bits n).toNat)):=fun a w ha=>by
 simp only[execOp,ha.ev hx,ha.ev hy,eqGuard,binOp,ne_eq,not_true_eq_false,if_false,Op.intBits]; rfl
end
end Go.Sy
