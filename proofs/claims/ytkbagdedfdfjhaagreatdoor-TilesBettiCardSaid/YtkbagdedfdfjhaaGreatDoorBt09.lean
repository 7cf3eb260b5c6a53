/- 9 -/
import Derived.Test.YtkbagdedfdfjhaaGreatDoorBt05
import Derived.Test.YtkbagdedfdfjhaaGreatDoorBt07
import Derived.Test.YtkbagdedfdfjhaaGreatDoorBt08
import Derived.SizedLaws
import Derived.Test.YtkbagdedfdfjhaaGreatDoorBt06
set_option linter.unusedSimpArgs false
set_option linter.unusedVariables false
namespace Go.Proofs.YtkbagdedfdfjhaaGreatDoor
open _root_.Go.Proofs.Tryz _root_.Go.Proofs.YtkbagdedfdfjhaaGreatDoor.Tryz
open Go Go.Sy Go.Pl Go.Proofs
def zr (L:List (Int×List ai)):List (Int×Int):=L.foldl (fun zl p=>p.2.foldl (fun zl r=>gC zl r.cell (p.1 * r.sign)) zl) []
def EC (L:List (Int×List ai)):List (Int×List Int):=L.zipIdx.foldl (fun ml p=>p.1.2.foldl (ed p.2) ml) []
def lm (L:List (Int×List ai)):Int :=
 if (zr L).any (fun p=>decide (p.2≠0)) then 24
 else if (EC L).any (fun p=>decide ((p.2.length:Int)≠2)) then 25
 else if ((i7 (cH (EC L))).length:Int)≠L.length then 25 else 0
def po (tl:List Cl)(c:Cl):List (Int×List ai):=c.sides.map fun x=>(x.sign,am tl x)
theorem B9 (tl:List Cl)(c:Cl):ck tl c=lm (po tl c):=by
 have h1:gG tl c.sides=zr (po tl c):=by
  unfold gG zr po;rw[List.foldl_map];rfl
 have h2:d4 tl c.sides=EC (po tl c):=by
  unfold d4 EC po;rw[List.zipIdx_map,List.foldl_map];rfl
 have h3:(po tl c).length=c.sides.length:=by simp[po]
 unfold ck lm;rw[h1,h2,h3]
def Cp (φ:Int→Int)(r:ai):ai:=⟨φ r.cell,r.sign⟩
def ws (φ:Int→Int)(L:List (Int×List ai)):List (Int×List ai):=L.map fun p=>(p.1,p.2.map (Cp φ))
def zD (L:List (Int×List ai)):List Int:=L.flatMap fun p=>p.2.map ai.cell
def kM {α:Type}(φ:Int→Int)(zl:List (Int×α)):List (Int×α):=zl.map fun p=>(φ p.1,p.2)
section
variable {φ:Int→Int}{K:Int→Prop}(hφ:∀ a b,K a→K b→φ a=φ b→a=b)
include hφ
theorem DY {zl:List (Int×Int)}{k:Int}(x:Int)(hz:∀ p∈zl,K p.1)(hk:K k):gC (kM φ zl) (φ k) x=kM φ (gC zl k x):=by
 induction zl with
 | nil=>rfl
 | cons p r ih =>
  obtain ⟨a,z⟩:=p;have ha:=hz (a,z) (by simp);simp only[kM,zf8,gC] at ih ⊢;by_cases h:k=a
  ·subst h; simp
  ·rw[zf4 h,zf4 fun e=>h (hφ k a hk ha e)];simp only[zf8];rw[ih fun p hp=>hz p (by simp[hp])]
theorem D2 {zl:List (Int×List Int)}{k:Int}(x:Int)(hz:∀ p∈zl,K p.1)(hk:K k):fw (kM φ zl) (φ k) x=kM φ (fw zl k x):=by
 induction zl with
 | nil=>rfl
 | cons p r ih =>
  obtain ⟨a,z⟩:=p;have ha:=hz (a,z) (by simp);simp only[kM,zf8,fw] at ih ⊢;by_cases h:k=a
  ·subst h; simp
  ·rw[zf4 h,zf4 fun e=>h (hφ k a hk ha e)];simp only[zf8];rw[ih fun p hp=>hz p (by simp[hp])]
omit hφ in
theorem D0 {zl:List (Int×Int)}{k x:Int}(hz:∀ p∈zl,K p.1)(hk:K k):∀ p∈gC zl k x,K p.1:=by
 induction zl with
 | nil=>intro p hp; simp[gC] at hp; subst hp; exact hk
 | cons q r ih =>
  obtain ⟨a,z⟩:=q;have ha:=hz (a,z) (by simp);intro p hp;simp only[gC] at hp;split at hp
  ·rcases ze5.1 hp with rfl | hp
   ·exact ha
   ·exact hz p (by simp[hp])
  ·rcases ze5.1 hp with rfl | hp
   ·exact ha
   ·exact ih (fun p hp=>hz p (by simp[hp])) p hp
omit hφ in
theorem D3 {zl:List (Int×List Int)}{k x:Int}(hz:∀ p∈zl,K p.1)(hk:K k):∀ p∈fw zl k x,K p.1:=by
 induction zl with
 | nil=>intro p hp; simp[fw] at hp; subst hp; exact hk
 | cons q r ih =>
  obtain ⟨a,z⟩:=q;have ha:=hz (a,z) (by simp);intro p hp;simp only[fw] at hp;split at hp
  ·rcases ze5.1 hp with rfl | hp
   ·exact ha
   ·exact hz p (by simp[hp])
  ·rcases ze5.1 hp with rfl | hp
   ·exact ha
   ·exact ih (fun p hp=>hz p (by simp[hp])) p hp
theorem sF (t:Int):∀ (l:List ai) (zl:List (Int×Int)),(∀ r∈l,K r.cell)→(∀ p∈zl,K p.1) →
  (l.map (Cp φ)).foldl (fun zl r=>gC zl r.cell (t * r.sign)) (kM φ zl)=kM φ (l.foldl (fun zl r=>gC zl r.cell (t * r.sign)) zl)∧∀ p∈l.foldl (fun zl r=>gC zl r.cell (t * r.sign)) zl,K p.1
 | [],zl,_,hz=>⟨rfl,hz⟩
 | r::l,zl,hl,hz=>by
  have hr:=hl r (by simp);have:=sF t l (gC zl r.cell (t * r.sign)) (fun q hq=>hl q (by simp[hq])) (D0 hz hr);simp only[zf8,zi3];rw[show (Cp φ r).cell=φ r.cell from rfl,show (Cp φ r).sign=r.sign from rfl,DY hφ _ hz hr];exact this
theorem xe (t:Int):∀ (l:List ai) (zl:List (Int×List Int)),(∀ r∈l,K r.cell)→(∀ p∈zl,K p.1) →
  (l.map (Cp φ)).foldl (ed t) (kM φ zl)=kM φ (l.foldl (ed t) zl)∧∀ p∈l.foldl (ed t) zl,K p.1
 | [],zl,_,hz=>⟨rfl,hz⟩
 | r::l,zl,hl,hz=>by
  have hr:=hl r (by simp);have:=xe t l (fw zl r.cell t) (fun q hq=>hl q (by simp[hq])) (D3 hz hr);simp only[zf8,zi3];rw[show ed t (kM φ zl) (Cp φ r)=kM φ (fw zl r.cell t) from D2 hφ _ hz hr];exact this
theorem wH:∀ (L:List (Int×List ai)) (zl:List (Int×Int)),(∀ k∈zD L,K k)→(∀ p∈zl,K p.1) →
  (ws φ L).foldl (fun zl p=>p.2.foldl (fun zl r=>gC zl r.cell (p.1 * r.sign)) zl) (kM φ zl)=kM φ (L.foldl (fun zl p=>p.2.foldl (fun zl r=>gC zl r.cell (p.1 * r.sign)) zl) zl)
 | [],_,_,_=>rfl
 | p::L,zl,hl,hz=>by
  obtain ⟨h1,h2⟩:=sF hφ p.1 p.2 zl (fun r hr=>hl _ (List.mem_flatMap.2 ⟨p,by simp,ze6.2 ⟨r,hr,rfl⟩⟩)) hz;simp only[ws,zf8,zi3] at h1 ⊢;rw[h1];exact wH L _ (fun k hk=>hl k (by simp only[zD,zg9,ze7]; exact .inr hk)) h2
theorem Aj:∀ (L:List (Int×List ai)) (i:Nat) (zl:List (Int×List Int)),(∀ k∈zD L,K k)→(∀ p∈zl,K p.1) →
  ((ws φ L).zipIdx i).foldl (fun ml p=>p.1.2.foldl (ed p.2) ml) (kM φ zl)=kM φ ((L.zipIdx i).foldl (fun ml p=>p.1.2.foldl (ed p.2) ml) zl)
 | [],_,_,_,_=>rfl
 | p::L,i,zl,hl,hz=>by
  obtain ⟨h1,h2⟩:=xe hφ i p.2 zl (fun r hr=>hl _ (List.mem_flatMap.2 ⟨p,by simp,ze6.2 ⟨r,hr,rfl⟩⟩)) hz;simp only[ws,zf8,List.zipIdx_cons,zi3] at h1 ⊢;rw[h1];exact Aj L (i+1) _ (fun k hk=>hl k (by simp only[zD,zg9,ze7]; exact .inr hk)) h2
end
theorem AL {α:Type}(φ:Int→Int)(zl:List (Int×α))(q:α→Bool):(kM φ zl).any (fun p=>q p.2)=zl.any (fun p=>q p.2):=by
 simp only[kM,List.any_map];rfl
theorem Dp (φ:Int→Int)(ml:List (Int×List Int)):cH (kM φ ml)=cH ml:=by
 simp only[cH,kM,List.foldl_map];rfl
theorem wk {φ:Int→Int}{L:List (Int×List ai)}(hφ:∀ a∈zD L,∀ b∈zD L,φ a=φ b→a=b):lm (ws φ L)=lm L:=by
 have h1:zr (ws φ L)=kM φ (zr L):=wH (K:=fun k=>k∈zD L) (fun a b ha hb=>hφ a ha b hb) L [] (fun _ h=>h) (by simp);have h2:EC (ws φ L)=kM φ (EC L):=Aj (K:=fun k=>k∈zD L) (fun a b ha hb=>hφ a ha b hb) L 0 [] (fun _ h=>h) (by simp);unfold lm;rw[h1,h2,AL φ _ fun z=>decide (z≠0),AL φ _ fun l:List Int=>decide ((l.length:Int)≠2),Dp];have h3:(ws φ L).length=L.length:=by simp[ws]
 rw[h3]
def code (k q:Nat):Int:=if q<k then ((q * 16+k:Nat):Int) else ((k * 16+(q+1):Nat):Int)
def Ge (n:Nat):List (Int×List ai):=(List.range n).reverse.map fun k:Nat=>(cu k,(List.range (n - 1)).reverse.map fun q:Nat=>⟨code k q,cu q⟩)
theorem Fj:∀ n,n<10→2<n→lm (Ge n)=0:=by decide +kernel
theorem hZ (b:Nat)(a:Int)(l:List Int):dU b (a::l)=(if b % 2=1 then [a] else [])++dU (b / 2) l:=by
 unfold dU;have hz:∀ (l:List Int) (i:Nat),((l.zipIdx (i+1)).filter fun p=>b / 2 ^ p.2 % 2 == 1).map (·.1)=((l.zipIdx i).filter fun p=>b / 2 / 2 ^ p.2 % 2 == 1).map (·.1):=by
  intro l;induction l with
  | nil=>intro i; rfl
  | cons x r ih =>
   intro i;have hp:b / 2 ^ (i+1)=b / 2 / 2 ^ i:=by rw[Nat.pow_succ,Nat.mul_comm,Nat.div_div_eq_div_mul]
   simp only[List.zipIdx_cons,zi2,hp];have:=ih (i+1);split
   ·simp only[zf8,this]
   ·exact this
 simp only[List.zipIdx_cons,zi2,Nat.pow_zero,Nat.div_one];by_cases h:b % 2=1
 ·simp only[h,if_true,beq_self_eq_true,zf8];rw[hz l 0];rfl
 ·have h2:(b % 2 == 1)=false:=by simpa using h
  simp only[h,h2,if_false,Bool.false_eq_true];rw[hz l 0];rfl
theorem Bh (l:List Int):∀ b,(dU b l).Sublist l:=by
 induction l with
 | nil=>intro b; exact .slnil
 | cons a r ih =>
  intro b;rw[hZ];split
  ·exact (ih _).cons_cons a
  ·exact (ih _).cons a
theorem C2 (l:List Int):∀ b,b≠0→b<2 ^ l.length→dU b l≠[]:=by
 induction l with
 | nil=>intro b h0 h; simp at h; exact absurd h h0
 | cons a r ih =>
  intro b h0 h;rw[hZ];split
  ·simp
  ·rename_i h1;rw[ze3,Nat.pow_succ] at h;simpa using ih (b / 2) oM oM
theorem vz {x l:List Int}(h:x.Sublist l):∃ b,b<2 ^ l.length∧dU b l=x:=by
 induction h with
 | slnil=>exact⟨0,by simp,rfl⟩
 | cons a _ ih =>
  obtain ⟨b,hb,e⟩:=ih;refine⟨2 * b,by rw[ze3,Nat.pow_succ]; omega,?_⟩;rw[hZ,zf4 oM,show 2 * b / 2=b by omega,e];rfl
 | cons_cons a _ ih =>
  obtain ⟨b,hb,e⟩:=ih;refine⟨2 * b+1,by rw[ze3,Nat.pow_succ]; omega,?_⟩;rw[hZ,zf5 oM,show (2 * b+1) / 2=b by omega,e];rfl
theorem gv (t x:List Int):x∈bu t↔x.Sublist t∧x≠[]:=by
 unfold bu;constructor
 ·intro h;obtain ⟨i,hi,rfl⟩:=ze6.1 h;have:=List.mem_range.1 hi;exact⟨Bh _ _,C2 _ _ oM oM⟩
 ·rintro ⟨h,hne⟩;obtain ⟨b,hb,rfl⟩:=vz h;have h0:b≠0:=fun e=>by
   subst e;apply hne;have:∀ l:List Int,dU 0 l=[]:=by
    intro l;induction l with
    | nil=>rfl
    | cons a r ih=>rw[hZ]; simpa using ih
   exact this t
  exact ze6.2 ⟨b - 1,List.mem_range.2 oM,by rw[show b - 1+1=b by omega]⟩
structure gD (all:List (List Int)):Prop where
 strict:dZ all
 form:∀ s∈all,s≠[]∧df s∧s.length≤9
 faces:∀ s∈all,2≤s.length→∀ k,k<s.length→s.eraseIdx k∈all
theorem gD.nil:gD []:=⟨List.Pairwise.nil,by simp,by simp⟩
theorem gD.add {all:List (List Int)}{t:List Int}(h:gD all)(ht:df t)(hl:t.length≤9):gD (dK all t):=by
 refine⟨jY all t,fun s hs=>?_,fun s hs h2 k hk=>?_⟩
 ·rcases (fZ all t s).1 hs with h1 | h1
  ·exact h.form s h1
  ·obtain ⟨h2,h3⟩:=(gv t s).1 h1;exact⟨h3,ht.sublist h2,zk2 h2.length_le hl⟩
 ·refine (fZ all t _).2 ?_
  rcases (fZ all t s).1 hs with h1 | h1
  ·exact .inl (h.faces s h1 h2 k hk)
  ·refine .inr ((gv t _).2 ⟨(List.eraseIdx_sublist s k).trans ((gv t s).1 h1).1,fun e=>?_⟩);have:=zd6 List.length e;rw[List.length_eraseIdx] at this;simp[hk] at this;omega
theorem gw:∀ (ls acc:List (List Int)) {all:List (List Int)},aB acc ls=some all→gD acc→acc.length≤4000→gD all∧all.length≤4000
 | [],acc,all,h,hg,hl=>by cases h; exact⟨hg,hl⟩
 | s::r,acc,all,h,hg,hl=>by
  unfold aB at h;split at h
  ·exact gw r acc h hg hl
  ·rename_i hb;split at h
   ·cases h
   ·rename_i hlen;refine gw r _ h (hg.add (j7 s) ?_) oM;cases hc:bI s with
    | nil=>simp
    | cons a q =>
     rw[hc] at hb;simp[i8] at hb;simp;omega
section
variable {all:List (List Int)}(hg:gD all)
include hg
theorem gD.get_lb {t:List Int}(ht:t∈all):all[lbL all t]?=some t:=by
 obtain ⟨h1,h2⟩:=nR t hg.strict.srt;have hs:dZ (all.take (lbL all t)++all.drop (lbL all t)):=by rw[zi6]; exact hg.strict
 have hd:=(List.pairwise_append.1 hs).2.1;have hm:t∈all.drop (lbL all t):=by
  have:t∈all.take (lbL all t)++all.drop (lbL all t):=by rw[zi6]; exact ht
  rcases ze7.1 this with h | h
  ·have:=h1 t h;rw[bQ] at this;exact absurd this dC
  ·exact h
 have e:all[lbL all t]?=(all.drop (lbL all t))[0]?:=by simp
 rw[e];cases hc:all.drop (lbL all t) with
 | nil=>rw[hc] at hm; simp at hm
 | cons y r =>
  rw[hc] at hm hd h2
  rcases ze5.1 hm with rfl | hm
  ·rfl
  ·exact absurd ((zj5.1 hd).1 t hm) (h2 y (by simp))
theorem gD.lb_get {k:Nat}(hk:k<all.length):lbL all all[k]=k:=by
 have h1:=hg.get_lb (gM hk);obtain ⟨h2,h3⟩:=ze9.1 h1;have hself:¬ aj all[k] all[k]<0:=by rw[bQ]; decide
 rcases Nat.lt_trichotomy (lbL all all[k]) k with h | h | h
 ·have:=zc6.1 hg.strict _ _ h2 hk h;rw[h3] at this;exact absurd this hself
 ·exact h
 ·have:=zc6.1 hg.strict _ _ hk h2 h;rw[h3] at this;exact absurd this hself
end
def ixC (all:List (List Int))(t:List Int):Int:=((lbL all t:Nat):Int)+1
theorem gD.inj {all:List (List Int)}(hg:gD all){t u:List Int}(ht:t∈all)(hu:u∈all)(h:ixC all t=ixC all u):t=u:=by
 have h1:=hg.get_lb ht;have h2:=hg.get_lb hu;have:lbL all t=lbL all u:=by unfold ixC at h; omega
 rw[this,h2] at h1;injection h1 with h1
 exact h1.symm
theorem gD.lt {all:List (List Int)}(hg:gD all){t u:List Int}(ht:t∈all)(hu:u∈all)(h:aj t u<0):ixC all t<ixC all u:=by
 obtain ⟨i1,e1⟩:=ze9.1 (hg.get_lb ht);obtain ⟨i2,e2⟩:=ze9.1 (hg.get_lb hu);unfold ixC
 rcases Nat.lt_trichotomy (lbL all t) (lbL all u) with h1 | h1 | h1
 ·omega
 ·have:t=u:=hg.inj ht hu (by unfold ixC; omega);subst this;rw[bQ] at h;exact absurd h dC
 ·have:=zc6.1 hg.strict _ _ i2 i1 h1;rw[e1,e2] at this;exact absurd h (gK this)
def eK (all:List (List Int))(s:List Int):List ai:=if s.length≤1 then [] else (List.range s.length).reverse.map fun k:Nat=>⟨ixC all (s.eraseIdx k),cu k⟩
def iw (all:List (List Int))(s:List Int):Cl:=⟨ixC all s,(s.length:Int) - 1,eK all s⟩
theorem xC {s:List Int}(hs:df s):∀ {i j:Nat},i<j→j<s.length→aj (s.eraseIdx j) (s.eraseIdx i)<0:=by
 induction s with
 | nil=>intro i j _ h; simp at h
 | cons a r ih =>
  intro i j hij hj;obtain ⟨h1,h2⟩:=zj5.1 hs;cases j with
  | zero=>omega
  | succ j =>
   simp only[ze3] at hj;cases i with
   | zero =>
    cases r with
    | nil=>simp at hj
    | cons b q =>
     have hab:=h1 b (by simp);have hl:((a::b::q).eraseIdx (j+1)).length=((a::b::q).eraseIdx 0).length:=by
      simp[List.length_eraseIdx] at hj ⊢;omega
     rw[fJ hl];simp only[List.eraseIdx_cons_succ,List.eraseIdx_cons_zero,ge];have:ma a b = -1:=by unfold ma; rw[zf5 hab]
     simp[this]
   | succ i =>
    have h3:=ih h2 (i:=i) (j:=j) oM oM;have hl:(r.eraseIdx j).length=(r.eraseIdx i).length:=by
     rw[List.length_eraseIdx,List.length_eraseIdx,zf5 oM,zf5 oM]
    have hl2:((a::r).eraseIdx (j+1)).length=((a::r).eraseIdx (i+1)).length:=by simp[hl]
    rw[fJ hl] at h3;rw[fJ hl2];simp only[List.eraseIdx_cons_succ,ge];have:ma a a=0:=by unfold ma; rw[zf4 oM,zf4 oM]
    simpa [this] using h3
theorem m3 {A:List Cl}(h:(A.map Cl.id).Nodup){x:Cl}(hx:x∈A):aM A x.id=some x:=by
 induction A with
 | nil=>simp at hx
 | cons c t ih =>
  simp only[zf8,zj4] at h;unfold aM
  rcases ze5.1 hx with rfl | hx
  ·simp
  ·have hne:¬ c.id=x.id:=fun e=>h.1 (by rw[e]; exact ze6.2 ⟨x,hx,I⟩);rw[zi1];simp only[hne,decide_false];exact ih h.2 hx
theorem yN (c:Cl):ay (ay c)=ay c:=by
 unfold ay;rw[← dJ (dx c.sides) (aI.refl _)]
theorem fY (l:List Cl):aa (aa l)=aa l:=by
 have h1:sortBy Cl.id (aa l)=aa l:=(dJ (ia l) (aI.refl _)).symm;show (sortBy Cl.id (aa l)).map ay=aa l;rw[h1];unfold aa;rw[zh9];exact zc5 fun c _=>yN c
theorem CG {α:Type}{key:α→Int}{l:List α}(h:l.Pairwise fun a b=>key b<key a):sortBy key l=l.reverse:=by
 refine (dJ ?_ ⟨by simp,fun c=>?_⟩).symm
 ·unfold Srt;rw[List.pairwise_reverse];exact h.imp fun h=>by omega
 ·rw[List.filter_reverse];have:∀ m:List α,m.Pairwise (fun a b=>key b<key a)→(∀ a∈m,(key a == c)=true)→m.reverse=m:=by
   intro m hm hc
   match m,hm,hc with
   | [],_,_=>rfl
   | [_],_,_=>rfl
   | a::b::r,hm,hc =>
    have h1:=(zj5.1 hm).1 b (by simp);have h2:=hc a (by simp);have h3:=hc b (by simp);simp at h2 h3;omega
  exact this _ (h.sublist List.filter_sublist) fun a ha=>(zg8.1 ha).2
section
variable {all:List (List Int)}(hg:gD all)
include hg
theorem gD.face {s:List Int}(hs:s∈all){k:Nat}(hk:k<s.length)(h2:2≤s.length):s.eraseIdx k∈all∧(s.eraseIdx k).length=s.length - 1 :=
 ⟨hg.faces s hs h2 k hk,by rw[List.length_eraseIdx,zf5 hk]⟩
theorem gD.sides {s:List Int}(hs:s∈all):sortBy ai.cell (aN all s s.length)=eK all s:=by
 have hne:=(hg.form s hs).1;have hst:=(hg.form s hs).2.1;by_cases h1:s.length≤1
 ·have h0:s.length=1:=by have:=List.length_pos_iff.2 hne; omega
  unfold eK;rw[zf5 h1,h0];have:eJ all s 0=[]:=by
   unfold eJ;have h3:(s.eraseIdx 0).length=0:=by rw[List.length_eraseIdx,zf5 oM]; omega
   rw[zf4 oM]
  simp[aN,List.range_succ,this,sortBy]
 ·have h2:2≤s.length:=oM;have e:aN all s s.length=(List.range s.length).map fun k:Nat=>(⟨ixC all (s.eraseIdx k),cu k⟩:ai):=by
   unfold aN;rw[List.flatMap_def];have:(List.range s.length).map (eJ all s)=(List.range s.length).map fun k:Nat=>[(⟨ixC all (s.eraseIdx k),cu k⟩:ai)]:=zc5 fun k hk=>by
    have hk:=List.mem_range.1 hk;unfold eJ;rw[(hg.face hs hk h2).2,zf5 oM];rfl
   rw[this];generalize List.range s.length=R;induction R with
   | nil=>rfl
   | cons x r ih=>simp only[zf8,List.flatten_cons,ih]; rfl
  unfold eK;rw[zf4 h1,e,List.map_reverse];refine CG ?_;rw[zj6];refine List.Pairwise.imp_of_mem ?_ (List.pairwise_lt_range (n:=s.length));intro i j hi hj hij;have hi:=List.mem_range.1 hi;have hj:=List.mem_range.1 hj;exact hg.lt (hg.face hs hj h2).1 (hg.face hs hi h2).1 (xC hst hij hj)
theorem gD.cells:aa (aU all)=all.map (iw all):=by
 rw[qA];apply List.ext_getElem?;intro k;simp only[zh4];by_cases hk:k<all.length
 ·rw[iX hk,gE hk];simp only[Option.map_some,zg2];unfold ay mO iw;simp only[hg.sides (gM hk),ixC,hg.lb_get hk]
 ·rw[List.getElem?_eq_none (by rw[bq]; omega),List.getElem?_eq_none oM];rfl
theorem gD.ids:((all.map (iw all)).map Cl.id).Pairwise (· < ·):=by
 rw[zh9,zj6];refine List.Pairwise.imp_of_mem ?_ hg.strict;intro a b ha hb h;exact hg.lt ha hb h
theorem gD.find {s:List Int}(hs:s∈all):aM (all.map (iw all)) (ixC all s)=some (iw all s) :=
 m3 (x:=iw all s) (hg.ids.imp fun h=>by omega) (ze6.2 ⟨s,hs,rfl⟩)
end
theorem A5 (k:Nat):cu k=1∨cu k = -1:=by unfold cu; omega
theorem qu {all:List (List Int)}{s:List Int}(h:2≤s.length){i:Nat}(hi:i<s.length):(eK all s)[i]?=some ⟨ixC all (s.eraseIdx (s.length - 1 - i)),cu ((s.length - 1 - i:Nat):Int)⟩:=by
 unfold eK;rw[zf4 oM,zh4,List.getElem?_reverse (by simpa using hi)];simp only[zh8];rw[List.getElem?_range oM];rfl
theorem r5 {all:List (List Int)}{s:List Int}:(eK all s).length=if s.length≤1 then 0 else s.length:=by
 unfold eK;split <;> simp
section
variable {all:List (List Int)}(hg:gD all)
include hg
theorem gD.formOk {s:List Int}(hs:s∈all):bV (all.map (iw all)) (iw all s)=0:=by
 obtain ⟨hne,hst,h9⟩:=hg.form s hs;have hp:=List.length_pos_iff.2 hne;have hlen:(iw all s).sides.length=if s.length≤1 then 0 else s.length:=r5
 have hdim:(iw all s).dim=(s.length:Int) - 1:=rfl;have h1:eL (iw all s)=false:=by unfold eL; rw[hdim]; simp; omega
 have h2:au (iw all s)=false:=by
  unfold au;rw[hdim,hlen];split
  ·simp; omega
  ·simp; omega
 have h3:(List.range (iw all s).sides.length).any (iJ (all.map (iw all)) (iw all s))=false:=by
  rw[zj7];intro i hi;have hi:=List.mem_range.1 hi;rw[hlen] at hi;split at hi
  ·omega
  ·rename_i hl;have h2:2≤s.length:=oM;have hgi:=qu (all:=all) h2 hi;have hf:=hg.face hs (k:=s.length - 1 - i) oM h2;unfold iJ;rw[show (iw all s).sides[i]?=_ from hgi];show ¬ bL _ _ i ⟨ixC all (s.eraseIdx (s.length - 1 - i)),_⟩=true;unfold bL;dsimp only;rw[hg.find hf.1];have hd:(iw all (s.eraseIdx (s.length - 1 - i))).dim=(iw all s).dim - 1:=by
    show ((s.eraseIdx (s.length - 1 - i)).length:Int) - 1=(s.length:Int) - 1 - 1;rw[hf.2];omega
   simp only[Option.isSome_some,Bool.not_true,Bool.false_or,Option.getD_some,hd,ne_eq,not_true_eq_false,decide_false];by_cases hi0:i>0
   ·have hgp:=qu (all:=all) h2 (i:=i - 1) oM;rw[show (iw all s).sides[i - 1]?=_ from hgp];have hf2:=hg.face hs (k:=s.length - 1 - (i - 1)) oM h2;have:=hg.lt hf2.1 hf.1 (xC hst oM oM);simp;omega
   ·simp[hi0]
 have h4:(iw all s).sides.any bw=false:=by
  rw[zj7];intro x hx;show ¬ bw x=true;have hx:x∈eK all s:=hx;unfold eK at hx;split at hx
  ·simp at hx
  ·obtain ⟨k,_,rfl⟩:=ze6.1 hx
   rcases A5 k with h | h <;> simp[bw,h]
 have h5:(decide ((iw all s).dim=1)&&decide (ln (iw all s).sides≠0))=false:=by
  by_cases hd:(iw all s).dim=1
  ·rw[hdim] at hd;have hl2:s.length=2:=oM;have:ln (iw all s).sides=0:=by
    show ln (eK all s)=0;unfold eK;rw[zf4 oM,hl2];simp[List.range_succ,ln,cu]
   rw[this];simp
  ·simp[hd]
 unfold bV;rw[h1,h2,h3,h4,h5];rfl
end
theorem y4 (s:List Int):∀ {k q:Nat},k≤q→(s.eraseIdx k).eraseIdx q=(s.eraseIdx (q+1)).eraseIdx k:=by
 induction s with
 | nil=>intro k q _; rfl
 | cons a r ih =>
  intro k q h;cases k with
  | zero=>simp
  | succ k =>
   cases q with
   | zero=>omega
   | succ q =>
    simp only[List.eraseIdx_cons_succ];rw[ih oM]
theorem qi {s:List Int}(hs:s.Nodup){a b i:Nat}(hab:a<b)(hb:b<s.length)(hi:i<s.length):s[i]∈(s.eraseIdx b).eraseIdx a↔i≠a∧i≠b:=by
 have hinj:∀ {j k:Nat} (hj:j<s.length) (hk:k<s.length),s[j]=s[k]→j=k:=fun {j k} hj hk e=>by
  rcases Nat.lt_trichotomy j k with h | h | h
  ·exact absurd e (zc6.1 hs j k hj hk h)
  ·exact h
  ·exact absurd e.symm (zc6.1 hs k j hk hj h)
 rw[List.mem_eraseIdx_iff_getElem];constructor
 ·rintro ⟨j,hj1,hj2,e⟩;have hj1':=hj1;rw[List.length_eraseIdx,zf5 hb] at hj1';rw[List.getElem_eraseIdx] at e;split at e
  ·have:=hinj _ _ e;omega
  ·have:=hinj _ _ e;omega
 ·rintro ⟨h1,h2⟩
  rcases Nat.lt_or_ge i b with h | h
  ·refine⟨i,by rw[List.length_eraseIdx,zf5 hb]; omega,h1,?_⟩;rw[List.getElem_eraseIdx,dif_pos h]
  ·refine⟨i - 1,by rw[List.length_eraseIdx,zf5 hb]; omega,oM,?_⟩;rw[List.getElem_eraseIdx,dif_neg oM];congr 1;omega
theorem y5 {s:List Int}(hs:s.Nodup){a b c d:Nat}(hab:a<b)(hb:b<s.length)(hcd:c<d)(hd:d<s.length)(h:(s.eraseIdx b).eraseIdx a=(s.eraseIdx d).eraseIdx c):a=c∧b=d:=by
 have key:∀ i,i<s.length→((i≠a∧i≠b)↔(i≠c∧i≠d)):=fun i hi=>by
  rw[← qi hs hab hb hi,← qi hs hcd hd hi,h]
 have ha:=key a oM;have hb':=key b hb;have hc:=key c oM;have hd':=key d hd;omega
def GM (all:List (List Int))(s:List Int)(c:Int):Int:=ixC all ((s.eraseIdx (c % 16).toNat).eraseIdx (c / 16).toNat)
theorem AB {n k q:Nat}(hk:k<n)(hq:q<n - 1):∃ a b:Nat,a<b∧b<n∧code k q=((a * 16+b:Nat):Int)∧((q<k∧a=q∧b=k)∨(k≤q∧a=k∧b=q+1)):=by
 unfold code;by_cases h:q<k
 ·rw[zf5 h]; exact⟨q,k,h,hk,I,.inl ⟨h,I,I⟩⟩
 ·rw[zf4 h]; exact⟨k,q+1,oM,oM,I,.inr ⟨oM,I,I⟩⟩
theorem jt {a b:Nat}(h:b<16):((((a * 16+b:Nat):Int) % 16).toNat=b)∧((((a * 16+b:Nat):Int) / 16).toNat=a):=oM
section
variable {all:List (List Int)}(hg:gD all)
include hg
theorem gD.aroundOk {s:List Int}(hs:s∈all)(h3:2<s.length):ck (all.map (iw all)) (iw all s)=0:=by
 obtain ⟨hne,hst,h9⟩:=hg.form s hs;have hnd:s.Nodup:=hst.imp fun h=>by omega
 have hE:∀ a b,a<b→b<s.length→(s.eraseIdx b).eraseIdx a∈all:=fun a b hab hb=>by
  have h1:=hg.face hs (k:=b) hb oM;exact (hg.face h1.1 (k:=a) (by rw[h1.2]; omega) (by rw[h1.2]; omega)).1
 have hlook:po (all.map (iw all)) (iw all s)=ws (GM all s) (Ge s.length):=by
  unfold po ws Ge;show (eK all s).map _=_;unfold eK;rw[zf4 oM,zh9,zh9];refine zc5 fun k hk=>?_;have hk:k<s.length:=by simpa using hk
  have hf:=hg.face hs hk oM;simp only[Function.comp_def];congr 1;unfold am;rw[hg.find hf.1];show eK all (s.eraseIdx k)=_;unfold eK;rw[hf.2,zf4 oM,zh9];refine zc5 fun q hq=>?_;have hq:q<s.length - 1:=by simpa using hq
  obtain ⟨a,b,hab,hb,hc,hcase⟩:=AB hk hq;simp only[Function.comp_def,Cp];congr 1;unfold GM;rw[hc,(jt (a:=a) (b:=b) oM).1,(jt (a:=a) (b:=b) oM).2]
  rcases hcase with ⟨_,rfl,rfl⟩ | ⟨h,rfl,rfl⟩
  ·rfl
  ·rw[y4 s h]
 rw[B9,hlook,wk,Fj _ oM h3];have hkey:∀ x∈zD (Ge s.length),∃ a b:Nat,a<b∧b<s.length∧x=((a * 16+b:Nat):Int):=by
  intro x hx;obtain ⟨p,hp,hx⟩:=List.mem_flatMap.1 hx;obtain ⟨k,hk,rfl⟩:=ze6.1 hp;obtain ⟨r,hr,rfl⟩:=ze6.1 hx;obtain ⟨q,hq,rfl⟩:=ze6.1 hr;obtain ⟨a,b,hab,hb,hc,_⟩:=AB (n:=s.length) (k:=k) (q:=q) (by simpa using hk) (by simpa using hq);exact⟨a,b,hab,hb,hc⟩
 intro x hx y hy h;obtain ⟨a,b,hab,hb,rfl⟩:=hkey x hx;obtain ⟨c,d,hcd,hd,rfl⟩:=hkey y hy;unfold GM at h;rw[(jt (a:=a) (b:=b) oM).1,(jt (a:=a) (b:=b) oM).2,(jt (a:=c) (b:=d) oM).1,(jt (a:=c) (b:=d) oM).2] at h;obtain ⟨rfl,rfl⟩:=y5 hnd hab hb hcd hd (hg.inj (hE a b hab hb) (hE c d hcd hd) h);rfl
end
theorem tw {tl:List Cl}:∀ {l:List Cl} {n:Int},(∀ x∈l,n<x.id)→l.Pairwise (fun a b=>a.id<b.id)→(∀ x∈l,bV tl x=0)→gB tl l n=none
 | [],_,_,_,_=>rfl
 | x::r,n,h1,h2,h3=>by
  have hx:=h1 x (by simp);obtain ⟨h4,h5⟩:=zj5.1 h2;unfold gB;rw[zf4 oM,zf4 (by rw[h3 x (by simp)]; simp)];exact tw h4 h5 fun y hy=>h3 y (by simp[hy])
theorem tu {tl:List Cl}:∀ {l:List Cl},(∀ x∈l,x.dim>1→ck tl x=0)→nj tl l=none
 | [],_=>rfl
 | x::r,h=>by
  unfold nj;rw[zf4 fun ⟨h1,h2⟩=>h2 (h x (by simp) h1)];exact tu fun y hy=>h y (by simp[hy])
theorem xG {l:List Cl}(h0:l.length≤4000)(h1:∀ x∈aa l,0<x.id)(h2:(aa l).Pairwise fun a b=>a.id<b.id)(h3:∀ x∈aa l,bV (aa l) x=0)(h4:∀ x∈aa l,x.dim>1→ck (aa l) x=0):a6 l=(0,0):=by
 unfold a6;rw[zf4 oM,bh h2,tw h1 h2 h3,tu h4];rfl
theorem oB (ls:List (List Int)):a6 (bC ls)=(0,0):=by
 unfold bC;cases h:aB [] ls with
 | none=>rfl
 | some all =>
  obtain ⟨hg,hl⟩:=gw ls [] h gD.nil (by simp);dsimp only;have hc:aa (aa (aU all))=all.map (iw all):=by rw[fY,hg.cells]
  have hi:=hg.ids;rw[zj6] at hi;refine xG (by rw[hg.cells]; simpa using hl) ?_ ?_ ?_ ?_ <;> rw[hc]
  ·intro x hx;obtain ⟨s,_,rfl⟩:=ze6.1 hx;show 0<ixC all s;unfold ixC;omega
  ·exact hi
  ·intro x hx;obtain ⟨s,hs,rfl⟩:=ze6.1 hx;exact hg.formOk hs
  ·intro x hx hd;obtain ⟨s,hs,rfl⟩:=ze6.1 hx;refine hg.aroundOk hs ?_;have:(s.length:Int) - 1>1:=hd;omega
open Go.ChangeShapes Go.WideShapes Go.ChangeAt Go.RowKit
set_option maxRecDepth 100000
section
variable {H:Type}{enc:TypeId×Value→H}{W:World}{base:Nat}{spare:Nat→Bool}{hd:Bool}
end
inductive Cn (E:Int→Int→Prop):Int→Int→Prop
 | refl (a:Int):Cn E a a
 | step {a b c:Int} (h:E a b∨E b a) (r:Cn E b c):Cn E a c
theorem Cn.trans {E:Int→Int→Prop}{a b c:Int}(h:Cn E a b)(k:Cn E b c):Cn E a c:=by
 induction h with
 | refl _=>exact k
 | step h _ ih=>exact .step h (ih k)
theorem Cn.one {E:Int→Int→Prop}{a b:Int}(h:E a b):Cn E a b:=.step (.inl h) (.refl b)
theorem Cn.symm {E:Int→Int→Prop}{a b:Int}(h:Cn E a b):Cn E b a:=by
 induction h with
 | refl _=>exact .refl _
 | step h _ ih=>exact ih.trans (.step h.symm (.refl _))
theorem Cn.mono {E E':Int→Int→Prop}(h:∀ a b,E a b→Cn E' a b){a b:Int}(hc:Cn E a b):Cn E' a b:=by
 induction hc with
 | refl _=>exact .refl _
 | step e _ ih =>
  rcases e with e | e
  ·exact (h _ _ e).trans ih
  ·exact (h _ _ e).symm.trans ih
theorem Cn.iso {E:Int→Int→Prop}{a b:Int}(h:∀ b,¬ E a b∧¬ E b a)(hc:Cn E a b):a=b:=by
 cases hc with
 | refl _=>rfl
 | step e _ =>
  rcases e with e | e
  ·exact absurd e (h _).1
  ·exact absurd e (h _).2
theorem Cn.add {E E':Int→Int→Prop}{x y:Int}(h:∀ a b,E' a b↔E a b∨(a=x∧b=y))(a b:Int):Cn E' a b↔Cn E a b∨(Cn E a x∧Cn E y b)∨(Cn E a y∧Cn E x b):=by
 have hxy:Cn E' x y:=.one ((h x y).2 (.inr ⟨rfl,rfl⟩));have hm:∀ {a b:Int},Cn E a b→Cn E' a b:=fun hc=>hc.mono fun a b e=>.one ((h a b).2 (.inl e));constructor
 ·intro hc;induction hc with
  | refl _=>exact .inl (.refl _)
  | step e _ ih =>
   have key:∀ {p q r:Int},Cn E p q→(Cn E q r∨(Cn E q x∧Cn E y r)∨(Cn E q y∧Cn E x r))→Cn E p r∨(Cn E p x∧Cn E y r)∨(Cn E p y∧Cn E x r):=by
    rintro p q r h1 (h2 | ⟨h2,h3⟩ | ⟨h2,h3⟩)
    ·exact .inl (h1.trans h2)
    ·exact .inr (.inl ⟨h1.trans h2,h3⟩)
    ·exact .inr (.inr ⟨h1.trans h2,h3⟩)
   rcases e with e | e
   ·rcases (h _ _).1 e with e | ⟨rfl,rfl⟩
    ·exact key (.one e) ih
    ·rcases ih with h2 | ⟨_,h3⟩ | ⟨_,h3⟩
     ·exact .inr (.inl ⟨.refl _,h2⟩)
     ·exact .inr (.inl ⟨.refl _,h3⟩)
     ·exact .inl h3
   ·rcases (h _ _).1 e with e | ⟨rfl,rfl⟩
    ·exact key (Cn.one e).symm ih
    ·rcases ih with h2 | ⟨_,h3⟩ | ⟨_,h3⟩
     ·exact .inr (.inr ⟨.refl _,h2⟩)
     ·exact .inl h3
     ·exact .inr (.inr ⟨.refl _,h3⟩)
 ·rintro (h1 | ⟨h1,h2⟩ | ⟨h1,h2⟩)
  ·exact hm h1
  ·exact (hm h1).trans (hxy.trans (hm h2))
  ·exact (hm h1).trans (hxy.symm.trans (hm h2))
def dF (ml:List (Int×List Int))(a b:Int):Prop:=∃ p∈ml,p.2.head?=some a∧b∈p.2
def RZ (e:En)(z:Int×Int):Prop:=e.id=z.1∧e.sum=z.2
def RM (e:En)(p:Int×List Int):Prop:=e.id=p.1∧e.many=p.2.length∧p.2.head?=some (e.fst:Int)
theorem rJ {x:Int}(h : -9223372036854775808≤x∧x<9223372036854775808):wr x=x:=zk4 _ oM
theorem Eu {i:Nat}{c p:Int}:∀ {es:List En} {zl:List (Int×Int)},aG RZ es zl→(∀ e∈es,wr (e.sum+p)=e.sum+p)→wr (0+p)=p→aG RZ (kB i c p es) (gC zl c p)
 | [],[],_,_,hp=>⟨⟨rfl,hp⟩,trivial⟩
 | e::es,(a,z)::zl,h,hb,hp=>by
  obtain ⟨⟨h1,h2⟩,h3⟩:=h;have h1:e.id=a:=h1;have h2:e.sum=z:=h2;simp only[kB,gC];by_cases hc:e.id=c
  ·rw[zf5 hc,zf5 (by rw[← h1,hc])];exact⟨⟨h1,by show wr (e.sum+p)=z+p; rw[hb e (by simp),h2]⟩,h3⟩
  ·rw[zf4 hc,zf4 (by rw[← h1]; exact fun e=>hc e.symm)];exact⟨⟨h1,h2⟩,Eu h3 (fun x hx=>hb x (by simp[hx])) hp⟩
 | [],_::_,h,_,_=>h.elim
 | _::_,[],h,_,_=>h.elim
theorem Ev {i:Nat}{c p:Int}:∀ {es:List En} {ml:List (Int×List Int)},aG RM es ml→(∀ e∈es,wr (e.many+1)=e.many+1)→aG RM (kB i c p es) (fw ml c i) ∧
  ∀ a b,dF (fw ml c i) a b↔dF ml a b∨(a=jm i c es∧b=i)
 | [],[],_,_=>by
  refine⟨⟨⟨rfl,by rfl,rfl⟩,trivial⟩,fun a b=>?_⟩;constructor
  ·rintro ⟨q,hq,h1,h2⟩;simp[fw] at hq;subst hq;simp at h1 h2;exact .inr ⟨h1.symm,h2⟩
  ·rintro (⟨q,hq,_⟩ | ⟨rfl,rfl⟩)
   ·simp at hq
   ·exact⟨(c,[(i:Int)]),by simp[fw],I,by simp⟩
 | e::es,(k,l)::ml,h,hb=>by
  obtain ⟨⟨h1,h2,h4⟩,h3⟩:=h;have h1:e.id=k:=h1;have h2:e.many=l.length:=h2;have h4:l.head?=some (e.fst:Int):=h4;simp only[kB,fw,jm];by_cases hc:e.id=c
  ·rw[zf5 hc,zf5 (by rw[← h1,hc]),zf5 hc];have hh:(l++[(i:Int)]).head?=some (e.fst:Int):=by
    cases l with
    | nil=>simp at h4
    | cons x r=>simpa using h4
   refine⟨⟨⟨h1,by show wr (e.many+1)=_; rw[hb e (by simp),h2]; simp,hh⟩,h3⟩,fun a b=>?_⟩;constructor
   ·rintro ⟨q,hq,h5,h6⟩
    rcases ze5.1 hq with rfl | hq
    ·dsimp only at h5 h6;rw[hh] at h5
     rcases ze7.1 h6 with h6 | h6
     ·exact .inl ⟨(k,l),by simp,by rw[h4,h5],h6⟩
     ·simp at h6;injection h5 with h5
      exact .inr ⟨h5.symm,h6⟩
    ·exact .inl ⟨q,by simp[hq],h5,h6⟩
   ·rintro (⟨q,hq,h5,h6⟩ | ⟨rfl,rfl⟩)
    ·rcases ze5.1 hq with rfl | hq
     ·exact⟨(k,l++[(i:Int)]),by simp,by rw[hh,← h4,h5],by simp[h6]⟩
     ·exact⟨q,by simp[hq],h5,h6⟩
    ·exact⟨(k,l++[(i:Int)]),by simp,hh,by simp⟩
  ·rw[zf4 hc,zf4 (by rw[← h1]; exact fun e=>hc e.symm),zf4 hc];obtain ⟨i1,i2⟩:=Ev (i:=i) (c:=c) (p:=p) h3 fun x hx=>hb x (by simp[hx]);refine⟨⟨⟨h1,h2,h4⟩,i1⟩,fun a b=>?_⟩;have e1:∀ L,dF ((k,l)::L) a b↔(l.head?=some a∧b∈l)∨dF L a b:=fun L=>by
    unfold dF;simp
   rw[e1,e1,i2,or_assoc]
 | [],_::_,h,_=>h.elim
 | _::_,[],h,_=>h.elim
structure Sd (n t k:Nat)(es:List En)(part:List Int)(zl:List (Int×Int))(ml:List (Int×List Int)):Prop where
 z:aG RZ es zl
 m:aG RM es ml
 bz:∀ e∈es,-(t:Int)≤e.sum∧e.sum≤t∧0≤e.many∧e.many≤t
 bf:∀ e∈es,e.fst<k
 bm:∀ p∈ml,∀ x∈p.2,0≤x∧x<k
 len:part.length=n
 bp:∀ a,a<k→0≤part.getD a 0∧part.getD a 0<k
 cn:∀ a b:Nat,a<k→b<k→(part.getD a 0=part.getD b 0↔Cn (dF ml) a b)
theorem gP {ml:List (Int×List Int)}{k:Nat}(h:∀ p∈ml,∀ x∈p.2,0≤x∧x<(k:Int)){a b:Int}(hl:dF ml a b):(0≤a∧a<k)∧(0≤b∧b<k):=by
 obtain ⟨p,hp,h1,h2⟩:=hl;exact⟨h p hp a (List.mem_of_head? h1),h p hp b h2⟩
theorem Sd.open {n t k:Nat}{es:List En}{part:List Int}{zl:List (Int×Int)}{ml:List (Int×List Int)}(h:Sd n t k es part zl ml)(hk:k<n):Sd n t (k+1) es (part.set k k) zl ml:=by
 have hl:=h.len;have g1:(part.set k (k:Int)).getD k 0=k:=by rw[zg5,List.getElem?_set]; simp[hl,hk]
 have g2:∀ a,a≠k→(part.set k (k:Int)).getD a 0=part.getD a 0:=fun a ha=>by
  rw[zg5,zg5,List.getElem?_set,zf4 fun e=>ha e.symm]
 have iso:∀ b,¬ dF ml k b∧¬ dF ml b k:=fun b=>⟨fun e=>by have:=gP h.bm e; omega,fun e=>by have:=gP h.bm e; omega⟩;refine⟨h.z,h.m,h.bz,fun e he=>by have:=h.bf e he; omega,fun p hp x hx=>by have:=h.bm p hp x hx; omega,by simp[hl],fun a ha=>?_,fun a b ha hb=>?_⟩
 ·by_cases e:a=k
  ·subst e; rw[g1]; omega
  ·rw[g2 a e]; have:=h.bp a oM; omega
 ·by_cases e:a=k <;> by_cases e2:b=k
  ·subst e; subst e2; exact⟨fun _=>.refl _,fun _=>I⟩
  ·subst e;rw[g1,g2 b e2];have:=h.bp b oM;exact⟨fun h=>by omega,fun hc=>by have:=hc.iso iso; omega⟩
  ·subst e2;rw[g1,g2 a e];have:=h.bp a oM;exact⟨fun h=>by omega,fun hc=>by have:=hc.symm.iso iso; omega⟩
  ·rw[g2 a e,g2 b e2];exact h.cn a b oM oM
theorem j8 {m:Nat}{old now:Int}{p:List Int}{a:Nat}(h:a<p.length)(hm:a<m):(dE m old now p).getD a 0=if p.getD a 0=now then old else p.getD a 0:=by
 rw[zg5,zg5];simp only[dE,List.getElem?_mapIdx,gE h,Option.map_some,Option.getD_some,hm,true_and]
theorem Dt {i:Nat}{c:Int}{es:List En}(h:∀ e∈es,e.fst<i+1):jm i c es<i+1:=by
 induction es with
 | nil=>exact Nat.lt_succ_self i
 | cons e r ih =>
  unfold jm;split
  ·exact h e (by simp)
  ·exact ih fun x hx=>h x (by simp[hx])
theorem xJ {P:En→Prop}{i:Nat}{c p:Int}(hn:P (En.up ⟨c,0,0,i⟩ p))(hu:∀ e,P e→P (e.up p))(ho:∀ e,P e→P e):∀ {es:List En},(∀ e∈es,P e)→∀ e∈kB i c p es,P e
 | [],_,e,he=>by simp[kB] at he; subst he; exact hn
 | x::r,h,e,he=>by
  unfold kB at he;split at he
  ·rcases ze5.1 he with rfl | he
   ·exact hu x (h x (by simp))
   ·exact h e (by simp[he])
  ·rcases ze5.1 he with rfl | he
   ·exact h e (by simp)
   ·exact xJ hn hu ho (fun y hy=>h y (by simp[hy])) e he
theorem xP {P:Int→Prop}{c:Int}{i:Int}(hi:P i):∀ {ml:List (Int×List Int)},(∀ p∈ml,∀ x∈p.2,P x)→∀ p∈fw ml c i,∀ x∈p.2,P x
 | [],_,p,hp,x,hx=>by simp[fw] at hp; subst hp; simp at hx; subst hx; exact hi
 | (k,l)::r,h,p,hp,x,hx=>by
  unfold fw at hp;split at hp
  ·rcases ze5.1 hp with rfl | hp
   ·rcases ze7.1 hx with hx | hx
    ·exact h (k,l) (by simp) x hx
    ·simp at hx; subst hx; exact hi
   ·exact h p (by simp[hp]) x hx
  ·rcases ze5.1 hp with rfl | hp
   ·exact h (k,l) (by simp) x hx
   ·exact xP hi (fun q hq=>h q (by simp[hq])) p hp x hx
theorem Sd.next {n t i:Nat}{es:List En}{part:List Int}{zl:List (Int×Int)}{ml:List (Int×List Int)}{x r:ai}(h:Sd n t (i+1) es part zl ml)(hi:i<n)(ht:t<1000000)(hx:x.sign=1∨x.sign = -1)(hr:r.sign=1∨r.sign = -1) :
  Sd n (t+1) (i+1) (lj i x.sign (es,part) r).1 (lj i x.sign (es,part) r).2 (li x zl r) (ed i ml r):=by
 have hp:=wN hx hr;have hw:wr (x.sign * r.sign)=x.sign * r.sign:=rJ oM;unfold lj li ed;dsimp only;rw[hw];generalize x.sign * r.sign=p at *;have hl:=h.len;have hbm:=Ev (i:=i) (c:=r.cell) (p:=p) h.m fun e he=>by have:=h.bz e he; exact rJ oM
 have hf:=Dt (c:=r.cell) h.bf;refine⟨Eu h.z (fun e he=>by have:=h.bz e he; exact rJ oM) (by rw[Int.zero_add]; exact rJ oM),hbm.1,?_,?_,?_,by rw[lf]; exact hl,fun a ha=>?_,fun a b ha hb=>?_⟩
 ·have:∀ e∈kB i r.cell p es,(-(t:Int)≤e.sum∧e.sum≤t∧0≤e.many∧e.many≤t)∨(-((t+1:Nat):Int)≤e.sum∧e.sum≤((t+1:Nat):Int)∧0≤e.many∧e.many≤((t+1:Nat):Int)):=by
   have h0:=h.bz;clear h hbm hf hl;generalize hes:kB i r.cell p es=fs;intro e he;subst hes;induction es with
   | nil =>
    simp[kB] at he;subst he;right;simp only[En.up];rw[rJ oM,rJ oM];omega
   | cons y q ih =>
    unfold kB at he;split at he
    ·rcases ze5.1 he with rfl | he
     ·right;have:=h0 y (by simp);simp only[En.up];rw[rJ oM,rJ oM];omega
     ·exact .inl (h0 e (by simp[he]))
    ·rcases ze5.1 he with rfl | he
     ·exact .inl (h0 e (by simp))
     ·exact ih (fun z hz=>h0 z (by simp[hz])) he
  intro e he
  rcases this e he with h1 | h1 <;> omega
 ·exact xJ (P:=fun e=>e.fst<i+1) (Nat.lt_succ_self i) (fun e he=>he) (fun e he=>he) h.bf
 ·exact xP (P:=fun x=>0≤x∧x<((i+1:Nat):Int)) oM h.bm
 ·rw[j8 oM ha];split
  ·exact h.bp _ hf
  ·exact h.bp a ha
 ·rw[j8 oM ha,j8 oM hb,Cn.add (x:=(jm i r.cell es:Int)) (y:=(i:Int)) hbm.2 a b];rw[← h.cn a b ha hb,← h.cn a _ ha hf,← h.cn i b oM hb,← h.cn a i ha oM,← h.cn _ b hf hb];generalize part.getD a 0=pa;generalize part.getD b 0=pb;generalize part.getD i 0=pi;generalize part.getD (jm i r.cell es) 0=pf;by_cases h1:pa=pi <;> by_cases h2:pb=pi <;> simp[h1,h2] <;> omega
theorem Sd.inner {n i:Nat}{x:ai}(hi:i<n)(hx:x.sign=1∨x.sign = -1):∀ (l:List ai) {t:Nat} {es:List En} {part:List Int} {zl:List (Int×Int)} {ml:List (Int×List Int)},Sd n t (i+1) es part zl ml→t+l.length<1000000→(∀ r∈l,r.sign=1∨r.sign = -1) →
  Sd n (t+l.length) (i+1) (l.foldl (lj i x.sign) (es,part)).1 (l.foldl (lj i x.sign) (es,part)).2 (l.foldl (li x) zl) (l.foldl (ed i) ml)
 | [],_,_,_,_,_,h,_,_=>h
 | r::l,t,es,part,zl,ml,h,ht,hr=>by
  simp only[ze3] at ht;have h1:=h.next (x:=x) (r:=r) hi oM hx (hr r (by simp));have:=Sd.inner hi hx l h1 oM (fun q hq=>hr q (by simp[hq]));simp only[zi3,ze3];rw[show t+(l.length+1)=t+1+l.length by omega];exact this
theorem Sd.outer {tl:List Cl}{n:Nat}:∀ (l:List ai) {t k:Nat} {es:List En} {part:List Int} {zl:List (Int×Int)} {ml:List (Int×List Int)},Sd n t k es part zl ml→k+l.length≤n→t+64 * l.length<1000000→(∀ x∈l,x.sign=1∨x.sign = -1)→(∀ x∈l,(am tl x).length≤64∧∀ r∈am tl x,r.sign=1∨r.sign = -1) →
  ∃ t',Sd n t' (k+l.length) ((l.zipIdx k).foldl (nz tl) (es,part)).1 ((l.zipIdx k).foldl (nz tl) (es,part)).2 (l.foldl (fun zl x=>(am tl x).foldl (li x) zl) zl) ((l.zipIdx k).foldl (fun ml p=>(am tl p.1).foldl (ed p.2) ml) ml)
 | [],t,_,_,_,_,_,h,_,_,_,_=>⟨t,h⟩
 | x::l,t,k,es,part,zl,ml,h,hk,ht,hs,hq=>by
  simp only[ze3] at hk ht;have h0:=hq x (by simp);have h1:=(h.open oM).inner (x:=x) oM (hs x (by simp)) (am tl x) oM h0.2;obtain ⟨t',h2⟩:=Sd.outer l h1 oM oM (fun y hy=>hs y (by simp[hy])) (fun y hy=>hq y (by simp[hy]));refine⟨t',?_⟩;simp only[List.zipIdx_cons,zi3,ze3];rw[show k+(l.length+1)=k+1+l.length by omega];exact h2
theorem og {α β:Type}{R:α→β→Prop}{p:α→Bool}{q:β→Bool}(h:∀ a b,R a b→p a=q b):∀ {l:List α} {m:List β},aG R l m→l.any p=m.any q
 | [],[],_=>rfl
 | a::l,b::m,hr=>by simp only[List.any_cons,h a b hr.1,og h hr.2]
 | [],_::_,hr=>hr.elim
 | _::_,[],hr=>hr.elim
theorem se {ml:List (Int×List Int)}(h2:∀ p∈ml,p.2.length=2)(a b:Int):Rch (jv (cH ml)) a b↔Cn (dF ml) a b:=by
 have hstep:∀ x y,y∈ep (cH ml) x→Cn (dF ml) x y:=fun x y hy=>by
  obtain ⟨p,hp,h⟩:=(kG ml x y).1 hy
  rcases h with h | h
  ·exact .one ⟨p,hp,by rw[h]; rfl,by rw[h]; simp⟩
  ·exact (Cn.one (E:=dF ml) ⟨p,hp,by rw[h]; rfl,by rw[h]; simp⟩).symm
 have hadj:∀ x,jv (cH ml) x≠none:=fun x=>by simp[jv]
 constructor
 ·intro h;induction h with
  | refl _ _=>exact .refl _
  | step x y _ l hl hy _ ih =>
   simp only[jv,zg2] at hl;subst hl;exact (hstep x y hy).trans ih
 ·intro h;induction h with
  | refl a=>exact .refl a (hadj a)
  | @step x y z e _ ih =>
   have key:∀ u v,dF ml u v→v=u∨v∈ep (cH ml) u:=fun u v ⟨p,hp,h3,h4⟩=>by
    have:=h2 p hp
    match hq:p.2,this with
    | [c,d],_ =>
     rw[hq] at h3 h4;simp at h3 h4;subst h3
     rcases h4 with h4 | h4
     ·exact .inl h4
     ·exact .inr ((kG ml c v).2 ⟨p,hp,.inl (by rw[hq,h4])⟩)
   rcases e with e | e
   ·rcases key x y e with rfl | h5
    ·exact ih
    ·exact .step x y z _ I h5 ih
   ·rcases key y x e with rfl | h5
    ·exact ih
    ·refine .step x y z _ I ?_ ih;obtain ⟨p,hp,h6⟩:=(kG ml y x).1 h5;exact (kG ml x y).2 ⟨p,hp,h6.symm⟩
theorem nK {l:List Int}(hn:l.Nodup)(hb:∀ x∈l,0≤x):(l.map Int.toNat).Nodup:=by
 rw[List.Nodup,zj6];refine List.Pairwise.imp_of_mem ?_ hn;intro a b ha hb' hne e;have:=hb a ha;have:=hb b hb';omega
theorem kW {l:List Int}{n:Nat}(hn:l.Nodup)(hb:∀ x∈l,0≤x∧x<(n:Int)):l.length≤n:=by
 have h1:=nK hn fun x hx=>(hb x hx).1;have:=dh (l:=List.range n) h1 List.nodup_range fun x hx=>by
  obtain ⟨y,hy,rfl⟩:=ze6.1 hx;have:=hb y hy;exact List.mem_range.2 oM
 simpa using this
theorem rU {tl:List Cl}{c:Cl}(hok:AOk tl c)(h0:0<c.sides.length):ij tl c=ck tl c:=by
 obtain ⟨h64,hs,hq⟩:=hok;have start:Sd c.sides.length 0 0 [] (List.replicate c.sides.length 0) [] []:=⟨trivial,trivial,by simp,by simp,by simp,by simp,by simp,fun a b ha=>by omega⟩;obtain ⟨t,hd⟩:=start.outer c.sides (tl:=tl) oM oM hs hq;have e1:((c.sides.zipIdx 0).foldl (nz tl) ([],List.replicate c.sides.length 0))=mi tl c.sides c.sides.length:=rfl;rw[e1] at hd;have hz:aG RZ (mi tl c.sides c.sides.length).1 (gG tl c.sides):=hd.z;have hm:aG RM (mi tl c.sides c.sides.length).1 (d4 tl c.sides):=hd.m;unfold ij ck;rw[og (p:=fun e=>decide (e.sum≠0)) (q:=fun p:Int×Int=>decide (p.2≠0)) (fun a b h=>by rw[h.2]) hz];rw[og (p:=fun e=>decide (e.many≠2)) (q:=fun p:Int×List Int=>decide ((p.2.length:Int)≠2)) (fun a b h=>by rw[h.2.1]) hm];split
 ·rfl
 ·split
  ·rfl
  ·rename_i hno;have h2:∀ p∈d4 tl c.sides,p.2.length=2:=fun p hp=>by
    have:=zj7.1 ((zj1 _).mp hno) p hp;simp at this;omega
   have hbm:∀ p∈d4 tl c.sides,∀ x∈p.2,0≤x∧x<((0+c.sides.length:Nat):Int):=hd.bm;rw[Nat.zero_add] at hbm;have hcn:∀ a b:Nat,a<c.sides.length→b<c.sides.length→((mi tl c.sides c.sides.length).2.getD a 0=(mi tl c.sides c.sides.length).2.getD b 0↔Rch (jv (cH (d4 tl c.sides))) a b):=fun a b ha hb=>by
    rw[se h2];exact hd.cn a b oM oM
   have hln:=hd.len;have hmem:∀ x:Int,x∈i7 (cH (d4 tl c.sides))↔Rch (jv (cH (d4 tl c.sides))) 0 x:=fun x=>uE (cnt:=ni (cH (d4 tl c.sides))) (fun v v' h=>ji h) (ks _) (zk3 (zc2 _ _)) (by simp[jv]) x;have hnd:(i7 (cH (d4 tl c.sides))).Nodup:=jh _ _ _ _ (by simp);have hin:∀ x∈i7 (cH (d4 tl c.sides)),0≤x∧x<(c.sides.length:Int):=fun x hx=>by
    have hr:=(se h2 0 x).1 ((hmem x).1 hx);have:∀ a b,Cn (dF (d4 tl c.sides)) a b→(0≤a∧a<(c.sides.length:Int))→(0≤b∧b<(c.sides.length:Int)):=by
     intro a b h;induction h with
     | refl _=>exact fun h=>h
     | step e _ ih =>
      intro _
      rcases e with e | e
      ·exact ih (gP hbm e).2
      ·exact ih (gP hbm e).1
    exact this 0 x hr oM
   generalize (mi tl c.sides c.sides.length).2=part at *;generalize i7 (cH (d4 tl c.sides))=seen at *;by_cases hall:∀ a,a<c.sides.length→part.getD a 0=part.getD 0 0
   ·have hf:part.any (fun x=>decide (x≠part.getD 0 0))=false:=by
     rw[zj7];intro x hx;obtain ⟨i,hi,rfl⟩:=zc4 hx;have:=hall i oM;rw[zg5,gE hi] at this;simpa using this
    have hlen:seen.length=c.sides.length:=by
     refine Nat.le_antisymm (kW hnd hin) ?_;have h3:=dh (m:=List.range c.sides.length) (l:=seen.map Int.toNat) List.nodup_range (nK hnd fun x hx=>(hin x hx).1) fun i hi=>by
      have hi:=List.mem_range.1 hi;exact ze6.2 ⟨(i:Int),(hmem i).2 ((hcn 0 i h0 hi).1 (hall i hi).symm),by simp⟩
     simpa using h3
    rw[hf,hlen];simp
   ·have ht:part.any (fun x=>decide (x≠part.getD 0 0))=true:=by
     simp only[Classical.not_forall] at hall;obtain ⟨a,ha,hne⟩:=hall;rw[zj2];refine⟨part.getD a 0,?_,by simpa using hne⟩;rw[zg5,gE oM];exact gM _
    have hlen:(seen.length:Int)≠c.sides.length:=by
     simp only[Classical.not_forall] at hall;obtain ⟨a,ha,hne⟩:=hall;have hna:(a:Int) ∉ seen:=fun h=>hne ((hcn 0 a h0 ha).2 ((hmem a).1 h)).symm;have:=kW (l:=(a:Int)::seen) (n:=c.sides.length) (zj4.2 ⟨hna,hnd⟩) fun x hx=>by
      rcases ze5.1 hx with rfl | hx
      ·omega
      ·exact hin x hx
     simp at this;omega
    rw[ht,zf5 rfl,zf5 hlen]
theorem cA {tl:List Cl}:∀ {l:List Cl} {n:Int},gB tl l n=none→l.Pairwise (fun a b=>a.id<b.id)∧(∀ x∈l,n<x.id)∧∀ x∈l,bV tl x=0
 | [],_,_=>⟨List.Pairwise.nil,by simp,by simp⟩
 | x::r,n,h=>by
  unfold gB at h;split at h
  ·cases h
  ·rename_i hid;split at h
   ·cases h
   ·rename_i hf;obtain ⟨h1,h2,h3⟩:=cA h;refine⟨zj5.2 ⟨h2,h1⟩,fun y hy=>?_,fun y hy=>?_⟩
    ·rcases ze5.1 hy with rfl | hy
     ·omega
     ·have:=h2 y hy; omega
    ·rcases ze5.1 hy with rfl | hy
     ·exact zg4 hf
     ·exact h3 y hy
theorem jy (l:List Cl):aA l=a6 l:=by
 unfold aA a6;split
 ·rfl
 ·cases h:gB (ae l) (aa l) 0 with
  | some p=>rfl
  | none =>
   obtain ⟨h1,_,h3⟩:=cA h;have ht:=bh h1;have key:∀ m:List Cl,(∀ x∈m,x∈aa l)→my (aa l) m=nj (ae l) m:=by
    intro m;induction m with
    | nil=>intro _; rfl
    | cons x r ih =>
     intro hm;have hx:=hm x (by simp);unfold my nj;rw[ih fun y hy=>hm y (by simp[hy])];by_cases hd:x.dim>1
     ·have hok:=zO h3 hx;have hn:0<x.sides.length:=by
       have hf:=h3 x hx;unfold bV at hf;split at hf
       ·cases hf
       ·split at hf
        ·cases hf
        ·rename_i hc;simp[au] at hc;have:=hc.2 hd;omega
      rw[ht] at hok ⊢;rw[rU hok hn]
     ·simp[hd]
   rw[key _ fun x hx=>hx]
set_option maxRecDepth 10000
theorem kJ {l:List Cl}(h:(a6 l).2=0):gB (ae l) (aa l) 0=none:=by
 unfold a6 at h;split at h
 ·simp at h
 ·cases h1:gB (ae l) (aa l) 0 with
  | none=>rfl
  | some p=>rw[h1] at h; exact absurd h (uJ h1)
theorem CZ (a b:List Cl):bA a b=EK a b:=by
 have hb:bU a b=nk a b:=by
  unfold bU nk;rw[jy,jy];by_cases h1:(a6 a).2=0
  ·by_cases h2:(a6 b).2=0
   ·rw[bh (cA (kJ h1)).1,bh (cA (kJ h2)).1,ao,ao]
   ·simp[h2]
  ·simp[h1]
 unfold bA EK;rw[hb,jy]
section
variable {A:List (List Int)}(hA:gD A)
include hA
end
theorem C4 {N i k i' k':Nat}(hk:k<N)(hk':k'<N)(h:i * N+k=i' * N+k'):i=i'∧k=k':=by
 have e:∀ {i k:Nat},k<N→(i * N+k) / N=i:=fun {i k} hk=>by rw[Nat.add_comm,Nat.add_mul_div_right _ _ oM,Nat.div_eq_of_lt hk,Nat.zero_add]
 have h1:=e (i:=i) hk;rw[h,e hk'] at h1;subst h1;exact⟨I,oM⟩
theorem Fl {N i k i' k':Nat}(hk:k<N)(h:i<i'):i * N+k<i' * N+k':=by
 have:(i+1) * N≤i' * N:=Nat.mul_le_mul_right N h;rw[Nat.succ_mul] at this;omega
theorem FH {tl:List Cl}{c:Cl}(h1:0≤c.dim∧c.dim≤8)(h2:au c=false)(h3:∀ x∈c.sides,∃ d,aM tl x.cell=some d∧d.dim=c.dim - 1)(h4:c.sides.Pairwise fun a b=>a.cell<b.cell)(h5:∀ x∈c.sides,x.sign=1∨x.sign = -1)(h6:c.dim=1→ln c.sides=0):bV tl c=0:=by
 have e1:eL c=false:=by unfold eL; simp; omega
 have e3:(List.range c.sides.length).any (iJ tl c)=false:=by
  rw[zj7];intro i hi;have hi:=List.mem_range.1 hi;obtain ⟨d,hd1,hd2⟩:=h3 _ (gM hi);unfold iJ;rw[gE hi];show ¬ bL _ _ i c.sides[i]=true;unfold bL;rw[hd1];simp only[Option.isSome_some,Bool.not_true,Bool.false_or,Option.getD_some,hd2,ne_eq,not_true_eq_false,decide_false];by_cases hi0:i>0
  ·have hlt:=zc6.1 h4 (i - 1) i oM hi oM;rw[gE oM];simp;omega
  ·simp[hi0]
 have e4:c.sides.any bw=false:=by
  rw[zj7];intro x hx
  rcases h5 x hx with h | h <;> simp[bw,h]
 have e5:(decide (c.dim=1)&&decide (ln c.sides≠0))=false:=by
  by_cases hd:c.dim=1
  ·rw[h6 hd]; simp
  ·simp[hd]
 unfold bV;rw[e1,h2,e3,e4,e5];rfl
section
variable {A B:List (List Int)}(hA:gD A)(hB:gD B)
include hA hB
end
section
variable {A B:List (List Int)}(hA:gD A)(hB:gD B)
include hA hB
end
structure Few (a:List Cl)(A:List (List Int)):Prop where
 good:gD A
 cells:a=A.map (iw A)
 small:∀ s∈A,s.length≤3
 few:A.length≤14
def sumR (tl:List Cl)(l:List ai)(r:Int):Int:=(l.flatMap fun x=>(am tl x).map fun q=>if q.cell=r then x.sign * q.sign else 0).sum
def hits (tl:List Cl)(x:ai)(r:Int):Nat:=((am tl x).filter fun q=>decide (q.cell=r)).length
def cntR (tl:List Cl)(l:List ai)(r:Int):Nat:=(l.map fun x=>hits tl x r).sum
def pn (tl:List Cl)(l:List ai)(a b:Int):Prop:=∃ x∈l,∃ y∈l,x.cell=a∧y.cell=b∧∃ r,0<hits tl x r∧0<hits tl y r
theorem BD (zl:List (Int×Int))(k x r:Int):iu (gC zl k x) r=iu zl r+if r=k then x else 0:=by
 induction zl with
 | nil =>
  simp only[gC,iu];split <;> simp
 | cons p q ih =>
  obtain ⟨a,z⟩:=p;simp only[gC];by_cases h:k=a
  ·subst h;simp only[if_true,iu];split <;> simp
  ·rw[zf4 h];simp only[iu,ih];by_cases hr:r=a
   ·subst hr;rw[zf5 rfl,zf5 rfl,zf4 fun e=>h e.symm];omega
   ·rw[zf4 hr,zf4 hr]
theorem qm (x:ai)(r:Int):∀ (l:List ai) (zl:List (Int×Int)),iu (l.foldl (li x) zl) r=iu zl r+(l.map fun q=>if q.cell=r then x.sign * q.sign else 0).sum
 | [],zl=>by simp
 | q::l,zl=>by
  simp only[zi3,zf8,List.sum_cons];rw[qm x r l,li,BD];by_cases h:r=q.cell
  ·rw[zf5 h,zf5 h.symm]; omega
  ·rw[zf4 h,zf4 fun e=>h e.symm]; omega
theorem s5 (tl:List Cl)(l:List ai)(r:Int):iu (gG tl l) r=sumR tl l r:=by
 have:∀ (l:List ai) (zl:List (Int×Int)),iu (l.foldl (fun zl x=>(am tl x).foldl (li x) zl) zl) r=iu zl r+sumR tl l r:=by
  intro l;induction l with
  | nil=>intro zl; simp[sumR]
  | cons x q ih =>
   intro zl;simp only[zi3];rw[ih,qm];simp only[sumR,zg9,List.sum_append];omega
 have h:=this l [];simpa [gG,iu] using h
theorem Cc (ml:List (Int×Int))(k x:Int):(gC ml k x).map Prod.fst=if ml.any (fun p=>decide (p.1=k)) then ml.map Prod.fst else ml.map Prod.fst++[k]:=by
 induction ml with
 | nil=>simp[gC]
 | cons p r ih =>
  obtain ⟨a,l⟩:=p;simp only[gC];by_cases h:k=a
  ·subst h;simp
  ·have h2:¬ a=k:=fun e=>h e.symm;rw[zf4 h];simp only[zf8,ih,List.any_cons,h2,decide_false,Bool.false_or];split <;> simp
theorem zn {ml:List (Int×Int)}(h:(ml.map Prod.fst).Nodup)(k x:Int):((gC ml k x).map Prod.fst).Nodup:=by
 rw[Cc];split
 ·exact h
 ·rename_i hk;rw[List.nodup_append];refine⟨h,by simp,fun a ha b hb e=>hk ?_⟩;simp at hb;subst hb;obtain ⟨p,hp,hpe⟩:=ze6.1 ha;rw[zj2];exact⟨p,hp,by simp[hpe,e]⟩
theorem vf (tl:List Cl)(l:List ai):((gG tl l).map Prod.fst).Nodup:=by
 have h1:∀ (x:ai) (q:List ai) (zl:List (Int×Int)),(zl.map Prod.fst).Nodup→((q.foldl (li x) zl).map Prod.fst).Nodup:=by
  intro x q;induction q with
  | nil=>intro zl h; exact h
  | cons r t ih=>intro zl h; exact ih _ (zn h _ _)
 have h2:∀ (q:List ai) (zl:List (Int×Int)),(zl.map Prod.fst).Nodup→((q.foldl (fun zl x=>(am tl x).foldl (li x) zl) zl).map Prod.fst).Nodup:=by
  intro q;induction q with
  | nil=>intro zl h; exact h
  | cons x t ih=>intro zl h; exact ih _ (h1 _ _ _ h)
 exact h2 _ _ (by simp)
theorem xl:∀ {zl:List (Int×Int)},(zl.map Prod.fst).Nodup→∀ p∈zl,iu zl p.1=p.2
 | [],_,p,hp=>by simp at hp
 | (a,z)::r,h,p,hp=>by
  simp only[zf8,zj4] at h
  rcases ze5.1 hp with rfl | hp
  ·simp[iu]
  ·simp only[iu];rw[zf4 fun e=>h.1 (ze6.2 ⟨p,hp,e⟩)];exact xl h.2 p hp
theorem s6:∀ {zl:List (Int×Int)} {k:Int},iu zl k≠0→∃ p∈zl,p.1=k∧p.2=iu zl k
 | [],_,h=>by simp[iu] at h
 | (a,z)::r,k,h=>by
  simp only[iu] at h ⊢;split
  ·rename_i e;exact⟨(a,z),by simp,e.symm,I⟩
  ·rename_i e;rw[zf4 e] at h;obtain ⟨p,hp,h1,h2⟩:=s6 h;exact⟨p,by simp[hp],h1,h2⟩
theorem sE (tl:List Cl)(l:List ai):(gG tl l).any (fun p=>decide (p.2≠0))=false↔∀ r,sumR tl l r=0:=by
 rw[zj7];constructor
 ·intro h r;rw[← s5];refine zg4 fun hne=>?_;obtain ⟨p,hp,_,h2⟩:=s6 hne;exact h p hp (by simpa [h2] using hne)
 ·intro h p hp;have:=xl (vf tl l) p hp;rw[s5,h] at this;simp[← this]
theorem qn (i r:Int):∀ (l:List ai) (ml:List (Int×List Int)),ep (l.foldl (ed i) ml) r=ep ml r++List.replicate (l.filter fun q=>decide (q.cell=r)).length i
 | [],ml=>by simp
 | q::l,ml=>by
  simp only[zi3];rw[qn i r l,ed,s9,zi2];by_cases h:r=q.cell
  ·rw[zf5 h,zf5 (by simp[h])];simp[List.replicate_succ]
  ·rw[zf4 h,zf4 (by simp; exact fun e=>h e.symm)]
theorem xm (tl:List Cl)(l:List ai)(r:Int):ep (d4 tl l) r=l.zipIdx.flatMap fun p=>List.replicate (hits tl p.1 r) (p.2:Int):=by
 have:∀ (q:List (ai×Nat)) (ml:List (Int×List Int)),ep (q.foldl (fun ml p=>(am tl p.1).foldl (ed p.2) ml) ml) r=ep ml r++q.flatMap fun p=>List.replicate (hits tl p.1 r) (p.2:Int):=by
  intro q;induction q with
  | nil=>intro ml; simp
  | cons p t ih =>
   intro ml;simp only[zi3];rw[ih,qn];simp[hits]
 have h:=this l.zipIdx [];simpa [d4,ep] using h
theorem Ak (tl:List Cl)(l:List ai)(r:Int):(ep (d4 tl l) r).length=cntR tl l r:=by
 rw[xm];have:∀ (l:List ai) (k:Nat),((l.zipIdx k).flatMap fun p=>List.replicate (hits tl p.1 r) (p.2:Int)).length=cntR tl l r:=by
  intro l;induction l with
  | nil=>intro k; rfl
  | cons x q ih=>intro k; simp only[List.zipIdx_cons,zg9,zd9,List.length_replicate,ih,cntR,zf8,List.sum_cons]
 exact this l 0
theorem nq (tl:List Cl)(l:List ai)(r i:Int):i∈ep (d4 tl l) r↔∃ k:Nat,i=k∧∃ x,l[k]?=some x∧0<hits tl x r:=by
 rw[xm,List.mem_flatMap];constructor
 ·rintro ⟨⟨x,k⟩,hp,hi⟩;obtain ⟨h1,rfl⟩:=List.mem_replicate.1 hi;refine⟨k,I,x,?_,Nat.pos_of_ne_zero h1⟩;simpa using List.mem_zipIdx_iff_getElem?.1 hp
 ·rintro ⟨k,rfl,x,hx,hh⟩;exact⟨(x,k),List.mem_zipIdx_iff_getElem?.2 (by simpa using hx),List.mem_replicate.2 ⟨Nat.ne_of_gt hh,I⟩⟩
theorem mZ:∀ {ml:List (Int×List Int)},(ml.map Prod.fst).Nodup→∀ p∈ml,ep ml p.1=p.2
 | [],_,p,hp=>by simp at hp
 | (a,z)::r,h,p,hp=>by
  simp only[zf8,zj4] at h
  rcases ze5.1 hp with rfl | hp
  ·simp[ep]
  ·simp only[ep];rw[zf4 fun e=>h.1 (ze6.2 ⟨p,hp,e⟩)];exact mZ h.2 p hp
theorem nV:∀ {ml:List (Int×List Int)} {k:Int},ep ml k≠[]→∃ p∈ml,p.1=k∧p.2=ep ml k
 | [],_,h=>by simp[ep] at h
 | (a,z)::r,k,h=>by
  simp only[ep] at h ⊢;split
  ·rename_i e;exact⟨(a,z),by simp,e.symm,I⟩
  ·rename_i e;rw[zf4 e] at h;obtain ⟨p,hp,h1,h2⟩:=nV h;exact⟨p,by simp[hp],h1,h2⟩
theorem AM:∀ {ml:List (Int×List Int)} {k x:Int},(∀ p∈ml,p.2≠[])→∀ p∈fw ml k x,p.2≠[]
 | [],_,_,_,p,hp=>by simp[fw] at hp; subst hp; simp
 | (a,l)::r,k,x,h,p,hp=>by
  unfold fw at hp;split at hp
  ·rcases ze5.1 hp with rfl | hp
   ·simp
   ·exact h p (by simp[hp])
  ·rcases ze5.1 hp with rfl | hp
   ·exact h _ (by simp)
   ·exact AM (fun q hq=>h q (by simp[hq])) p hp
theorem Gw (tl:List Cl)(l:List ai):∀ p∈d4 tl l,p.2≠[]:=by
 have h1:∀ (i:Int) (q:List ai) (ml:List (Int×List Int)),(∀ p∈ml,p.2≠[])→∀ p∈q.foldl (ed i) ml,p.2≠[]:=by
  intro i q;induction q with
  | nil=>intro ml h; exact h
  | cons r t ih=>intro ml h; exact ih _ (AM h)
 have h2:∀ (q:List (ai×Nat)) (ml:List (Int×List Int)),(∀ p∈ml,p.2≠[])→∀ p∈q.foldl (fun ml p=>(am tl p.1).foldl (ed p.2) ml) ml,p.2≠[]:=by
  intro q;induction q with
  | nil=>intro ml h; exact h
  | cons x t ih=>intro ml h; exact ih _ (h1 _ _ _ h)
 exact h2 _ _ (by simp)
theorem xb (tl:List Cl)(l:List ai):(d4 tl l).any (fun p=>decide ((p.2.length:Int)≠2))=false↔∀ r,cntR tl l r=0∨cntR tl l r=2:=by
 rw[zj7];constructor
 ·intro h r;rw[← Ak];by_cases hne:ep (d4 tl l) r=[]
  ·left; rw[hne]; rfl
  ·right;obtain ⟨p,hp,_,h2⟩:=nV hne;have:=h p hp;rw[h2] at this;simp at this;omega
 ·intro h p hp;have h1:=mZ (jI tl l) p hp;have h2:=h p.1;rw[← Ak,h1] at h2;have h3:=List.length_pos_iff.2 (Gw tl l p hp);simp;omega
theorem Gx (tl:List Cl)(l:List ai):∀ p∈d4 tl l,∀ x∈p.2,0≤x∧x<(l.length:Int):=fun p hp x hx=>by
 rw[← mZ (jI tl l) p hp] at hx;obtain ⟨k,rfl,y,hy,_⟩:=(nq tl l p.1 x).1 hx;have:=(ze9.1 hy).1;omega
theorem CQ {ml:List (Int×List Int)}{n:Nat}(h2:∀ p∈ml,p.2.length=2)(hb:∀ p∈ml,∀ x∈p.2,0≤x∧x<(n:Int))(h0:0<n):(i7 (cH ml)).length=n↔∀ a:Nat,a<n→Cn (dF ml) 0 a:=by
 have hmem:∀ x:Int,x∈i7 (cH ml)↔Rch (jv (cH ml)) 0 x:=fun x=>uE (cnt:=ni (cH ml)) (fun v v' h=>ji h) (ks _) (zk3 (zc2 _ _)) (by simp[jv]) x;have hnd:(i7 (cH ml)).Nodup:=jh _ _ _ _ (by simp);have hin:∀ x∈i7 (cH ml),0≤x∧x<(n:Int):=fun x hx=>by
  have hr:=(se h2 0 x).1 ((hmem x).1 hx);have:∀ a b,Cn (dF ml) a b→(0≤a∧a<(n:Int))→(0≤b∧b<(n:Int)):=by
   intro a b h;induction h with
   | refl _=>exact fun h=>h
   | step e _ ih =>
    intro _
    rcases e with e | e
    ·exact ih (gP hb e).2
    ·exact ih (gP hb e).1
  exact this 0 x hr oM
 generalize i7 (cH ml)=seen at *;constructor
 ·intro hl a ha;refine Classical.byContradiction fun hne=>?_;have hna:(a:Int) ∉ seen:=fun h=>hne ((se h2 0 a).1 ((hmem a).1 h));have:=kW (l:=(a:Int)::seen) (n:=n) (zj4.2 ⟨hna,hnd⟩) fun x hx=>by
   rcases ze5.1 hx with rfl | hx
   ·omega
   ·exact hin x hx
  simp at this;omega
 ·intro hall;refine Nat.le_antisymm (kW hnd hin) ?_;have h3:=dh (m:=List.range n) (l:=seen.map Int.toNat) List.nodup_range (nK hnd fun x hx=>(hin x hx).1) fun i hi=>by
   have hi:=List.mem_range.1 hi;exact ze6.2 ⟨(i:Int),(hmem i).2 ((se h2 0 i).2 (hall i hi)),by simp⟩
  simpa using h3
theorem Cn.map {E E':Int→Int→Prop}{f:Int→Int}(h:∀ a b,E a b→Cn E' (f a) (f b)){a b:Int}(hc:Cn E a b):Cn E' (f a) (f b):=by
 induction hc with
 | refl _=>exact .refl _
 | step e _ ih =>
  rcases e with e | e
  ·exact (h _ _ e).trans ih
  ·exact (h _ _ e).symm.trans ih
theorem eF {tl:List Cl}{c:Cl}(h0:0<c.sides.length)(hnd:(c.sides.map ai.cell).Nodup) :
  ck tl c=0↔(∀ r,sumR tl c.sides r=0)∧(∀ r,cntR tl c.sides r=0∨cntR tl c.sides r=2)∧∀ x∈c.sides,∀ y∈c.sides,Cn (pn tl c.sides) x.cell y.cell:=by
 unfold ck;generalize c.sides=l at *;by_cases hs:(gG tl l).any (fun p=>decide (p.2≠0))=false
 ·rw[zf4 (by rw[hs]; simp)];by_cases hm:(d4 tl l).any (fun p=>decide ((p.2.length:Int)≠2))=false
  ·rw[zf4 (by rw[hm]; simp)];have h2:∀ p∈d4 tl l,p.2.length=2:=fun p hp=>by
    have:=zj7.1 hm p hp;simp at this;omega
   have hsa:=CQ h2 (Gx tl l) h0;have hinj:∀ {i j:Nat} {x y:ai},l[i]?=some x→l[j]?=some y→x.cell=y.cell→i=j:=fun {i j x y} hi hj e=>by
    obtain ⟨i1,e1⟩:=ze9.1 hi;obtain ⟨i2,e2⟩:=ze9.1 hj;have key:∀ {a b:Nat} (ha:a<l.length) (hb:b<l.length),a<b→l[a].cell≠l[b].cell:=fun {a b} ha hb h=>by
     have:=zc6.1 hnd a b (by simpa using ha) (by simpa using hb) h;simpa using this
    rcases Nat.lt_trichotomy i j with h | h | h
    ·exact absurd (by rw[e1,e2]; exact e) (key i1 i2 h)
    ·exact h
    ·exact absurd (by rw[e1,e2]; exact e.symm) (key i2 i1 h)
   have hconn:(∀ a:Nat,a<l.length→Cn (dF (d4 tl l)) 0 a)↔∀ x∈l,∀ y∈l,Cn (pn tl l) x.cell y.cell:=by
    constructor
    ·intro hall x hx y hy;obtain ⟨i,hi,rfl⟩:=zc4 hx;obtain ⟨j,hj,rfl⟩:=zc4 hy;have hc:=(hall i hi).symm.trans (hall j hj);have:=hc.map (f:=fun a=>(l.getD a.toNat ⟨0,0⟩).cell) (E':=pn tl l) fun a b hl=>by
      obtain ⟨p,hp,h3,h4⟩:=hl;rw[← mZ (jI tl l) p hp] at h3 h4;obtain ⟨k,rfl,x,hx,hh⟩:=(nq tl l p.1 a).1 (List.mem_of_head? h3);obtain ⟨m,rfl,y,hy,hh2⟩:=(nq tl l p.1 b).1 h4;refine .one ⟨x,zf6 hx,y,zf6 hy,?_,?_,p.1,hh,hh2⟩
      ·simp[zg5,hx]
      ·simp[zg5,hy]
     simpa [zg5,hi,hj] using this
    ·intro hall;have key:∀ a b,Cn (pn tl l) a b→∀ (i:Nat) (x:ai),l[i]?=some x→x.cell=a→∀ (j:Nat) (y:ai),l[j]?=some y→y.cell=b→Cn (dF (d4 tl l)) (i:Int) (j:Int):=by
      have one:∀ {a b:Int},pn tl l a b→∀ (i:Nat) (x:ai),l[i]?=some x→x.cell=a→∃ (j:Nat) (y:ai),l[j]?=some y∧y.cell=b∧Cn (dF (d4 tl l)) (i:Int) (j:Int):=by
       rintro a b ⟨x',hx',y,hy,rfl,rfl,r,h3,h4⟩ i x hi he;obtain ⟨i',hi',rfl⟩:=zc4 hx';obtain ⟨j,hj,rfl⟩:=zc4 hy;have hii:=hinj hi (gE hi') he;subst hii;refine⟨j,l[j],gE hj,I,?_⟩;have m1:=(nq tl l r i).2 ⟨i,rfl,l[i],gE hi',h3⟩;have m2:=(nq tl l r j).2 ⟨j,rfl,l[j],gE hj,h4⟩;obtain ⟨p,hp,_,hp2⟩:=nV (ml:=d4 tl l) (k:=r) fun e=>by rw[e] at m1; simp at m1
       rw[← hp2] at m1 m2;cases hh:p.2 with
       | nil=>rw[hh] at m1; simp at m1
       | cons u q =>
        have hu:∀ v∈p.2,dF (d4 tl l) u v:=fun v hv=>⟨p,hp,by rw[hh]; rfl,hv⟩;exact (Cn.one (hu _ m1)).symm.trans (Cn.one (hu _ m2))
      intro a b hc;induction hc with
      | refl a =>
       intro i x hi he j y hj he2;have:=hinj hi hj (he.trans he2.symm);subst this;exact .refl _
      | step e _ ih =>
       intro i x hi he j y hj he2;have e':pn tl l _ _:=e.elim (fun e=>e) fun ⟨x,hx,y,hy,h1,h2,r,h3,h4⟩=>⟨y,hy,x,hx,h2,h1,r,h4,h3⟩;obtain ⟨k,z,hk,hz,hc⟩:=one e' i x hi he;exact hc.trans (ih k z hk hz j y hj he2)
     intro a ha;exact key _ _ (hall _ (gM h0) _ (gM ha)) 0 _ (gE h0) I a _ (gE ha) I
   rw[← hconn,← hsa];constructor
   ·intro h;refine⟨(sE tl l).1 hs,(xb tl l).1 hm,?_⟩;refine zg4 fun hne=>?_;rw[zf5 oM] at h;exact absurd h dC
   ·rintro ⟨_,_,h⟩;rw[zf4 oM]
  ·have hm':(d4 tl l).any (fun p=>decide ((p.2.length:Int)≠2))=true:=by simpa using hm
   rw[zf5 hm'];exact⟨fun h=>absurd h dC,fun h=>absurd ((xb tl l).2 h.2.1) hm⟩
 ·have hs':(gG tl l).any (fun p=>decide (p.2≠0))=true:=by simpa using hs
  rw[zf5 hs'];exact⟨fun h=>absurd h dC,fun h=>absurd ((sE tl l).2 h.1) hs⟩
structure Fm (tl:List Cl)(c:Cl):Prop where
 dim:0≤c.dim∧c.dim≤8
 cnt:au c=false
 found:∀ x∈c.sides,∃ d,aM tl x.cell=some d∧d.dim=c.dim - 1
 asc:c.sides.Pairwise fun a b=>a.cell<b.cell
 sg:∀ x∈c.sides,x.sign=1∨x.sign = -1
 one:c.dim=1→ln c.sides=0
theorem Fm.ok {tl:List Cl}{c:Cl}(h:Fm tl c):bV tl c=0:=FH h.dim h.cnt h.found h.asc h.sg h.one
theorem GI {l:List ai}(hs:l.Pairwise fun a b=>a.cell≤b.cell)(hd:∀ i x y,l[i]?=some x→l[i+1]?=some y→x.cell≠y.cell):l.Pairwise fun a b=>a.cell<b.cell:=by
 induction l with
 | nil=>exact List.Pairwise.nil
 | cons a r ih =>
  obtain ⟨h1,h2⟩:=zj5.1 hs;have hr:=ih h2 fun i x y hx hy=>hd (i+1) x y (by simpa using hx) (by simpa using hy);refine zj5.2 ⟨fun b hb=>?_,hr⟩;cases r with
  | nil=>simp at hb
  | cons z q =>
   have hz:a.cell<z.cell:=by
    have:=h1 z (by simp);have:=hd 0 a z rfl rfl;omega
   rcases ze5.1 hb with rfl | hb
   ·exact hz
   ·have:=(zj5.1 hr).1 b hb;omega
theorem GU {tl:List Cl}{c:Cl}(h:bV tl c=0)(hs:c.sides.Pairwise fun a b=>a.cell≤b.cell):Fm tl c:=by
 unfold bV at h;split at h
 ·cases h
 ·rename_i h1;split at h
  ·cases h
  ·rename_i h2;split at h
   ·cases h
   ·rename_i h3;split at h
    ·cases h
    ·rename_i h4;split at h
     ·cases h
     ·rename_i h5;have hbad:∀ i x,c.sides[i]?=some x→bL tl c i x=false:=fun i x hx=>by
       have hi:=(ze9.1 hx).1;have:=zj7.1 ((zj1 _).mp h3) i (List.mem_range.2 hi);unfold iJ at this;rw[hx] at this;simpa using this
      refine⟨?_,by simpa using h2,fun x hx=>?_,GI hs fun i x y hx hy e=>?_,fun x hx=>?_,fun hd=>?_⟩
      ·simp[eL] at h1; omega
      ·obtain ⟨i,hi,rfl⟩:=zc4 hx;have:=hbad i _ (gE hi);unfold bL at this;simp only[Bool.or_eq_false_iff,Bool.not_eq_false',decide_eq_false_iff_not,ne_eq,Decidable.not_not] at this;obtain ⟨⟨g1,g2⟩,_⟩:=this;obtain ⟨d,hd⟩:=zh3.1 g1;rw[hd] at g2;exact⟨d,hd,g2⟩
      ·have:=hbad (i+1) y hy;unfold bL at this;rw[show i+1 - 1=i by omega,hx] at this;simp[e] at this
      ·have:=zj7.1 ((zj1 _).mp h4) x hx;simp[bw] at this;by_cases h6:x.sign=1
       ·exact .inl h6
       ·exact .inr (this h6)
      ·simpa [hd] using h5
structure Rt (l:List Cl):Prop where
 few:l.length≤4000
 asc:l.Pairwise fun a b=>a.id<b.id
 pos:∀ x∈l,0<x.id
 form:∀ x∈l,Fm l x
 around:∀ x∈l,x.dim>1→ck l x=0
theorem Rt.canon {l:List Cl}(h:Rt l):aa l=l:=by
 unfold aa;rw[(dJ (key:=Cl.id) (h.asc.imp fun h=>by omega) (aI.refl l)).symm];have:∀ c∈l,ay c=c:=fun c hc=>by
  unfold ay;rw[(dJ (key:=ai.cell) ((h.form c hc).asc.imp fun h=>by omega) (aI.refl c.sides)).symm]
 rw[zc5 this];simp
theorem Rt.tab {l:List Cl}(h:Rt l):ae l=l:=by rw[bh (by rw[h.canon]; exact h.asc),h.canon]
theorem Rt.check {l:List Cl}(h:Rt l):a6 l=(0,0):=by
 refine xG h.few ?_ ?_ ?_ ?_ <;> rw[h.canon]
 ·exact h.pos
 ·exact h.asc
 ·exact fun x hx=>(h.form x hx).ok
 ·exact h.around
theorem Rt.find {l:List Cl}(h:Rt l){c:Cl}(hc:c∈l):aM l c.id=some c:=by
 refine m3 ?_ hc;rw[List.Nodup,zj6];exact h.asc.imp fun h=>by omega
theorem jX {tl:List Cl}:∀ {l:List Cl},nj tl l=none→∀ x∈l,x.dim>1→ck tl x=0
 | [],_,x,hx,_=>by simp at hx
 | y::r,h,x,hx,hd=>by
  unfold nj at h;split at h
  ·cases h
  ·rename_i hn
   rcases ze5.1 hx with rfl | hx
   ·exact zg4 fun h=>hn ⟨hd,h⟩
   ·exact jX h x hx hd
theorem tt {tl:List Cl}:∀ {l:List Cl} {p:Int×Int},nj tl l=some p→p.2≠0
 | [],_,h=>by cases h
 | y::r,p,h=>by
  unfold nj at h;split at h
  ·rename_i hn; cases h; exact hn.2
  ·exact tt h
theorem we (l:List Cl):∀ c∈aa l,c.sides.Pairwise fun a b=>a.cell≤b.cell:=fun c hc=>by
 obtain ⟨d,_,rfl⟩:=ze6.1 hc;exact dx d.sides
theorem mo {l:List Cl}(h:(a6 l).2=0):Rt (aa l):=by
 have h1:=kJ h;obtain ⟨h2,h3,h4⟩:=cA h1;have ht:=bh h2;have h5:l.length≤4000:=BX h;refine⟨by rw[ao]; exact h5,h2,h3,fun x hx=>GU (by rw[← ht]; exact h4 x hx) (we l x hx),?_⟩;have h6:nj (ae l) (aa l)=none:=by
  unfold a6 at h;rw[zf4 oM,h1] at h;cases hc:nj (ae l) (aa l) with
  | none=>rfl
  | some p =>
   rw[hc] at h;exact absurd h (tt hc)
 rw[ht] at h6;exact jX h6
theorem em {l m:List Int}(h:l.Perm m):l.sum=m.sum:=by
 induction h with
 | nil=>rfl
 | cons x _ ih=>simp[ih]
 | swap x y l=>simp; omega
 | trans _ _ ih1 ih2=>exact ih1.trans ih2
theorem Bi {l m:List Nat}(h:l.Perm m):l.sum=m.sum:=by
 induction h with
 | nil=>rfl
 | cons x _ ih=>simp[ih]
 | swap x y l=>simp; omega
 | trans _ _ ih1 ih2=>exact ih1.trans ih2
theorem fX {α:Type}{key:α→Int}(l:List α):(sortBy key l).Perm l:=by
 have hi:∀ (x:α) (l:List α),(ins key x l).Perm (x::l):=by
  intro x l;induction l with
  | nil=>exact .refl _
  | cons y r ih =>
   unfold ins;split
   ·exact .refl _
   ·exact (ih.cons y).trans (.swap x y r)
 induction l with
 | nil=>exact .refl _
 | cons x r ih=>exact (hi x _).trans (ih.cons x)
def inner (tl:List Cl)(x:ai)(r:Int):Int:=((am tl x).map fun q=>if q.cell=r then x.sign * q.sign else 0).sum
theorem cV (tl:List Cl)(l:List ai)(r:Int):sumR tl l r=(l.map fun x=>inner tl x r).sum:=by
 unfold sumR;induction l with
 | nil=>rfl
 | cons x q ih=>simp only[zg9,List.sum_append,zf8,List.sum_cons,ih]; rfl
theorem sH {tl:List Cl}{l m:List ai}(h:l.Perm m)(r:Int):sumR tl l r=sumR tl m r:=by
 rw[cV,cV];exact em (h.map _)
theorem tm {tl:List Cl}{l m:List ai}(h:l.Perm m)(r:Int):cntR tl l r=cntR tl m r:=Bi (h.map _)
def sgn (b:Bool):Int:=if b then -1 else 1
theorem sX (b:Bool){a:Int}(h:a=1∨a = -1):tQ b a=sgn b * a∧(tQ b a=1∨tQ b a = -1):=by
 rcases h with rfl | rfl <;> cases b <;> exact⟨by decide,by decide⟩
theorem bZ {α:Type}{l:List α}{f g:α→Int}{K:Int}(h:∀ x∈l,f x=K * g x):(l.map f).sum=K * (l.map g).sum:=by
 induction l with
 | nil=>simp
 | cons x r ih =>
  simp only[zf8,List.sum_cons];rw[h x (by simp),ih fun y hy=>h y (by simp[hy]),Int.mul_add]
structure Nm (l:List Cl)(k:Int):Prop where
 inj:∀ a∈l,∀ b∈l,dL a.id k=dL b.id k→a=b
 pos:∀ a∈l,0<dL a.id k
section
variable {l:List Cl}(h:Rt l){k:Int}(hn:Nm l k)(t:Int)
include h hn
omit hn in
theorem fx (c:Cl)(hc:c∈l){x:ai}(hx:x∈c.sides):∃ d∈l,d.id=x.cell∧aM l x.cell=some d∧d.dim=c.dim - 1:=by
 obtain ⟨d,hd,hdd⟩:=(h.form c hc).found x hx;obtain ⟨h1,h2⟩:=ce hd;exact⟨d,h1,h2,hd,hdd⟩
theorem Fg:((l.map (aC k t)).map Cl.id).Nodup:=by
 rw[zh9,List.Nodup,zj6];refine List.Pairwise.imp_of_mem ?_ h.asc;intro a b ha hb hlt e;have:=hn.inj a ha b hb e;subst this;omega
theorem sS:((aa (l.map (aC k t))).map Cl.id).Nodup:=by
 have h1:=Fg h hn t;have h2:((aa (l.map (aC k t))).map Cl.id).Perm ((l.map (aC k t)).map Cl.id):=by
  rw[l5];exact (fX _).map _
 exact h2.symm.nodup h1
omit h hn in
theorem Ff {c:Cl}(hc:c∈l):ay (aC k t c)∈aa (l.map (aC k t)) :=
 ze6.2 ⟨_,(cW _ _).2 (ze6.2 ⟨c,hc,rfl⟩),rfl⟩
omit h hn in
theorem nr {c':Cl}(hc:c'∈aa (l.map (aC k t))):∃ c∈l,c'=ay (aC k t c):=by
 obtain ⟨d,hd,rfl⟩:=ze6.1 hc;obtain ⟨c,hc',rfl⟩:=ze6.1 ((cW _ _).1 hd);exact⟨c,hc',I⟩
theorem mS {c:Cl}(hc:c∈l):aM (aa (l.map (aC k t))) (dL c.id k)=some (ay (aC k t c)) :=
 m3 (x:=ay (aC k t c)) (sS h hn t) (Ff t hc)
omit h hn in
theorem ec (c:Cl):(ay (aC k t c)).sides.Perm (c.sides.map (aY k t c)):=fX _
omit hn in
theorem mR {c:Cl}(hc:c∈l){x:ai}(hx:x∈c.sides):(aY k t c x).sign=sgn (iE t c x.cell) * (sgn (i4 t c) * x.sign)∧((aY k t c x).sign=1∨(aY k t c x).sign = -1):=by
 have h1:=sX (i4 t c) ((h.form c hc).sg x hx);have h2:=sX (iE t c x.cell) h1.2;exact⟨by rw[← h1.1]; exact h2.1,h2.2⟩
theorem wW {c:Cl}(hc:c∈l):Fm (aa (l.map (aC k t))) (ay (aC k t c)):=by
 have hf:=h.form c hc;have hlen:(ay (aC k t c)).sides.length=c.sides.length:=by rw[(ec t c).length_eq,ze1]
 have hmem:∀ x',x'∈(ay (aC k t c)).sides↔∃ x∈c.sides,aY k t c x=x':=fun x'=>by rw[(ec t c).mem_iff,ze6]
 refine⟨hf.dim,?_,fun x' hx'=>?_,?_,fun x' hx'=>?_,fun hd=>?_⟩
 ·have:=hf.cnt;unfold au at this ⊢;rw[hlen];exact this
 ·obtain ⟨x,hx,rfl⟩:=(hmem x').1 hx';obtain ⟨d,hd,hid,_,hdd⟩:=fx h c hc hx;have:=mS h hn t hd;rw[hid] at this;exact⟨_,this,hdd⟩
 ·have h1:(ay (aC k t c)).sides.Pairwise fun a b=>a.cell≤b.cell:=dx _;have h2:((ay (aC k t c)).sides.map ai.cell).Nodup:=by
   refine ((ec t c).map ai.cell).symm.nodup ?_;rw[zh9,List.Nodup,zj6];refine List.Pairwise.imp_of_mem ?_ hf.asc;intro a b ha hb hlt e;obtain ⟨d,hd,hid,_⟩:=fx h c hc ha;obtain ⟨d',hd',hid',_⟩:=fx h c hc hb;have e:dL a.cell k=dL b.cell k:=e;rw[← hid,← hid'] at e;have:=hn.inj d hd d' hd' e;subst this;omega
  rw[List.Nodup,zj6] at h2;exact (h1.and h2).imp fun ⟨h3,h4⟩=>by omega
 ·obtain ⟨x,hx,rfl⟩:=(hmem x').1 hx';exact (mR h t hc hx).2
 ·have hd:c.dim=1:=hd;have h1:=hf.one hd;unfold ln at h1 ⊢;rw[em ((ec t c).map ai.sign),zh9];rw[bZ (g:=ai.sign) (K:=sgn (i4 t c)) fun x hx=>?_,h1,Int.mul_zero];have h2:=(mR (k:=k) h t hc hx).1;have h3:iE t c x.cell=false:=by unfold iE; simp[hd]
  rw[h3] at h2;show (aY k t c x).sign=_;rw[h2];unfold sgn;simp
theorem qW {c:Cl}(hc:c∈l){x:ai}(hx:x∈c.sides){e:Cl}(he:e∈l):hits (aa (l.map (aC k t))) (aY k t c x) (dL e.id k)=hits l x e.id:=by
 obtain ⟨d,hd,hid,hfd,_⟩:=fx h c hc hx;unfold hits am;rw[hfd,show (aY k t c x).cell=dL d.id k by rw[hid]; rfl,mS h hn t hd];show ((ay (aC k t d)).sides.filter _).length=_;rw[((ec t d).filter _).length_eq,List.filter_map,ze1];congr 1;refine List.filter_congr fun q hq=>?_;obtain ⟨u,hu,hui,_⟩:=fx h d hd hq;show decide (dL q.cell k=dL e.id k)=decide (q.cell=e.id);rw[decide_eq_decide,← hui];by_cases hue:u=e
 ·subst hue; simp
 ·have h1:¬ dL u.id k=dL e.id k:=fun e'=>hue (hn.inj u hu e he e');have h2:¬ u.id=e.id:=fun e'=>hue (by have a1:=h.find hu; have a2:=h.find he; rw[e',a2] at a1; injection a1 with a1; exact a1.symm);simp[h1,h2]
theorem oD {c:Cl}(hc:c∈l){x:ai}(hx:x∈c.sides){r:Int}(hr:∀ e∈l,dL e.id k≠r):hits (aa (l.map (aC k t))) (aY k t c x) r=0:=by
 obtain ⟨d,hd,hid,hfd,_⟩:=fx h c hc hx;unfold hits am;rw[show (aY k t c x).cell=dL d.id k by rw[hid]; rfl,mS h hn t hd];show ((ay (aC k t d)).sides.filter _).length=_;rw[((ec t d).filter _).length_eq,List.length_eq_zero_iff,List.filter_eq_nil_iff];intro q' hq';obtain ⟨q,hq,rfl⟩:=ze6.1 hq';obtain ⟨u,hu,hui,_⟩:=fx h d hd hq;have:=hr u hu;rw[hui] at this;show ¬ decide (dL q.cell k=r)=true;simpa using this
theorem Be {c:Cl}(hc:c∈l)(hd1:c.dim>1){x:ai}(hx:x∈c.sides){e:Cl}(he:e∈l) :
  inner (aa (l.map (aC k t))) (aY k t c x) (dL e.id k)=sgn (i4 t c) * sgn ((decide (t>1)&&decide (c.dim - 1>1))&&decide (e.id.tmod t=1)) * inner l x e.id:=by
 obtain ⟨d,hd,hid,hfd,hdd⟩:=fx h c hc hx;have hsx:=(mR (k:=k) h t hc hx).1;unfold inner am;rw[hfd,show (aY k t c x).cell=dL d.id k by rw[hid]; rfl,mS h hn t hd];show ((ay (aC k t d)).sides.map _).sum=_;rw[em ((ec t d).map _),zh9];show _=_ * (d.sides.map _).sum;refine bZ fun q hq=>?_;obtain ⟨u,hu,hui,_⟩:=fx h d hd hq;have hsq:=(mR (k:=k) h t hd hq).1;simp only[Function.comp_def];show (if dL q.cell k=dL e.id k then (aY k t c x).sign * (aY k t d q).sign else 0)=_;by_cases hue:u=e
 ·subst hue;rw[hui,zf5 rfl,zf5 rfl,hsx,hsq];have h1:iE t c x.cell=i4 t d:=by
   unfold iE i4;rw[hid];simp[hd1]
  have h2:iE t d q.cell=((decide (t>1)&&decide (c.dim - 1>1))&&decide (q.cell.tmod t=1)):=by
   unfold iE;rw[hdd]
  rw[h1,h2];generalize i4 t d=b1;generalize i4 t c=b2;generalize ((decide (t>1)&&decide (c.dim - 1>1))&&decide (q.cell.tmod t=1))=b3;cases b1 <;> cases b2 <;> cases b3 <;> simp[sgn,Int.neg_mul,Int.mul_neg]
 ·have h1:¬ dL q.cell k=dL e.id k:=fun e'=>hue (hn.inj u hu e he (by rw[hui]; exact e'));have h2:¬ q.cell=e.id:=fun e'=>hue (by have a1:=h.find hu; have a2:=h.find he; rw[hui,e',a2] at a1; injection a1 with a1; exact a1.symm);rw[zf4 h1,zf4 h2,Int.mul_zero]
omit h hn in
theorem xk {tl:List Cl}{x:ai}{r:Int}(h0:hits tl x r=0):inner tl x r=0:=by
 unfold hits at h0;rw[List.length_eq_zero_iff,List.filter_eq_nil_iff] at h0;unfold inner;have:((am tl x).map fun q=>if q.cell=r then x.sign * q.sign else 0)=(am tl x).map fun _=>(0:Int):=zc5 fun q hq=>zf4 (by simpa using h0 q hq);rw[this];generalize am tl x=m;induction m with
 | nil=>rfl
 | cons a b ih=>simpa using ih
theorem yo {c:Cl}(hc:c∈l)(hd1:c.dim>1):ck (aa (l.map (aC k t))) (ay (aC k t c))=0:=by
 have hf:=h.form c hc;have hf':=wW h hn t hc;have hn0:0<c.sides.length:=by
  have:=hf.cnt;simp[au] at this;have:=this.2 hd1;omega
 have hlen:(ay (aC k t c)).sides.length=c.sides.length:=by rw[(ec t c).length_eq,ze1]
 have nd:∀ {c:Cl},(c.sides.Pairwise fun a b=>a.cell<b.cell)→(c.sides.map ai.cell).Nodup:=fun h=>by
  rw[List.Nodup,zj6];exact h.imp fun h=>by omega
 obtain ⟨a1,a2,a3⟩:=(eF hn0 (nd hf.asc)).1 (h.around c hc hd1);refine (eF (by rw[hlen]; exact hn0) (nd hf'.asc)).2 ⟨fun r=>?_,fun r=>?_,fun x' hx' y' hy'=>?_⟩
 ·rw[sH (ec t c),cV,zh9];simp only[Function.comp_def];by_cases hr:∃ e∈l,dL e.id k=r
  ·obtain ⟨e,he,rfl⟩:=hr;have h1:=a1 e.id;rw[cV] at h1;rw[bZ (g:=fun x=>inner l x e.id) (K:=sgn (i4 t c) * sgn ((decide (t>1)&&decide (c.dim - 1>1))&&decide (e.id.tmod t=1))) fun x hx=>Be h hn t hc hd1 hx he,h1,Int.mul_zero]
  ·have hr:∀ e∈l,dL e.id k≠r:=fun e he e'=>hr ⟨e,he,e'⟩;rw[bZ (g:=fun _=>(0:Int)) (K:=0) fun x hx=>by
    rw[xk (oD h hn t hc hx hr)];rfl,Int.zero_mul]
 ·rw[tm (ec t c)];unfold cntR;rw[zh9];simp only[Function.comp_def];by_cases hr:∃ e∈l,dL e.id k=r
  ·obtain ⟨e,he,rfl⟩:=hr;have h1:=a2 e.id;unfold cntR at h1;rw[zc5 (g:=fun x=>hits l x e.id) fun x hx=>qW h hn t hc hx he];exact h1
  ·have hr:∀ e∈l,dL e.id k≠r:=fun e he e'=>hr ⟨e,he,e'⟩;left;rw[zc5 (g:=fun _=>0) fun x hx=>oD h hn t hc hx hr];generalize c.sides=m;induction m with
   | nil=>rfl
   | cons a b ih=>simpa using ih
 ·have hmem:∀ x',x'∈(ay (aC k t c)).sides↔x'∈c.sides.map (aY k t c):=fun x'=>(ec t c).mem_iff;obtain ⟨x,hx,rfl⟩:=ze6.1 ((hmem x').1 hx');obtain ⟨y,hy,rfl⟩:=ze6.1 ((hmem y').1 hy');have hm:∀ x∈c.sides,aY k t c x∈(ay (aC k t c)).sides:=fun x hx=>(hmem _).2 (ze6.2 ⟨x,hx,rfl⟩);refine (a3 x hx y hy).map (f:=fun a=>dL a k) fun a b=>?_;rintro ⟨u,hu,v,hv,rfl,rfl,r,h1,h2⟩;obtain ⟨du,hdu,hidu,hfu,_⟩:=fx h c hc hu;have hr:∃ e∈l,e.id=r:=by
   unfold hits am at h1;rw[hfu] at h1;obtain ⟨q,hq⟩:=List.exists_mem_of_length_pos h1;obtain ⟨hq1,hq2⟩:=zg8.1 hq;obtain ⟨e,he,hei,_⟩:=fx h du hdu (x:=q) hq1;exact⟨e,he,by rw[hei]; simpa using hq2⟩
  obtain ⟨e,he,rfl⟩:=hr;exact .one ⟨_,hm u hu,_,hm v hv,I,I,dL e.id k,by rw[qW h hn t hc hu he]; exact h1,by rw[qW h hn t hc hv he]; exact h2⟩
theorem Bc:Rt (aa (l.map (aC k t))):=by
 refine⟨by rw[ao,ze1]; exact h.few,?_,fun x' hx'=>?_,fun x' hx'=>?_,fun x' hx' hd=>?_⟩
 ·have h1:=fK (l.map (aC k t));have h2:=sS h hn t;rw[zj6] at h1;rw[List.Nodup,zj6] at h2;exact (h1.and h2).imp fun ⟨h3,h4⟩=>by omega
 ·obtain ⟨c,hc,rfl⟩:=nr t hx';exact hn.pos c hc
 ·obtain ⟨c,hc,rfl⟩:=nr t hx';exact wW h hn t hc
 ·obtain ⟨c,hc,rfl⟩:=nr t hx';exact yo h hn t hc hd
end
def Bd (l:List Cl):Prop:=∀ c∈l,c.id≤l.length
theorem z7 (ls:List (List Int)):Rt (bC ls)∧Bd (bC ls):=by
 have h1:=mo (l:=bC ls) (by rw[oB]);have h2:aa (bC ls)=bC ls:=by
  unfold bC;cases aB [] ls with
  | none=>rfl
  | some all=>exact fY _
 rw[h2] at h1;refine⟨h1,?_⟩;unfold bC;cases h:aB [] ls with
 | none=>intro c hc; simp at hc
 | some all =>
  obtain ⟨hg,_⟩:=gw ls [] h gD.nil (by simp);dsimp only;rw[hg.cells];intro c hc;obtain ⟨s,hs,rfl⟩:=ze6.1 hc;have:=(ze9.1 (hg.get_lb hs)).1;show ixC all s≤_;unfold ixC;rw[ze1];omega
theorem Em {l:List Int}{x:Int}(h:x∈l):lbI l x<l.length:=by
 unfold lbI;induction l with
 | nil=>simp at h
 | cons a r ih =>
  rw[zi2]
  rcases ze5.1 h with rfl | h
  ·have:=zc2 (fun y=>decide (y<x)) r;simp;omega
  ·have:=ih h;split
   ·simp only[ze3]; omega
   ·simp only[ze3]; omega
theorem uC (a b:List Cl):Rt (bA a b)∧Bd (bA a b)∧(bA a b).length≤a.length * b.length:=by
 rw[CZ];unfold EK;split
 ·exact⟨⟨by simp,List.Pairwise.nil,by simp,by simp,by simp⟩,fun c hc=>by simp at hc,by simp⟩
 ·rename_i hbad;split
  ·rename_i hok;have hlen:(aa (cN a b)).length=a.length * b.length:=by
    rw[ao];unfold cN;rw[iS,ao,ao]
   refine⟨mo hok,fun c hc=>?_,by rw[hlen]; exact lR _⟩;rw[hlen];obtain ⟨h1,h2,_⟩:=yt (by simpa using hbad);have ta:=bh (cA (kJ h1)).1;have tb:=bh (cA (kJ h2)).1;obtain ⟨d,hd,rfl⟩:=ze6.1 hc;have hd:=(cW _ _).1 hd;unfold cN at hd;rw[ta,tb] at hd;obtain ⟨x,hx,hd⟩:=List.mem_flatMap.1 hd;obtain ⟨y,hy,rfl⟩:=ze6.1 hd;have l1:=Em (ze6.2 ⟨x,hx,rfl⟩:x.id∈(aa a).map Cl.id);have l2:=Em (ze6.2 ⟨y,hy,rfl⟩:y.id∈(aa b).map Cl.id);rw[ze1,ao] at l1 l2;show aO (aa a) (aa b) x.id y.id≤_;unfold aO;rw[ao];have h3:(lbI ((aa a).map Cl.id) x.id+1) * b.length≤a.length * b.length:=Nat.mul_le_mul_right _ l1;rw[Nat.succ_mul] at h3;have h4:((lbI ((aa a).map Cl.id) x.id * b.length:Nat):Int)=(lbI ((aa a).map Cl.id) x.id:Int) * (b.length:Int):=Int.natCast_mul _ _;rw[← h4];omega
  ·exact⟨⟨by simp,List.Pairwise.nil,by simp,by simp,by simp⟩,fun c hc=>by simp at hc,by simp⟩
theorem yu:∀ n,n<7→2≤n→(a6 (tO n)).2=0∧∀ c∈tO n,c.id≤90:=by decide +kernel
theorem j5:∀ (ls acc:List (List Int)) {all:List (List Int)},aB acc ls=some all→(∀ x∈ls,x.length≤2)→all.length≤acc.length+3 * ls.length
 | [],acc,all,h,_=>by cases h; simp
 | s::r,acc,all,h,hl=>by
  have hs:=hl s (by simp);have h3:(bI s).length≤s.length:=by
   unfold bI;exact zk2 (iL _ _) (by rw[eX]; exact lR _)
  simp only[ze3];unfold aB at h;split at h
  ·have:=j5 r acc h fun x hx=>hl x (by simp[hx]);omega
  ·split at h
   ·cases h
   ·have h1:=j5 r _ h fun x hx=>hl x (by simp[hx]);have h2:(dK acc (bI s)).length≤acc.length+3:=by
     unfold dK;refine zk2 (iL _ _) ?_;rw[(hX _).length_eq,zd9];have:2 ^ (bI s).length≤2 ^ 2:=Nat.pow_le_pow_right dC oM;simp[bu];omega
    omega
theorem qy:(bC [[0,1],[1,2],[0,2]]).length≤9:=by
 unfold bC;cases h:aB [] [[0,1],[1,2],[0,2]] with
 | none=>simp
 | some all =>
  have:=j5 _ _ h dC;dsimp only;rw[ao,bq];simpa using this
theorem z8 (m:Int)(ls:List (List Int))(y:Int):Rt (pO (nD m ls y))∧∀ c∈pO (nD m ls y),c.id≤90:=by
 have key:∀ l:List Cl,Rt l→(l.length≤45→∀ c∈l,c.id≤90)→Rt (pO l)∧∀ c∈pO l,c.id≤90:=by
  intro l h1 h2;unfold pO;split
  ·have h3:=uC (bC [[0,1],[1,2],[0,2]]) (bC [[0,1],[1,2],[0,2]]);refine⟨h3.1,fun c hc=>?_⟩;have h4:=h3.2.1 c hc;have h5:=h3.2.2;have h6:px.length≤9 * 9:=zk2 h5 (Nat.mul_le_mul qy qy);have h7:c.id≤px.length:=h4;omega
  ·exact⟨h1,h2 oM⟩
 have hS:∀ ls,Rt (pO (bC ls))∧∀ c∈pO (bC ls),c.id≤90:=fun ls=>key _ (z7 ls).1 fun hl c hc=>by have:=(z7 ls).2 c hc; omega
 have hP:∀ a b,Rt (pO (bA a b))∧∀ c∈pO (bA a b),c.id≤90:=fun a b=>key _ (uC a b).1 fun hl c hc=>by have:=(uC a b).2.1 c hc; omega
 have h5:=aV y 5 dC dC;unfold nD
 repeat' split
 ·exact hS _
 ·exact hP _ _
 ·have h6:=yu (2+bF y 5).toNat oM oM;have h7:=mo h6.1;rw[show aa (tO (2+bF y 5).toNat)=tO (2+bF y 5).toNat from fY _] at h7;exact key _ h7 fun _=>h6.2
 ·exact hP _ _
 ·exact hS _
 ·exact hS _
theorem Fx:∀ k∈[1,3,5],∀ a,a<91→∀ b,b<91→dL (a:Nat) k=dL (b:Nat) k→a=b:=by decide +kernel
theorem Fw:∀ k∈[1,3,5],∀ a,a<91→0<a→0<dL (a:Nat) k:=by decide +kernel
theorem qj (kd:Int)(ls:List (List Int))(y:Int):Rt (jO kd ls y):=by
 obtain ⟨h1,h2⟩:=z8 (bF kd 8) ls y;have hk:zz y∈[(1:Int),3,5]:=by
  have:=aV (IntKind.i64.wrap (y.tdiv 7)) 3 dC dC;unfold zz;generalize bF (IntKind.i64.wrap (y.tdiv 7)) 3=q at *
  rcases (by omega:q=0∨q=1∨q=2) with rfl | rfl | rfl <;> decide
 refine Bc h1 ⟨fun a ha b hb e=>?_,fun a ha=>?_⟩ _
 ·have p1:=h1.pos a ha;have p2:=h1.pos b hb;have q1:=h2 a ha;have q2:=h2 b hb;have e1:((a.id.toNat:Nat):Int)=a.id:=Int.toNat_of_nonneg oM;have e2:((b.id.toNat:Nat):Int)=b.id:=Int.toNat_of_nonneg oM;have:=Fx _ hk a.id.toNat oM b.id.toNat oM (by rw[e1,e2]; exact e);have hid:a.id=b.id:=oM;have f1:=h1.find ha;have f2:=h1.find hb;rw[hid,f2] at f1;injection f1 with f1
  exact f1.symm
 ·have p1:=h1.pos a ha;have q1:=h2 a ha;have e1:((a.id.toNat:Nat):Int)=a.id:=Int.toNat_of_nonneg oM;have:=Fw _ hk a.id.toNat oM oM;rw[e1] at this;exact this
theorem Gv:∀ k∈[1,3,5],∀ a,a<91→dL (a:Nat) k≤300:=by decide +kernel
theorem Dj (kd:Int)(ls:List (List Int))(y:Int):∀ c∈jO kd ls y,gn c.id:=by
 intro c hc;have h0:=(qj kd ls y).pos c hc;obtain ⟨h1,h2⟩:=z8 (bF kd 8) ls y;have hk:zz y∈[(1:Int),3,5]:=by
  have:=aV (IntKind.i64.wrap (y.tdiv 7)) 3 dC dC;unfold zz;generalize bF (IntKind.i64.wrap (y.tdiv 7)) 3=q at *
  rcases (by omega:q=0∨q=1∨q=2) with rfl | rfl | rfl <;> decide
 obtain ⟨a,ha,rfl⟩:=nr (EA y) hc;have p1:=h1.pos a ha;have q1:=h2 a ha;have e1:((a.id.toNat:Nat):Int)=a.id:=Int.toNat_of_nonneg oM;have:=Gv _ hk a.id.toNat oM;rw[e1] at this;have h3:(ay (aC (zz y) (EA y) a)).id=dL a.id (zz y):=rfl;rw[h3] at h0 ⊢;unfold gn;omega
def part (l:List Cl)(p:Int→Bool):List Cl:=l.filter fun c=>p c.id
def uN (l:List Cl)(p:Int→Bool):Prop:=∀ c∈l,p c.id=true→∀ x∈c.sides,p x.cell=true
theorem oX {l:List Cl}(h:Rt l)(ids:List Int):uN l fun k=>(eu l ids).contains k:=by
 intro c hc hp x hx;have hm:c.id∈eu l ids:=by simpa using hp
 obtain ⟨id,hid,hr⟩:=(nO l ids c.id).1 hm;obtain ⟨d,hd,_⟩:=(h.form c hc).found x hx;have ha:jT l c.id=some (c.sides.map ai.cell):=by unfold jT; rw[h.find hc]; rfl
 have:x.cell∈eu l ids:=(nO l ids x.cell).2 ⟨id,hid,hr.snoc ha (ze6.2 ⟨x,hx,rfl⟩) (by unfold jT; rw[hd]; simp)⟩;simpa using this
section
variable {l:List Cl}(h:Rt l){p q:Int→Bool}(hp:uN l p)(hq:uN l q)
include h hp hq
end
end Go.Proofs.YtkbagdedfdfjhaaGreatDoor
