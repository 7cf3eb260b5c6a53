/- 15 -/
import Derived.Test.YtpmoadbbfobbcaaGreatDoorMe14
set_option linter.unusedSimpArgs false
set_option linter.unusedVariables false
set_option linter.defProp false
namespace Go.Proofs.YtpmoadbbfobbcaaGreatDoor
open _root_.Go.Proofs.Tryz _root_.Go.Proofs.YtpmoadbbfobbcaaGreatDoor.Tryz
open Go Go.Sy Go.Pl Go.Proofs
set_option maxHeartbeats 1000000
def oV (ml:List<|Int×Int)(q:ak):List<|Int×Int:=fQ ml q.cell 1
def j9 (tl:List Cl)(l:List ak):List<|Int×Int:=l.foldl (fun ml x=>(az tl x).foldl oV ml) []
theorem sz (r:Int):∀ (l:List ak) (a:List<|Int×Int),ff (l.foldl oV a) r=ff a r+((l.filter fun q=>decide<|q.cell=r).length:Int)
 | [],a=>by simp
 | q::l,a=>by
  rw[zi9,sz r l,oV,vM];by_cases h:r=q.cell
  ·rw[zg2 h,List.filter_cons_of_pos<|by simpa using h.symm,ze9];omega
  ·rw[zg1 h,List.filter_cons_of_neg<|by simpa using fun e:q.cell=r=>h e.symm];omega
theorem DI (tl:List Cl)(l:List ak)(r:Int):ff (j9 tl l) r=(cntR tl l r:Int):=by
 have:∀ (l:List ak) (a:List<|Int×Int),ff (l.foldl (fun ml x=>(az tl x).foldl oV ml) a) r=ff a r+(cntR tl l r:Int):=by
  intro l;induction l with
  | nil=>intro a;simp[cntR]
  | cons x q ih =>
   intro a;rw[zi9,ih,sz];unfold cntR lg;rw[zg5,List.sum_cons];omega
 have h:=this l [];unfold j9;rw[h];show 0+_=_;omega
theorem BN {b ml:List<|Int×Int}(h:ml.map Prod.fst=b.map Prod.fst)(k x y:Int):(fQ ml k y).map Prod.fst=(fQ b k x).map Prod.fst:=by
 have c:∀ b:List (Int×Int),b.any (fun p=>decide<|p.1=k)=(b.map Prod.fst).any (fun a=>decide<|a=k):=fun b=>by rw[List.any_map];rfl
 rw[qe,qe,c,c,h]
theorem vH (tl:List Cl)(l:List ak):(j9 tl l).map Prod.fst=(fU tl l).map Prod.fst:=by
 have inner:∀ (x:ak) (l:List ak) (a ml:List<|Int×Int),ml.map Prod.fst=a.map Prod.fst→(l.foldl oV ml).map Prod.fst=(l.foldl (j8 x) a).map Prod.fst:=by
  intro x l;induction l with
  | nil=>intro _ _ h;exact h
  | cons q l ih=>intro a ml h;exact ih _ _<|BN h _ _ _
 have outer:∀ (l:List ak) (a ml:List<|Int×Int),ml.map Prod.fst=a.map Prod.fst→(l.foldl (fun ml x=>(az tl x).foldl oV ml) ml).map Prod.fst=(l.foldl (fun a x=>(az tl x).foldl (j8 x) a) a).map Prod.fst:=by
  intro l;induction l with
  | nil=>intro _ _ h;exact h
  | cons x l ih=>intro a ml h;exact ih _ _<|inner x _ _ _ h
 exact outer l [] [] I
theorem Az:∀ {ml:List<|Int×Int} {k:Int},(∀ p∈ml,1≤p.2)→∀ p∈fQ ml k 1,1≤p.2
 | [],k,_=>fun p hp=>by simp[fQ] at hp;subst hp;exact Int.le_refl _
 | (a,z)::r,k,h=>by
  have b:=h (a,z) dO;have c:∀ p∈r,1≤p.2:=fun p hp=>h p<|List.mem_cons_of_mem _ hp;simp only[fQ];split
  ·intro p hp
   rcases zf2.1 hp with rfl | hp
   ·dsimp only at b ⊢;omega
   ·exact c p hp
  ·intro p hp
   rcases zf2.1 hp with rfl | hp
   ·exact b
   ·exact Az c p hp
theorem EX (tl:List Cl)(l:List ak):∀ p∈j9 tl l,1≤p.2:=by
 have inner:∀ (l:List ak) (ml:List<|Int×Int),(∀ p∈ml,1≤p.2)→∀ p∈l.foldl oV ml,1≤p.2:=by
  intro l;induction l with
  | nil=>intro _ h;exact h
  | cons q l ih=>intro ml h;exact ih _<|Az h
 have outer:∀ (l:List ak) (ml:List<|Int×Int),(∀ p∈ml,1≤p.2)→∀ p∈l.foldl (fun ml x=>(az tl x).foldl oV ml) ml,1≤p.2:=by
  intro l;induction l with
  | nil=>intro _ h;exact h
  | cons x l ih=>intro ml h;exact ih _<|inner _ _ h
 exact outer l [] dO
theorem Bg (tl:List Cl)(l:List ak):((j9 tl l).map Prod.fst).Nodup:=by rw[vH];exact lB tl l
def nh (tl:List Cl)(l:List ak):Bool:=(fU tl l).any fun p=>decide (p.2≠0)||decide (ff (j9 tl l) p.1≠2)
theorem wt (tl:List Cl)(l:List ak):nh tl l=false↔(∀ r,zr tl l r=0)∧∀ r,cntR tl l r=0∨cntR tl l r=2:=by
 have hz:=o6 tl l;have hm:=DI tl l;have g:=vH tl l;unfold nh;constructor
 ·intro h;rw[zk6] at h;refine⟨hz.1 (zk6.2 fun p hp=>?_),fun r=>?_⟩
  ·have:=h p hp;simp at this ⊢;exact this.1
  ·by_cases i:cntR tl l r=0
   ·exact .inl i
   ·have b:ff (j9 tl l) r≠0:=by rw[hm];omega
    obtain ⟨q,hq,c,_⟩:=px b;have d:r∈(fU tl l).map Prod.fst:=by rw[← g];exact zf3.2 ⟨q,hq,c⟩
    obtain ⟨p,hp,rfl⟩:=zf3.1 d;have a:=h p hp;simp at a;have e:=a.2;rw[hm] at e;right;omega
 ·rintro ⟨b,d⟩;rw[zk6];intro p hp;have a:=zk6.1 (hz.2 b) p hp;have e:p.1∈(j9 tl l).map Prod.fst:=by rw[g];exact zf3.2 ⟨p,hp,I⟩
  obtain ⟨q,hq,f⟩:=zf3.1 e;have m:=EX tl l q hq;have j:=oy (Bg tl l) q hq;rw[f,hm] at j;have n:=d p.1;have k:ff (j9 tl l) p.1=2:=by rw[hm];omega
  simp at a ⊢;exact⟨a,k⟩
def rv:List (Int×Int)→Int→Option Int
 | [],_=>none
 | (a,z)::r,k=>if k=a then some z else rv r k
theorem z6 {k i:Int}(r:Int):∀ {F:List<|Int×Int},rv F k=none→rv (F++[(k,i)]) r=if r=k then some i else rv F r
 | [],_=>rfl
 | (a,z)::F,h=>by
  simp only[rv] at h;split at h
  ·cases h
  ·rename_i b;rw[List.cons_append];simp only[rv];by_cases hr:r=a
   ·rw[zg2 hr,zg1 oM];rw[zg2 hr]
   ·rw[zg1 hr,zg1 hr,z6 r h]
structure AF (tl:List Cl)(l:List ak)(J:List Int):Prop where
 len:J.length=l.length
 low:∀ (i:Nat) (v:Int),J[i]?=some v→0≤v∧v≤i
 link:∀ (i:Nat) (v:Int) (x y:ak),J[i]?=some v→l[i]?=some x→l[v.toNat]?=some y→Cn (lE tl l) x.cell y.cell
def HL (tl:List Cl)(l:List ak)(F:List<|Int×Int):Prop:=∀ r k,rv F r=some k→∃ n:Nat,k=n∧∃ x,l[n]?=some x∧0<lg tl x r
def xP (tl:List Cl)(l:List ak)(F:List<|Int×Int)(J:List Int)(m:Nat):Prop:=∀ (i:Nat) (x:ak),i<m→l[i]?=some x→∀ q∈az tl x,∃ n:Nat,rv F q.cell=some (n:Int)∧J[i]?=J[n]?
variable {A B tl:List Cl}{J:List Int}
theorem tU {x:ak}{r:Int}:0<lg tl x r↔∃ q∈az tl x,q.cell=r:=by
 unfold lg;rw[List.length_pos_iff_exists_mem];constructor
 ·rintro ⟨q,hq⟩;obtain ⟨a,b⟩:=zh5.1 hq;exact⟨q,a,zg4 b⟩
 ·rintro ⟨q,a,b⟩;exact⟨q,zh5.2 ⟨a,zf9 b⟩⟩
theorem AF.start (tl:List Cl)(l:List ak):AF tl l ((List.range l.length).map fun i:Nat=>(i:Int)):=by
 have hg:∀ (i:Nat) (v:Int),((List.range l.length).map fun i:Nat=>(i:Int))[i]?=some v→v=i:=fun i v h=>by
  rw[zi1] at h;by_cases a:i<l.length
  ·rw[List.getElem?_range a] at h;simp at h;exact h.symm
  ·rw[List.getElem?_eq_none (by simpa using a)] at h;cases h
 refine⟨by simp,fun i v h=>by rw[hg i v h];omega,fun i v x y h c b=>?_⟩;rw[hg i v h,Int.toNat_natCast,c] at b;cases b;exact .refl _
theorem xr {v a:Int}:∀ {J:List Int} {i:Nat},J[i]?=some a→(J.set i v).sum=J.sum+(v - a)
 | [],_,h=>by simp at h
 | b::J,0,h=>by
  simp at h;subst h;simp only[List.set_cons_zero,List.sum_cons];omega
 | b::J,i+1,h=>by
  have ih:=xr (J:=J) (i:=i) (v:=v) (a:=a) (by simpa using h);simp only[List.set_cons_succ,List.sum_cons];omega
theorem Ci (h:∀ (i:Nat) (v:Int),J[i]?=some v→0≤v):0≤J.sum:=by
 induction J with
 | nil=>exact Int.le_refl _
 | cons a J ih =>
  have c:=h 0 a rfl;have d:=ih fun i v b=>h (i+1) v (by simpa using b);rw[List.sum_cons];omega
theorem AF.upd {l:List ak}(h:AF tl l J){i k:Nat}{x y:ak}{a b r:Int}(s:l[i]?=some x)(t:l[k]?=some y)(hr:0<lg tl x r)(z:0<lg tl y r)(m:J[i]?=some a)(hb:J[k]?=some b)(F:min a b<max a b) :
  AF tl l ((J.set i<|min a b).set k<|min a b)∧((J.set i<|min a b).set k<|min a b).sum<J.sum:=by
 have A:i≠k:=fun e=>by subst e;rw[m] at hb;cases hb;omega
 have B:i<J.length:=(zf6.1 m).1;have C:k<J.length:=(zf6.1 hb).1;have n:Cn (lE tl l) x.cell y.cell:=.one ⟨x,zg3 s,y,zg3 t,rfl,rfl,r,hr,z⟩;have G:=h.low i a m;have H:=h.low k b hb;have hm:min a b=a∨min a b=b:=oM;have d:∀ (j:Nat) (v:Int),((J.set i<|min a b).set k<|min a b)[j]?=some v→((j=i∨j=k)∧v=min a b)∨(j≠i∧j≠k∧J[j]?=some v):=fun j v c=>by
  by_cases g:j=k
  ·subst g;rw[List.getElem?_set_self (by rw[zi4];exact C)] at c;exact .inl ⟨.inr I,by injection c with c;exact c.symm⟩
  ·rw[List.getElem?_set_ne (fun e=>g e.symm)] at c;by_cases D:j=i
   ·subst D;rw[List.getElem?_set_self B] at c;exact .inl ⟨.inl I,by injection c with c;exact c.symm⟩
   ·rw[List.getElem?_set_ne (fun e=>D e.symm)] at c;exact .inr ⟨D,g,c⟩
 refine⟨⟨by rw[zi4,zi4];exact h.len,fun j v c=>?_,fun j v u w c o p=>?_⟩,?_⟩
 ·rcases d j v c with ⟨g | g,rfl⟩ | ⟨_,_,E⟩
  ·omega
  ·omega
  ·exact h.low j v E
 ·rcases d j v c with ⟨g,rfl⟩ | ⟨_,_,E⟩
  ·have f:Cn (lE tl l) x.cell w.cell∧Cn (lE tl l) y.cell w.cell:=by
    rcases hm with e | e
    ·rw[e] at p;have q:=h.link i a x w m s p;exact⟨q,n.symm.trans q⟩
    ·rw[e] at p;have q:=h.link k b y w hb t p;exact⟨n.trans q,q⟩
   rcases g with rfl | rfl
   ·rw[s] at o;cases o;exact f.1
   ·rw[t] at o;cases o;exact f.2
  ·exact h.link j v u w E o p
 ·rw[xr (a:=b)<|by rw[List.getElem?_set_ne A];exact hb,xr m];omega
theorem DE {l:List ak}{F:List<|Int×Int}(h:AF tl l J)(hF:xP tl l F J l.length)(hn:(l.map ak.cell).Nodup) :
  J.any (fun v=>decide<|v>0)=false↔∀ x∈l,∀ y∈l,Cn (lE tl l) x.cell y.cell:=by
 have g:∀ {i j:Nat} {x y:ak},l[i]?=some x→l[j]?=some y→x.cell=y.cell→i=j:=fun {i j x y} k u e=>by
  have s:(l.map ak.cell)[i]?=some x.cell:=by rw[zi1,k];rfl
  have C:(l.map ak.cell)[j]?=some x.cell:=by rw[zi1,u,e];rfl
  obtain ⟨i1,Q⟩:=zf6.1 s;obtain ⟨R,S⟩:=zf6.1 C;have key:∀ {a b:Nat} (T:a<(l.map ak.cell).length) (hb:b<(l.map ak.cell).length),a<b→(l.map ak.cell)[a]≠(l.map ak.cell)[b]:=fun {a b} T hb D=>zd1.1 hn a b T hb D
  rcases Nat.lt_trichotomy i j with p | p | p
  ·exact absurd (Q.trans S.symm)<|key i1 R p
  ·exact p
  ·exact absurd (S.trans Q.symm)<|key R i1 p
 constructor
 ·intro E x G y H;rw[zk6] at E;obtain ⟨i,k,rfl⟩:=zc8 G;obtain ⟨j,u,rfl⟩:=zc8 H;have key:∀ (i:Nat) (k:i<l.length),J[i]?=some 0:=fun i k=>by
   have s:i<J.length:=by rw[h.len];exact k
   have C:=h.low i J[i]<|bd s;have p:=E J[i]<|gM s;rw[bd s];simp at p;exact ze3 some oM
  have o:0<l.length:=oM;have c1:=h.link i 0 l[i] l[0] (key i k) (bd k)<|bd o;have c2:=h.link j 0 l[j] l[0] (key j u) (bd u)<|bd o;exact c1.trans c2.symm
 ·intro z;have one:∀ {a b:Int},lE tl l a b→∃ (i j:Nat) (x y:ak),l[i]?=some x∧l[j]?=some y∧x.cell=a∧y.cell=b∧J[i]?=J[j]?:=by
   rintro a b ⟨x,G,y,H,rfl,rfl,r,p,K⟩;obtain ⟨i,k,rfl⟩:=zc8 G;obtain ⟨j,u,rfl⟩:=zc8 H;obtain ⟨q,hq,L⟩:=tU.1 p;obtain ⟨V,M,A⟩:=tU.1 K;obtain ⟨n,U,W⟩:=hF i l[i] k (bd k) q hq;obtain ⟨m,m1,m2⟩:=hF j l[j] u (bd u) V M;rw[L] at U;rw[A,U] at m1;injection m1 with m1
   have N:n=m:=oM;subst N;exact⟨i,j,l[i],l[j],bd k,bd u,I,I,W.trans m2.symm⟩
  have key:∀ {a b:Int},Cn (lE tl l) a b→a=b∨∃ (i j:Nat) (x y:ak),l[i]?=some x∧l[j]?=some y∧x.cell=a∧y.cell=b∧J[i]?=J[j]?:=by
   intro a b hc;induction hc with
   | refl _=>exact .inl rfl
   | @step a' b' c' e _ ih =>
    have s:∃ (i j:Nat) (x y:ak),l[i]?=some x∧l[j]?=some y∧x.cell=a'∧y.cell=b'∧J[i]?=J[j]?:=by
     rcases e with e | e
     ·exact one e
     ·obtain ⟨i,j,x,y,a,b,c,d,f⟩:=one e;exact⟨j,i,y,x,b,a,d,c,f.symm⟩
    rcases ih with rfl | ⟨i2,X,x2,Y,a2,Z,c2,d2,f2⟩
    ·exact .inr s
    ·obtain ⟨i,j,x,y,a,b,c,d,f⟩:=s;have O:=g b a2<|d.trans c2.symm;subst O;exact .inr ⟨i,X,x,Y,a,Z,c,d2,f.trans f2⟩
  rw[zk6];intro v hv;obtain ⟨i,k,rfl⟩:=zc8 hv;have w:i<l.length:=by rw[← h.len];exact k
  have o:0<l.length:=oM;have B:0<J.length:=oM;have E:=h.low 0 J[0]<|bd B;have P:J[0]=0:=oM;have t:J[i]?=J[0]?:=by
   rcases key (z l[i] (gM w) l[0]<|gM o) with e | ⟨a,b,x,y,s,C,p,K,h5⟩
   ·rw[g (bd w) (bd o) e]
   ·have ea:=g s (bd w) p;have eb:=g C (bd o) K;subst ea eb;exact h5
  rw[bd k,bd B,P] at t;injection t with t
  rw[t];decide
theorem Dl {c:Cl}{F:List<|Int×Int}(i:0<c.sides.length)(hn:(c.sides.map ak.cell).Nodup)(hb:nh tl c.sides=false)(h:AF tl c.sides J)(hF:xP tl c.sides F J c.sides.length) :
  J.any (fun v=>decide<|v>0)=decide (bM tl c≠0):=by
 have a:=kZ (tl:=tl) i hn;have b:=(wt tl c.sides).1 hb;have d:=DE h hF hn;cases f:J.any (fun v=>decide<|v>0) with
 | false=>exact (zf8<|Decidable.not_not.2<|a.2 ⟨b.1,b.2,d.1 f⟩).symm
 | true =>
  have j:bM tl c≠0:=fun e=>by
   have g:=d.2 (a.1 e).2.2;rw[f] at g;cases g
  exact (zf9 j).symm
theorem EO {c:Cl}(b:0<c.sides.length)(hn:(c.sides.map ak.cell).Nodup)(hb:nh tl c.sides=true):bM tl c≠0:=fun e=>by
 have a:=(kZ (tl:=tl) b hn).1 e;rw[(wt tl c.sides).2 ⟨a.1,a.2.1⟩] at hb;cases hb
section
variable {W:List Cl}(hW:Rt W){p q:Int→Bool}(hp:ez W p)(hq:ez W q)(hc:∀ c∈W,(p c.id||q c.id)=true)
include hW hp hq hc
end
structure Grown (A:List Cl)(lo:Int)(m:Nat)(G:List Cl):Prop where
 rt:Rt G
 more:∃ N,G=A++N∧N.length≤m∧∀ n∈N,lo≤n.id∧n.id<lo+m
theorem CF {α:Type}{p q:α→Bool}(h:∀ x,p x=true→q x=false):∀ l:List α,(l.filter fun x=>p x||q x).length=(l.filter p).length+(l.filter q).length
 | []=>rfl
 | x::l=>by
  have ih:=CF h l;have a:=h x;simp only[zi8];cases hp:p x <;> cases hq:q x <;> simp_all <;> omega
theorem Ad {α:Type}(key:α→Int)(l:List α):∀ ds:List Int,ds.Nodup→(ds.flatMap fun d=>l.filter fun x=>key x == d).length=(l.filter fun x=>decide<|key x∈ds).length
 | [],_=>by
  have:(l.filter fun x=>decide<|key x∈([]:List Int))=[]:=List.filter_eq_nil_iff.2 fun x _=>by simp
  rw[this];rfl
 | d::ds,h=>by
  obtain ⟨a,b⟩:=zk3.1 h;rw[zh6,ze6,Ad key l ds b,← CF (p:=fun x=>key x == d) (q:=fun x=>decide<|key x∈ds) (fun x c=>by
   have e:key x=d:=by simpa using c
   exact zf8<|by rw[e];exact a)]
  congr 1;refine List.filter_congr fun x _=>?_;rw[Bool.eq_iff_iff];simp
theorem qH {α:Type}(key:α→Int)(l:List α)(c:Int):∀ ds:List Int,ds.Nodup→(ds.flatMap fun d=>l.filter fun x=>key x == d).filter (fun x=>key x == c)=if c∈ds then l.filter (fun x=>key x == c) else []
 | [],_=>by simp
 | d::ds,h=>by
  obtain ⟨b,e⟩:=zk3.1 h;rw[zh6,zh7,qH key l c ds e,List.filter_filter];by_cases hc:c=d
  ·subst hc;rw[zg1 b,zg2 dO,zc7];exact List.filter_congr fun x _=>by cases key x == c <;> rfl
  ·have:l.filter (fun x=>key x == c&&key x == d)=[]:=List.filter_eq_nil_iff.2 fun x _=>by
    intro a;simp at a;exact hc<|a.1.symm.trans a.2
   rw[this,Ix];by_cases hm:c∈ds
   ·rw[zg2 hm,zg2<|by simp[hm]]
   ·rw[zg1 hm,zg1<|by simp[hm,hc]]
theorem vQ {α:Type}{key:α→Int}{l:List α}{ds:List Int}(k:ds.Pairwise (· < ·))(hl:∀ x∈l,key x∈ds):(ds.flatMap fun d=>l.filter fun x=>key x == d)=sortBy key l:=by
 have hn:ds.Nodup:=k.imp fun h=>by omega
 refine bl ?_ ⟨?_,fun c=>?_⟩
 ·unfold Srt;rw[List.pairwise_flatMap];refine⟨fun d _=>List.pairwise_of_forall_mem_list fun x f y g=>?_,k.imp fun {a b} m x f y g=>?_⟩
  ·have i:=(zh5.1 f).2;have j:=(zh5.1 g).2;simp at i j;omega
  ·have i:=(zh5.1 f).2;have j:=(zh5.1 g).2;simp at i j;omega
 ·rw[Ad key l ds hn,List.filter_eq_self.2 fun x f=>zf9<|hl x f]
 ·rw[qH key l c ds hn];by_cases hc:c∈ds
  ·rw[zg2 hc]
  ·rw[zg1 hc];exact (List.filter_eq_nil_iff.2 fun x f h=>hc (by
    have e:key x=c:=by simpa using h
    rw[← e];exact hl x f)).symm
def FZ (A B:List Cl)(d:Int):List Cl:=A.filter fun c=>decide (c.dim=d) && !cU A B c.id
def HI (A B:List Cl)(d:Int):List Cl:=B.filter fun c=>decide (c.dim=d) && !cU A B c.id
theorem Bp (hA:Rt A):o3 A B=(List.range 9).flatMap fun j:Nat=>FZ A B (8 - (j:Int)):=by
 unfold o3;rw[← vQ (key:=fun c:Cl=>-c.dim) (ds:=(List.range 9).map fun j:Nat=>(j:Int) - 8) dC (fun x a=>by
  have h:=(hA.form x (zh5.1 a).1).dim;refine zf3.2 ⟨(8 - x.dim).toNat,List.mem_range.2 oM,oM⟩)]
 rw[List.flatMap_map];congr 1;funext j;rw[List.filter_filter];refine List.filter_congr fun c _=>?_;rw[Bool.eq_iff_iff];simp;omega
theorem Dp (hB:Rt B):BV A B=(List.range 9).flatMap fun j:Nat=>HI A B (j:Int):=by
 unfold BV;rw[← vQ (key:=Cl.dim) (ds:=(List.range 9).map fun j:Nat=>(j:Int)) dC (fun x a=>by
  have h:=(hB.form x (zh5.1 a).1).dim;refine zf3.2 ⟨x.dim.toNat,List.mem_range.2 oM,oM⟩)]
 rw[List.flatMap_map];congr 1;funext j;rw[List.filter_filter];refine List.filter_congr fun c _=>?_;rw[Bool.eq_iff_iff];simp
theorem DR (hA:Rt A)(hB:Rt B):(eo A B).length≤A.length+B.length:=by
 have:=vW hA hB;omega
theorem sS (hB:Rt B):∀ e∈eo A B,EdS e:=fun e a=>by
 unfold eo at a
 rcases zf4.1 a with h | h
 ·obtain ⟨x,_,rfl⟩:=zf3.1 h;exact⟨by show (0:Nat)<1099511627776;decide,zf7 3⟩
 ·obtain ⟨x,b,rfl⟩:=zf3.1 h;have hm:=(zh5.1<|(er (key:=Cl.dim) _ x).1 b).1;have:=hB.few64 hm;exact⟨by show x.sides.length<_;omega,by show (0:Nat)≤3;omega⟩
theorem Fe (hB:Rt B):∀ e∈eo A B,e.sides.length<1099511627776∧(e.kind=1∨e.kind=2):=fun e a=>by
 refine⟨(sS hB e a).1,?_⟩;unfold eo at a
 rcases zf4.1 a with h | h
 ·obtain ⟨x,_,rfl⟩:=zf3.1 h;exact .inr I
 ·obtain ⟨x,_,rfl⟩:=zf3.1 h;exact .inl I
theorem qJ (hB:Rt B):∀ e∈eo A B,e.sides.length<1099511627776∧e.pairs=[]:=fun e a=>by
 refine⟨(sS hB e a).1,?_⟩;unfold eo at a
 rcases zf4.1 a with h | h
 ·obtain ⟨x,_,rfl⟩:=zf3.1 h;rfl
 ·obtain ⟨x,_,rfl⟩:=zf3.1 h;rfl
end Go.Proofs.YtpmoadbbfobbcaaGreatDoor
namespace Go.Sy
open Go
variable {P:Program}{Q:Exit→Act→World→Prop}{c:Code}{M:Md}{N:Nat}{E:World}{f:Fr}{g:PH}{s:Own}
section
variable {b:Frame}{a:Act}{k:List Item}{cs:List Frame}{w:World}
theorem ft:step P (lone (b.atR a<|.code (.scope c)::k) cs w) = .next (lone (b.atR a<|.code c :: .inScope c::k) cs w) :=
 step_lone_go (by simp[stepG,stepG.exec,Frame.atR])
theorem rD:step P (lone (b.atR a<|.inScope c::k) cs w) = .next (lone (b.atR a k) cs w) :=
 step_lone_go (by simp[stepG,stepG.exec,Frame.atR])
theorem xQ {F:Fence}{n:Nat}(h:c.wpIn F n P (Exit.noGoto Q) a w):(Code.scope c).wpIn F n P Q a w:=by
 intro b k cs j hb hr;have f:(lone (b.atR a<|.code (.scope c)::k) cs w).fenced P F:=fenced_calm hb hr rfl;obtain ⟨e,g,i,hq,d⟩:=h b (.inScope c::k) cs j hb hr;cases e with
 | normal=>exact⟨.normal,g,i,hq,.head f ft<|StepsIn.trans d<|.one (fenced_calm hb hr rfl) rD⟩
 | exit id =>
  have p:exitTo id (.inScope c::k)=exitTo id k:=by simp[exitTo]
  exact⟨.exit id,g,i,hq,fun q m=>.head f ft<|d.1 q<|by rw[p];exact m,
   fun o m=>let ⟨k₁,r,s⟩:=d.2 o (by rw[p];exact m);⟨k₁,r,.head f ft s⟩⟩
 | goto l=>exact hq.elim
 | ret=>exact⟨_,g,i,hq,.of_steps (.one f ft) d⟩
 | panic ch=>exact⟨_,g,i,hq,.of_steps (.one f ft) d⟩
 | outgrown=>exact⟨_,g,i,hq,.of_steps (.one f ft) d⟩
end
theorem XC.scope (h:XC P M N E c (Exit.noGoto Q) f g s):XC P M N E (.scope c) Q f g s:=fun a w b d=>xQ<|h a w b d
theorem XT.scopeR (h:XT M N E Q .ret f g s):XT M N E (Exit.noGoto Q) .ret f g s:=h
def FM (P:Program)(E:World)(gf:FuncId)(lb:List Value){α:Type}(encs:α→List Value)(T:List α→α→Prop)(R:List α→Prop)(g0:PH):Prop :=
 ∀ (l:Nat) (ι:Type) (G:ι→PH) (S:ι→Own) (J:List α→ι→Prop) (i0:ι),J [] i0→(∀ pre i,J pre i→Le g0 (G i))→(∀ pre i g',J pre i→Le (G i) g'→∃ i',J pre i'∧G i'=g'∧S i'=S i) →
  (∀ pre x i sx,T pre x→J pre i→xN P E l (encs x).toArray (G i) (S i++sx) (fun v g' s'=>v = .bool true∧∃ j,J (pre++[x]) j∧Le (G i) (G j)∧g'=G j∧s'=S j++sx)) →
  ∀ sx,Ctr P E gf (.func (.yield l) #[] #[]::lb).toArray (G i0) (S i0++sx) (fun _ g' s'=>∃ xs j,R xs∧J xs j∧g'=G j∧s'=S j++sx)
section
variable {dst:Option Tmp}{ty:TypeId}{pos:String}{af:Array Edge}{gd:Option<|Nat×Bool}
theorem XC.rangeFuncP {α ι κ:Type}{A:Operand}{ps:Array Tmp}{assign body:Code}{B:FuncId}{C:List Value}{encs:α→List Value}{T:List α→α→Prop}{R:List α→Prop}{g0:PH}(G:ι→PH)(S:ι→Own)(J:List α→ι→Prop)(i0:ι)(c:Own)(fa:α→Fr)(fb:List α→α→ι→κ→Fr)(X:α→κ→Own)
  (b1:M.ro=none) (hg:ev f A=some (.func (.func B) #[] C.toArray)) (eg:∀ args w,(callFunc B args).run P w = .ok (.enter B args) w) (b2:∀ x,(encs x).length=ps.size)
  (hG:G i0=g) (hS:S i0++c=s) (a0:FM P E B C encs T R g0) (F:∀ pre i,J pre i→Le g0 (G i)) (b3:∀ pre i g',J pre i→Le (G i) g'→∃ i',J pre i'∧G i'=g'∧S i'=S i) (h0:J [] i0)
  (b4:∀ x a,Ok N f (jW a)→Ok N (fa x) { tmps:=(ps.zip (encs x).toArray).foldl (fun t (p,v)=>t.setIfInBounds p v) a.tmps,defers:=[] })
  (o:∀ l pre x i z,J pre i→XC P ⟨some l,[]⟩ N E assign (nE (N:=N) E (G i) (S i++z) (fb pre x i)<|X x) (fa x) (G i) (S i++z))
  (H:∀ l pre x i z q,(∃ (r:Loop) (k:Nat),z[k]?=some (pt l<|.loop r))→T pre x→J pre i→XC P ⟨some l,[]⟩ N E body (qf E G S J pre x (G i) z) (fb pre x i q) (G i) (X x q++(S i++z)))
  (K:∀ D xs j,R xs→J xs j→XT ⟨none,⟨.collected D,#[]⟩::M.ds⟩ N E Q .normal f (G j) (pt D (.deferred<|some [])::(S j++c))):XC P M N E (.rangeFunc A ps assign body) Q f g s:=by
 subst hG hS;intro a w ha hw;rw[b1];refine wpIn_rangeFunc ?_;intro fn _;obtain ⟨rec,b⟩:∃ rec:LoopState→Option Code→Loop,rec=fun st pe=>{ state:=st,pending:=pe,fn,tmps:=a.tmps,params:=ps,assign,body,defers:=w.heap.size }:=⟨_,rfl⟩;obtain ⟨L,hL⟩:∃ L,L=w.heap.size+1:=⟨_,rfl⟩;obtain ⟨D,hD⟩:∃ D,D=w.heap.size:=⟨_,rfl⟩;obtain ⟨W1,a4⟩:∃ W1,(w.alloc<|.deferred<|some []).alloc (.loop<|rec .ready none)=W1:=⟨_,rfl⟩;have hA:At E (G i0) (pt L (.loop<|rec .ready none)::pt D (.deferred<|some [])::(S i0++c)) W1:=by
  rw[← a4,hL,hD];have O:At E (G i0) (pt w.heap.size (.deferred<|some [])::(S i0++c))<|w.alloc<|.deferred<|some []:=hw.alloc (e:=pt w.heap.size<|.deferred<|some []) rfl rfl;have U:=O.alloc (e:=pt (w.alloc<|.deferred<|some []).heap.size<|.loop<|rec .ready none) rfl rfl;rw[World.size_alloc] at U;exact U
 obtain ⟨S2,y⟩:∃ S2:ι→Own,S2=fun i=>S i++(pt L (.loop<|rec .ready none)::pt D (.deferred<|some [])::c):=⟨_,rfl⟩;have b5:At E (G i0) (S2 i0++[]) W1:=by
  rw[y,zc7];dsimp only;refine hA.perm ?_;have O:(pt L (.loop<|rec .ready none)::pt D (.deferred<|some [])::(S i0++c))=[pt L<|.loop<|rec .ready none,pt D<|.deferred<|some []]++(S i0++c):=rfl;have U:S i0++(pt L (.loop<|rec .ready none)::pt D (.deferred<|some [])::c)=S i0++([pt L<|.loop<|rec .ready none,pt D<|.deferred<|some []]++c):=rfl;rw[O,U,← zg9,← zg9];exact List.perm_append_comm.append_right _
 refine⟨L,[{ target:=.collected D,args:=#[] }],W1,{ target:=.fn (.func B) C.toArray,args:=#[.func (.yield L) #[] #[]] },W1,B,(.func (.yield L) #[] #[]::C).toArray,W1,?_,?_,fun _ _=>trivial,?_,fun h=>(by cases h),?_⟩
 ·rw[← a4,b,hL,hD];exact run_enterLoop_outer _ _ _ _ _
 ·have O:a.eval A = .func (.func B) #[] C.toArray:=ha.ev hg;simp only[resolve,O];simp[go_sem]
 ·have:(#[.func (.yield L) #[] #[]]++C.toArray:Array Value)=(.func (.yield L) #[] #[]::C).toArray:=by simp
  simp[invoke,go_sem,eg]
 ·refine (callsIn_wide (n:=0 - 1)).2<|(a0 L ι G S2 J i0 h0 F (fun pre i g' hJ hl=>by obtain ⟨i',a1,a2,a3⟩:=b3 pre i g' hJ hl;exact⟨i',a1,a2,by rw[y];dsimp only;rw[a3]⟩) ?_ [] W1 b5).mono ?_
  ·intro pre x i z b6 hJ W hW;rw[y] at hW;simp only[zg9,List.cons_append] at hW;have c3:(S i).length=(S i).length:=rfl;have gl:∀ (i:ι) (u d:Ent) (r:Own),(S i++u::d::r)[(S i).length]?=some u:=fun i u d r=>by simp
   have hl:=hW.here<|gl i _ _ _;have hy:=run_yield (P:=P) (args:=(encs x).toArray) hl (by rw[b];simpa using b2 x);rw[b] at hy;refine⟨fn,_,assign,body,hy,roundIn_of_wpIn trivial ?_⟩;refine Code.wpIn_mono (fun e a1 w1 O=>?_)<|o L pre x i _ hJ { tmps:=(ps.zip (encs x).toArray).foldl (fun t (p,v)=>t.setIfInBounds p v) a.tmps,defers:=[] } W ⟨I,b4 x a ha.2⟩ hW;obtain ⟨rfl,q,b7,a5⟩:=O;have glX:∀ (X:Own) (i:ι) (u d:Ent) (r:Own),(X++(S i++u::d::r))[X.length+(S i).length]?=some u:=fun X i u d r=>by rw[zh4 oM,Nat.add_sub_cancel_left];exact gl i u d r
   have b8:=a5.here<|glX _ i _ _ _;refine⟨_,run_beginRound b8<|by rw[b],?_⟩;have m:∀ (i:ι) (u d v:Ent) (r:Own),(S i++u::d::r).set (S i).length v=S i++v::d::r:=fun i u d v r=>by simp
   have V:∀ (X:Own) (i:ι) (u d v:Ent) (r:Own),(X++(S i++u::d::r)).set (X.length+(S i).length) v=X++(S i++v::d::r):=fun X i u d v r=>by rw[List.set_append_right _ _ oM,Nat.add_sub_cancel_left,m]
   have a9:=a5.obj (o':=.loop { rec .ready none with state:=.busy })<|glX _ i _ _ _;rw[V] at a9;refine Code.wpIn_mono (fun e a3 w3 h3=>?_)<|H L pre x i _ q ⟨_,0,I⟩ b6 hJ a1 _ b7 a9;obtain ⟨rfl,j,b0,b9,c0⟩:=h3;have c1:=b0.here<|gl j _ _ _;have he:=run_endRound (P:=P) none c1;have Y:=b0.obj (o':=.loop { (rec .ready none) with state:=.ready,pending:=none })<|gl j _ _ _;rw[m] at Y;refine⟨_,_,he,.bool true,G j,S2 j++z,I,?_,I,j,b9,c0,I,I⟩;rw[y];simp only[zg9,List.cons_append];rw[b] at Y ⊢;exact Y
  ·rintro e W2 ⟨v,g',s',rfl,Z,xs,j,hR,hJ,rfl,rfl⟩;rw[y,zc7] at Z;have gl:∀ (i:ι) (u d:Ent) (r:Own),(S i++u::d::r)[(S i).length]?=some u:=fun i u d r=>by simp
   have hl:=Z.here<|gl j _ _ _;have he:=run_endLoop (P:=P) hl (by rw[b];simp);have U:=Z.obj (o':=.loop { (rec .ready none) with state:=.exhausted })<|gl j _ _ _;have m:∀ (i:ι) (u d v:Ent) (r:Own),(S i++u::d::r).set (S i).length v=S i++v::d::r:=fun i u d v r=>by simp
   rw[m] at U;have c2:(rec .ready none).pending=none:=by rw[b]
   refine⟨none,_,he.trans<|ze3 (fun p=>Result.ok p _) c2,?_⟩;refine K D xs j hR hJ _ _ ⟨by rw[← ha.1];rfl,ha.2⟩ ?_;have h3:=(U.sublist (s':=S j++pt D (.deferred<|some [])::c)<|by exact (zc4 _).append<|zj2 _ _).perm List.perm_middle;exact h3
end
section
variable {ops:Array Oper}{b:Nat}{o:Obj}
theorem XL.freeze {l:List Oper}(h:∀ g',Le g g'→g' b=some o→XL P M N E ops Q l f g' s):XL P M N E ops Q l f g<|pt b o::s:=fun a w e c=>by
 have d:=c.own (pt b o) dO;simp only[pt,Option.bind_some] at d;obtain ⟨i,j⟩:=c.freeze (b:=b) rfl d;exact h _ j (fw _ _ _) a w e i
theorem XC.freeze (h:∀ g',Le g g'→g' b=some o→XC P M N E c Q f g' s):XC P M N E c Q f g<|pt b o::s:=fun a w i d=>by
 have e:=d.own (pt b o) dO;simp only[pt,Option.bind_some] at e;obtain ⟨j,k⟩:=d.freeze (b:=b) rfl e;exact h _ k (fw _ _ _) a w i j
end
section
variable {ops:Array Oper}{g0:PH}{s0:Own}{tail:List Nat}{s':Own}{L:Array Bool}{n:Nat}
theorem XC.drawX {id:Nat}(tail:List Nat)(hm:P.follows .mixedOrders=true)(c:Region.noSelect ops=true)(i:oO ops=true)(h:SX P N E ops (Qx M.ds Q) g s tail (Array.replicate ops.size false) ops.size f g s):XC P M N E (.region id ops true) Q f g s:=by
 intro a w j k;have l:a=ext M.ds (jW a):=by
  obtain ⟨t,d⟩:=a;have hd:d=M.ds:=j.1;subst hd;simp[ext,jW]
 rw[l];exact wpIn_region_any hm<|jT i (fun e b w h=>h) _ _ _ _<|jg _ _ _ _ (S:=At E g s) (tail:=tail)<|h (jW a) { w with drawn:=w.drawn+1 } c (jE _) j.2 (k.drew _<|Nat.le_succ _) (fun _=>k.drew _<|Nat.le_succ _)
theorem SX.br4 (i j m p:Nat)(hr:Region.ready .any ops L=[i,j,m,p])(h:SB P N E ops Q g0 s0 tail L n i f g s)(r:SB P N E ops Q g0 s0 tail L n j f g s)(t:SB P N E ops Q g0 s0 tail L n m f g s)(u:SB P N E ops Q g0 s0 tail L n p f g s):SX P N E ops Q g0 s0 tail L (n+1) f g s:=by
 intro a w e b l o hb;refine⟨fun q=>(by rw[hr] at q;cases q),fun k d=>?_⟩;have c:=d;rw[hr] at c;simp only[zf2,zh8,List.not_mem_nil,or_false] at c
 rcases c with rfl | rfl | rfl | rfl
 ·exact h a w e b d l o hb
 ·exact r a w e b d l o hb
 ·exact t a w e b d l o hb
 ·exact u a w e b d l o hb
end
def JA:=@XC.freeze
def JB:=@XT.scopeR
end Go.Sy
namespace Go.Proofs.YtpmoadbbfobbcaaGreatDoor
open _root_.Go.Proofs.Tryz _root_.Go.Proofs.YtpmoadbbfobbcaaGreatDoor.Tryz
open Go Go.Sy Go.Pl Go.Proofs
set_option maxRecDepth 100000
set_option maxHeartbeats 4000000
theorem Tryz.mty57:MTy Tryz.prog 57 3 61<|.agg #[vi 0,vi 0,.slice none 0 0]:=⟨underlying57,underlying3,zl6⟩
theorem Tryz.sty146:STy Tryz.prog 146 57 1 8<|.map none:=⟨underlying146,⟨t57,by kernel_rfl,by kernel_rfl,by kernel_rfl,by kernel_rfl⟩,rfl,by decide⟩
theorem Tryz.sty115:STy Tryz.prog 115 29 1 24<|.agg #[.slice none 0 0]:=⟨underlying115,⟨t29,by kernel_rfl,by kernel_rfl,by kernel_rfl,by kernel_rfl⟩,rfl,by decide⟩
def mB (g:PH)(v:Value)(l:List Cl):Prop:=∃ m rs,v = .map (some m)∧Mp g m (rs.map au)∧ay (an g) l rs
theorem mB.mono {g g':PH}{v:Value}{l:List Cl}(h:mB g v l)(hl:Le g g'):mB g' v l:=by
 obtain ⟨m,rs,a,b,c⟩:=h;exact⟨m,rs,a,b.mono hl,c.mono fun _ _=>an.mono hl⟩
variable {K:List Int}{P:Program}{N:Nat}{f:Fr}{S:List Cl}
theorem SU.eqBB {dst:Option Tmp}{ty:TypeId}{pos:String}{af:Array Edge}{gd:Option<|Nat×Bool}{x y:Operand}{T U:TypeId}{a b:Bool}(d:P.underlying T=some .bool)(e:ev f x=some (vb a))(g:ev f y=some (vb b)) :
  SU P N ⟨dst,.binOp .eql T x y U,ty,pos,af,gd⟩ f<|vb<|a == b:=fun ac w c=>by
 have hg:(eqGuard .eql T x y (.bool a)<|.bool b).run P w = .ok () w:=by simp[eqGuard]
 have hb:=run_eql_bool (P:=P) w T a b d;simp only[execOp,c.ev e,c.ev g,Sem.run_bind,hg,zd2,hb];rfl
variable (E:World)(g:PH)(s:Own)
theorem He (v:Value)(l:List Cl)(a:ai g v l)(b:aM l) :
  Ctr Tryz.prog E 74 #[.agg #[v]] g s fun r g' s'=>r=vb (decide<|(aq l).2≠0)∧g=g'∧s=s':=by
 obtain ⟨q,d,rfl⟩:=a.form;refine zb2 (args:=[.agg #[.slice q l.length d]]) func74 I ntmps74 (bE I)<|rZ (bW (bO I) fun c=>?_);refine aT I<|rZ<|lK (qV 0 aj ae I I I)<|lW (bt call75 I<|nx E g _ _ l a b) ?_;rintro _ _ _ ⟨rfl,rfl,rfl⟩;exact lM I<|yX I<|yX I<|lA I<|aT I<|sW I<|lU (nQ I I)<|aT I<|rE<|dR (s':=s) uR<|za8 (.inl I) results74 I ⟨I,I,I⟩
theorem Bl (v:Value)(Ls:List<|List Cl)(a:List Sv)(j:SlA ec g v a)(x:ay (fun l sv=>ai g (.slice sv.p sv.n sv.c) l) Ls a)(z:∀ l∈Ls,aM l)(hl:Ls.length<1099511627776) :
  Ctr Tryz.prog E 125 #[v,.func (.func 74) #[] #[]] g s fun r g' s'=>(∃ n:Int,r=vi n∧decide (n≥0)=Ls.any fun l=>decide<|(aq l).2≠0)∧g=g'∧s=s':=by
 have y:=x.length;obtain ⟨p,c,rfl⟩:=za4 j;refine zb2 (args:=[.slice p a.length c,.func (.func 74) #[] #[]]) func125 I ntmps125 (bE I)<|rZ<|aT I<|sQ<|sW I<|lU (eN underlying115 I)<|lM I<|tZ<|bK<|oP (ι:=Nat) (fun k=>[(0,.slice p a.length c),(1,.func (.func 74) #[] #[]),(7,vi a.length),(8,vi k)]) (fun _=>g) (fun _=>s) (fun k=>k≤Ls.length∧(Ls.take k).any (fun l=>decide<|(aq l).2≠0)=false) (fun k=>Ls.length - k) 0
  sB rfl rfl ⟨zf7 _,by simp⟩ ?_
 rintro k ⟨A,e⟩;refine rZ<|yL I<|tZ<|sQ<|iP I (fun m=>?_) (fun m=>?_)
 ·have f:k<a.length:=oM;have b:k<Ls.length:=oM;have o:=za6 j oM;have t:a[((k:Nat):Int).toNat]?=some a[k]:=bd f;have u:=x.get (bd b)<|bd f;generalize a[k]=sv at *;obtain ⟨q,n,d⟩:=sv;refine kP<|tN<|sQ<|bK<|sW I<|aT I<|sW I<|lM I<|lM I<|lU (iA underlying115 ae I I o oM sL)<|lK (iN aj ae I (za7 j) t)<|lW (DO I I<|cQ.mk (cap:=[]) call74<|He E g _ _ Ls[k] u<|z _<|gM b) ?_;rintro _ _ _ ⟨rfl,rfl,rfl⟩;refine tZ<|iQ I (fun hq=>?_) (fun hq=>?_)
  ·refine sW I<|aT I<|rE<|bR<|tR<|tR<|bR<|tR ?_;have i:Ls.any (fun l=>decide<|(aq l).2≠0)=true:=zj9.2 ⟨Ls[k],gM b,hq⟩;exact za8 (.inl I) results125 I ⟨⟨k,I,by rw[i];simp⟩,I,I⟩
  ·exact kP<|bN<|tN<|rG<|yD I<|lM I<|cp<|ct (k+1) sB I I ⟨oM,by rw[tS b,List.any_append,e];simpa using hq⟩ oM
 ·refine xI<|tX<|tX<|bX<|tN<|rZ<|aT I<|rE ?_;have w:Ls.take k=Ls:=tL oM;rw[w] at e;exact za8 (.inl I) results125 I ⟨⟨-1,I,by rw[e];rfl⟩,rfl,rfl⟩
theorem uU (v:Value)(Ls:List<|List Cl)(a:List Sv)(b:SlA ec g v a)(d:ay (fun l sv=>ai g (.slice sv.p sv.n sv.c) l) Ls a)(e:∀ l∈Ls,aM l)(hl:Ls.length<1099511627776) :
  Ctr Tryz.prog E 73 #[v,.func (.func 74) #[] #[]] g s fun r g' s'=>r=vb (Ls.any fun l=>decide<|(aq l).2≠0)∧g=g'∧s=s':=by
 refine zb2 (args:=[v,.func (.func 74) #[] #[]]) func73 I ntmps73 (bE I)<|rZ<|aT I<|sW I<|lM I<|lW (bt call125 I<|Bl E g _ v Ls a b d e hl) ?_;rintro _ _ _ ⟨⟨n,rfl,hn⟩,rfl,rfl⟩;exact lU (gQ I I)<|aT I<|rE<|za8 (.inl I) results73 I ⟨by rw[hn],I,I⟩
theorem qx (v:Value)(Ls:List<|List Cl)(a:List Sv)(d:SlA ec g v a)(e:ay (fun l sv=>ai g (.slice sv.p sv.n sv.c) l) Ls a)(f:∀ l∈Ls,aM l)(hl:Ls.length<1099511627776)(hr:∀ l∈Ls,(aq l).2=0) :
  Ctr Tryz.prog E 20 #[v] g s fun r g' s'=>r=vb true∧g=g'∧s=s':=by
 have b:Ls.any (fun l=>decide<|(aq l).2≠0)=false:=zk6.2 fun l hl=>by simp[hr l hl]
 refine zb2 (args:=[v]) func20 I ntmps20 (bE I)<|rZ<|aT I<|sW I<|lW (bt call73 I<|uU E g _ v Ls a d e f hl) ?_;rintro _ _ _ ⟨rfl,rfl,rfl⟩;rw[b];exact lU (oF I)<|aT I<|rE<|za8 (.inl I) results20 I ⟨I,I,I⟩
theorem eR (v:Value)(l:List Cl)(L:ai g v l)(M:aM l)(f:((aa l).map Cl.id).Nodup) :
  Ctr Tryz.prog E 21 #[.agg #[v]] g s fun r g' s'=>s=s'∧Le g g'∧mB g' r (aa l):=by
 have y:=aF M;obtain ⟨pv,z,rfl⟩:=L.form;refine zb2 (args:=[.agg #[.slice pv l.length z]]) func21 I ntmps21 (bE I)<|rZ (bW (bO I) fun N=>?_);refine aT I<|rZ<|lW (Io) ?_;rintro _ _ _ ⟨t,rfl,rfl,rfl⟩;refine aT I<|sQ<|rZ<|lK (qV 1 aj ae I I I)<|lW (bt call24 I<|fm E g _ _ l L M) ?_;rintro _ g1 _ ⟨rfl,j,u,rfl,hc⟩;obtain ⟨rs,e,a⟩:=hc;obtain ⟨q,d,rfl⟩:=za4 e;refine lU (IJ dw I ei I I)<|lU (eN aB I)<|lM I<|tZ<|bK ?_;generalize aa l=A at *;have O:=a.length;have P:=y.1;have m:rs.map Rc.id=A.map Cl.id:=by
  refine List.ext_getElem? fun i=>?_;rw[zi1,zi1];by_cases w:i<A.length
  ·have n:i<rs.length:=oM;rw[bd w,bd n];exact ze3 some (a.get (bd w)<|bd n).1
  ·rw[List.getElem?_eq_none oM,List.getElem?_eq_none oM];rfl
 rw[← m] at f;refine oP (ι:=Nat) (fun i=>[(3,.map<|some t),(9,.slice q rs.length d),(10,vi rs.length),(11,vi i)]) (fun _=>g1)
  (fun i=>mp t ((rs.take i).map au)::pt N (bY #[.slice pv l.length z] 29)::s)
  (fun i=>i≤rs.length) (fun i=>rs.length - i) 0 sB rfl rfl (zf7 _) ?_
 rintro k W;refine rZ<|yL I<|tZ<|sQ<|iP I (fun B=>?_) (fun B=>?_)
 ·have o:k<rs.length:=oM;have C:=za6 e oM;have D:rs[((k:Nat):Int).toNat]?=some rs[k]:=bd o;have F:rs.take (k+1)=rs.take k++[rs[k]]:=tS o;have p:∀ x∈rs.take k,x.id≠rs[k].id:=fun x Q=>by
   obtain ⟨i,w,rfl⟩:=zc8 Q;have G:i<k:=by rw[ze5] at w;omega
   rw[List.getElem_take];have R:=zd1.1 (List.nodup_iff_pairwise_ne.1 f) i k (by rw[ze7];omega) (by rw[ze7];omega) G;simpa only[List.getElem_map] using R
  have b:=lc rs[k]<|rs.take k;rw[ku p,← F] at b;generalize rs[k]=x at *;obtain ⟨H,S,T,U,V⟩:=x;refine kP<|tN<|sQ<|bK<|rZ<|lU (iA aB ar I I C oM (show (k:Int)<((rs.length:Nat):Int) by omega))<|lK (iN dT ar I (za7 e) D) (bW (aL zl6) fun X=>?_);refine oZ (sK 0 ar I I I I I sB) ?_;refine tZ<|rG<|lM I<|lU (bj ap I zT3 I)<|lK (qL (v:=vi H) iT3 I<|cO 0 I I)<|lK (qV 0 dT ar I I I)<|lO (tn 1 mty57 I I I I) ?_;rintro _ _ _ ⟨rfl,rfl⟩;refine cp<|bN<|tN<|rG<|yD I<|lM I<|cp<|dR (s':=mp t (gS ((rs.take k).map au) H<|rcv ⟨H,S,⟨T,U,V⟩⟩)::pt N (bY #[.slice pv l.length z] 29)::s) (.cons _<|.refl _) ?_;rw[b];exact ct (k+1) sB I I oM oM
 ·have J:rs.take k=rs:=tL oM;rw[J];refine xI (tX<|tX<|bX<|tN<|sW I<|aT I<|rE<|Ju fun g2 c K=>?_);exact dR (s':=s) uR<|za8 (.inl I) results21 I ⟨I,j.trans c,t,rs,I,K,a.mono fun _ _=>an.mono c⟩
theorem zk {A B:List Cl}{id:Int}:eZ A B id=((ah A id).isSome == (ah B id).isSome&&decide (((ah A id).getD aJ).dim=((ah B id).getD aJ).dim)&&decide (((ah A id).getD aJ).sides=((ah B id).getD aJ).sides)):=by
 unfold eZ;cases a:ah A id with
 | none =>
  cases hb:ah B id with
  | none=>simp
  | some d=>simp
 | some c =>
  cases hb:ah B id with
  | none=>simp
  | some d =>
   have b:=(aC a).2;have e:=(aC hb).2;rw[Bool.eq_iff_iff];simp[BT,b,e]
theorem bB (v u:Value)(A B:List Cl)(id:Int)(N:mB g v A)(O:mB g u B)(hA:aM A) :
  Ctr Tryz.prog E 55 #[v,u,vi id] g s fun r g' s'=>r=vb (eZ A B id)∧g=g'∧s=s':=by
 obtain ⟨m,rs,rfl,hm,d⟩:=N;obtain ⟨m2,o,rfl,p,a⟩:=O;obtain ⟨⟨P,Q,q,t,w⟩,x,e,-,f,i⟩:=dQ d iw id;obtain ⟨⟨R,S,y,z,yc⟩,C,j,-,k,l⟩:=dQ a iw id;have D:=zk (A:=A) (B:=B) (id:=id);have F:((ah A id).getD aJ).sides.length<1099511627776:=by
  cases h:ah A id with
  | none=>simp[aJ]
  | some c=>exact hA.2 c (aC h).1
 have G:(eU (rs.map au) id).isSome=(ah A id).isSome:=e;have H:(eU (o.map au) id).isSome=(ah B id).isSome:=j;have J:Q=((ah A id).getD aJ).dim:=f;have K:S=((ah B id).getD aJ).dim:=k;have L:SlA encSide g (.slice q t w) ((ah A id).getD aJ).sides:=i;have M:SlA encSide g (.slice y z yc) ((ah B id).getD aJ).sides:=l;rw[D];clear e f i j k l;generalize (ah A id).isSome=a1 at *;generalize (ah B id).isSome=b1 at *;generalize (ah A id).getD aJ=X at *;generalize (ah B id).getD aJ=Y at *;subst J K;refine zb2 (args:=[.map<|some m,.map<|some m2,vi id]) func55 I ntmps55 (bE I)<|rZ<|aT I<|sW I<|lM I<|lK (SQ.eq (v':=.tuple #[.agg #[vi P,vi X.dim,.slice q t w],vb a1]) (qn mty57 I I<|bo.known hm)<|by rw[x,G];rfl) ?_;refine lM I (yX I<|yX I<|bW (aL zl6) fun T=>?_);refine oZ (sK 0 ar I I I I I sB)<|aT I<|sW I<|lM I<|lK (SQ.eq (v':=.tuple #[.agg #[vi R,vi Y.dim,.slice y z yc],vb b1]) (qn mty57 I I<|bo.known p)<|by rw[C,H];rfl) ?_;refine lM I (yX I<|yX I<|bW (aL zl6) fun U=>?_);refine oZ (sK 0 ar I I I I I sB)<|aT I ?_
 rcases Bool.eq_false_or_eq_true (a1 == b1) with b | b
 ·rcases Bool.eq_false_or_eq_true (decide<|X.dim=Y.dim) with n | n
  ·refine sW I<|lM I<|lU (SU.eq (v':=vb true) (SU.eqBB uT4 I I)<|ze3 vb b)<|lM I<|lY I I I (bj ap I zT3 I)<|lR (gT I I I dC) (qL (v:=vi X.dim) iT3 I<|cO 1 I I) dC<|lY I I I (bj ap I zT3 I)<|lR (gT I I I dC) (qL (v:=vi Y.dim) iT3 I<|cO 0 I I) dC<|lY I I I (SU.eq (v':=vb true) (eQ I I)<|ze3 vb n)<|yP I<|lM I<|lY I I I (bj ap I aI I)<|lR (gT I I I dC) (qL (v:=.slice q t w) bg I<|cO 1 I I) dC<|lY I I I (bj ap I aI I)<|lR (gT I I I dC) (qL (v:=.slice y z yc) bg I<|cO 0 I I) dC<|IQ (gT I I I dC) (bt call91 I<|sO E g _ _ _ X.sides Y.sides L M F) dC ?_;rintro _ _ _ ⟨rfl,rfl,rfl⟩;exact yP I<|aT I<|rE<|dR (s':=s) uR<|za8 (.inl I) results55 I ⟨by rw[b,n];rfl,rfl,rfl⟩
  ·exact sW I<|lM I<|lU (SU.eq (v':=vb true) (SU.eqBB uT4 I I)<|ze3 vb b)<|lM I<|lY I I I (bj ap I zT3 I)<|lR (gT I I I dC) (qL (v:=vi X.dim) iT3 I<|cO 1 I I) dC<|lY I I I (bj ap I zT3 I)<|lR (gT I I I dC) (qL (v:=vi Y.dim) iT3 I<|cO 0 I I) dC<|lY I I I (SU.eq (v':=vb false) (eQ I I)<|ze3 vb n)<|yP I<|lM I<|yA I<|yA I<|yA I<|yA I<|yA I<|yF I<|aT I<|rE<|dR (s':=s) uR<|za8 (.inl I) results55 I ⟨by rw[b,n];rfl,rfl,rfl⟩
 ·exact sW I<|lM I<|lU (SU.eq (v':=vb false) (SU.eqBB uT4 I I)<|ze3 vb b)<|lM I<|yA I<|yA I<|yA I<|yA I<|yA I<|yF I<|lM I<|yA I<|yA I<|yA I<|yA I<|yA I<|yF I<|aT I<|rE<|dR (s':=s) uR<|za8 (.inl I) results55 I ⟨by rw[b];rfl,rfl,rfl⟩
theorem XC.freezeMap {M:Md}{E:World}{Q:Exit→Act→World→Prop}{g:PH}{s:Own}{c:Code}{b:Nat}{l:List<|Int×Value}(h:∀ g',Le g g'→Mp g' b l→XC P M N E c Q f g' s):XC P M N E c Q f g<|mp b l::s:=fun a w d e=>by
 obtain ⟨g',i,j,k⟩:=e.freezeMap;exact h g' i k a w d j
def D9:Enc Nat 1:=⟨fun m=>[.map<|some m],fun _=>rfl,fun _ u hu=>by simp at hu;subst hu;rfl,by decide⟩
def D7 (K:List Int)(x:Int):List Int:=if K.contains x then K else K++[x]
theorem E2 {x y:Int}:y∈D7 K x↔y∈K∨y=x:=by
 unfold D7;split
 ·rename_i h;rw[List.contains_iff_mem] at h;exact⟨.inl,fun a=>a.elim id fun e=>e ▸ h⟩
 ·simp
theorem Bj (h:K.Nodup)(x:Int):(D7 K x).Nodup:=by
 unfold D7;split
 ·exact h
 ·rename_i c;exact List.nodup_append.2 ⟨h,by simp,fun a d b hb e=>by simp at hb;subst hb;subst e;exact c<|by simpa using d⟩
theorem EE (x:Int):gS (iU K) x (vb true)=iU (D7 K x):=by
 unfold D7;by_cases h:K.contains x=true
 ·rw[zg2 h];induction K with
  | nil=>simp at h
  | cons a K ih =>
   show (if x=a then (x,vb true)::iU K else (a,vb true)::gS (iU K) x (vb true))=_;by_cases e:x=a
   ·rw[zg2 e,e];rfl
   ·rw[zg1 e,ih<|by simpa [e] using h];rfl
 ·rw[zg1 h];exact tC (by simpa using h)
theorem o7 (K:List Int):(iU K).map Prod.fst=K:=by
 unfold iU;rw[zi6];exact List.map_id K
theorem si:∀ {l m:List Int},l.Nodup→(∀ x∈l,x∈m)→l.length≤m.length
 | [],_,_,_=>zf7 _
 | x::l,m,hn,h=>by
  rw[zk3] at hn;have b:=si (l:=l) (m:=m.erase x) hn.2 fun y a=>(List.mem_erase_of_ne<|fun e=>hn.1<|by rw[← e];exact a).2 (h y<|by simp[a]);rw[List.length_erase_of_mem<|h x<|by simp] at b;have:0<m.length:=List.length_pos_of_mem (h x<|by simp);rw[ze9];omega
theorem CN {a b:List Int}(f:a.Pairwise (· < ·))(hb:b.Pairwise (· < ·))(h:∀ x,x∈a↔x∈b):a=b:=by
 have c:a.Nodup:=f.imp fun h e=>by omega
 have d:b.Nodup:=hb.imp fun h e=>by omega
 exact ((List.perm_ext_iff_of_nodup c d).2 h).eq_of_pairwise (fun a b _ _ g i=>by omega) f hb
theorem AP {Ls:List<|List Cl}(hn:K.Nodup)(h:∀ x,x∈K↔∃ A∈Ls,∃ c∈A,c.id=x):fh K=iJ Ls:=by
 have hp:=rX K;refine CN (((kJ K).and<|hp.symm.nodup hn).imp fun h=>by have:=h.1;have:=h.2;omega) (oB Ls) fun x=>?_;rw[hp.mem_iff,h,As]
theorem zN {g:PH}{A:List Cl}{rs:List Rc}(h:ay (an g) A rs):(rs.map au).map Prod.fst=A.map Cl.id:=by
 rw[zi6];refine List.ext_getElem? fun i=>?_;rw[zi1,zi1];have hl:=h.length;by_cases b:i<A.length
 ·have a:i<rs.length:=oM;rw[bd b,bd a];exact ze3 some (h.get (bd b)<|bd a).1
 ·rw[List.getElem?_eq_none oM,List.getElem?_eq_none oM];rfl
theorem p8 (p:Option Addr)(n c:Nat) :
  Ctr Tryz.prog E 54 #[.slice p n c] g s fun r g' s'=>s=s'∧Le g g'∧∃ b,r = .func (.func 101) #[] #[pp b 0]∧g' b=some (bY #[.slice p n c] 146):=by
 refine zb2 (args:=[.slice p n c]) func54 I ntmps54 (bE I)<|rZ (bW (bO I) fun d=>?_);refine aT I (rZ<|lU (Ih I)<|aT I<|rE<|I6 fun g1 a hb=>?_);exact za8 (.inl I) results54 I ⟨I,a,_,I,hb⟩
theorem nz (E:World)(hE:E.drawn=0)(g0:PH)(b:Nat)(p:Option Addr)(c:Nat)(ms:List Nat)(Ls:List<|List Cl)(hb:g0 b=some (bY #[.slice p ms.length c] 146))(hv:SlA D9 g0 (.slice p ms.length c) ms)(ha:ay (fun L m=>mB g0 (.map<|some m) L) Ls ms)
  (hi:∀ L∈Ls,∀ x∈L,bh x.id) (hl:Ls.flatten.length<1000000) (d5:ms.length<1000) :
  FN Tryz.prog E 101 [pp b 0] (fun k:Int=>[vi k]) (iJ Ls) g0:=by
 intro y ι G S J i0 h0 F a5 hY sx;have d6:=ha.length;have H:=F _ _ h0;have a9:=H _ _ hb;have V:=za5 hv H;refine Jj (args:=[.func (.yield y) #[] #[],pp b 0]) func101 I ntmps101 (bE I)<|hX<|cu<|Ib (Io) dC ?_;rintro _ _ _ ⟨T,rfl,rfl,rfl⟩;refine ka (aS I) dC<|iF<|dr<|hX<|hX<|cu<|Ia (qL (v:=.slice p ms.length c) isAgg146 I<|ao.known a9 I) dC<|ka (eN underlying146 I) dC<|ka (mV I) dC<|iF<|dr<|uu<|XC.loop (ι:=Nat×List Int) (fun z=>[(0,.func (.yield y) #[] #[]),(3,.map<|some T),(10,.slice p ms.length c),(11,vi ms.length),(12,vi z.1)]) (fun _=>G i0) (fun z=>mp T (iU z.2)::(S i0++sx)) (fun z=>z.1≤Ls.length∧z.2.Nodup∧∀ x,x∈z.2↔∃ A∈Ls.take z.1,∃ c∈A,c.id=x) (fun z=>Ls.length - z.1) (0,[])
  sB rfl rfl ⟨zf7 _,by simp,by simp⟩ ?_
 rintro ⟨k,K⟩ ⟨hk,t,a⟩;dsimp only at hk t a ⊢;refine hX<|cu<|ka (lS I I) dC<|iF<|dr<|hX<|XC.ifP I (fun b0=>?_) (fun b0=>?_)
 ·have W:k<ms.length:=oM;have X:k<Ls.length:=oM;have b1:=za6 V oM;have b2:ms[((k:Nat):Int).toNat]?=some ms[k]:=bd W;have hT:=(ha.get (bd X)<|bd W).mono H;have b3:Ls.take (k+1)=Ls.take k++[Ls[k]]:=tS X;generalize Ls[k]=A at *;generalize ms[k]=m at *;obtain ⟨m',rs,b4,hm,g⟩:=hT;obtain rfl:m=m':=by injection b4 with h;injection h
  obtain ⟨es,clk,M,w⟩:=hm;refine Ip<|dr<|hX<|uu<|hX<|cu<|ka (iA underlying146 xh I I b1 oM sL) dC<|Ia (eB eE I (za7 V) b2 I) dC<|ka (aS I) dC<|iF<|dr<|hX<|cu<|ka (mV I) dC<|Ib (I4 underlying57 I M) dC ?_;rintro _ _ _ ⟨it,rfl,rfl,rfl⟩;refine iF<|dr<|uu<|XC.loop (ι:=List MapEntry×List (Int×Value)×List Int) (fun z=>[(0,.func (.yield y) #[] #[]),(3,.map<|some T),(10,.slice p ms.length c),(11,vi ms.length),(12,vi k),(17,pp it 0)]) (fun _=>G i0) (fun z=>iter it m es clk z.1::mp T (iU z.2.2)::(S i0++sx)) (fun z=>mC (rs.map au) es z.1 z.2.1∧z.2.2.Nodup∧∀ x,x∈z.2.2↔(∃ A∈Ls.take k,∃ c∈A,c.id=x)∨x∈z.2.1.map Prod.fst) (fun z=>rs.length - z.2.1.length) ([],[],K)
   sB rfl rfl ⟨mC.nil _ _,t,fun x=>by simpa using a x⟩ ?_
  rintro ⟨vis,vl,K2⟩ ⟨N,r,d⟩;dsimp only at N r d ⊢;have Y:=N.len w;simp only[ze7] at Y;refine hX<|cu<|Ib (I3 0 I I M w N) dC ?_;rintro _ _ _ ⟨rfl,O⟩
  rcases O with ⟨rfl,rfl,P⟩ | ⟨e,pr,he,b5,b6,b7,C,rfl,rfl⟩
  ·have Q:∀ x,x∈K2↔∃ A∈Ls.take (k+1),∃ c∈A,c.id=x:=fun x=>by
    rw[d,b3,(P.map Prod.fst).mem_iff,zN g];constructor
    ·rintro (⟨A',n,h2⟩ | h)
     ·exact⟨A',by simp[n],h2⟩
     ·obtain ⟨c,hc,e⟩:=zf3.1 h;exact⟨A,by simp,c,hc,e⟩
    ·rintro ⟨A',n,h2⟩
     rcases zf4.1 n with n | n
     ·exact .inl ⟨A',n,h2⟩
     ·simp at n;subst n;obtain ⟨c,hc,e⟩:=h2;exact .inr<|zf3.2 ⟨c,hc,e⟩
   exact ka (xT I I) dC<|iF<|dr<|hX<|Iy I<|JE<|IP<|IP<|Jn<|wc<|dr<|cu<|ka (aD I I oM) dC<|ka (mV I) dC<|iF<|IY (.cons _<|.refl _)<|JI (k+1,K2) sB I I ⟨by dsimp only;omega,r,Q⟩ (by dsimp only;omega)
  ·obtain ⟨x,hx,rfl⟩:=zf3.1 b5;obtain ⟨U,xd,xv⟩:=x;have b8:=C.len w;simp only[ze7,ze6,ze8] at b8;have Z:=EE (K:=K2) U;refine ka (xT I I) dC<|iF<|dr<|hX<|IF I<|Ip<|dr<|uu<|hX<|cu<|Ia (IL 0 I I M w he b6 b7) dC<|ka (xT I I) dC<|ka (aS I) dC<|iF<|dr<|cu<|ka (mV I) dC<|ka (mV I) dC<|ID (tn 1 mty80 I I I I) ?_;rintro _ _ _ ⟨rfl,rfl⟩;rw[show gS (iU K2) (au ⟨U,xd,xv⟩).1 (vb true)=iU (D7 K2 U) from Z];refine iF<|wc ?_;exact JI (vis++[e],vl++[au ⟨U,xd,xv⟩],D7 K2 U) sB I I ⟨C,Bj r U,fun z=>by
    dsimp only;rw[E2,d,zg6,zf4];simp only[zg5,List.map_nil,zh8,au];exact or_assoc⟩ (by dsimp only;simp only[ze6,ze8];omega)
 ·have c0:Ls.take k=Ls:=tL oM;rw[c0] at a;have a0:K.length<1099511627776:=by
   have n:=si (m:=Ls.flatten.map Cl.id) (l:=K) t fun x hx=>by
    obtain ⟨A,hA,c,hc,e⟩:=(a x).1 hx;exact zf3.2 ⟨c,List.mem_flatten.2 ⟨A,hA,hc⟩,e⟩
   rw[ze7] at n;omega
  have g:=AP t a;refine JE<|IP<|IP<|Jn<|dr<|hX<|XC.freezeMap fun g1 a1 c1=>?_;refine cu<|ka (mV I) dC<|Ib (bt call103 I<|DB E g1 _ T) dC ?_;rintro _ g2 _ ⟨rfl,D,bk,rfl,c2⟩;refine Ib (bt call102 I<|xW E hE g2 _ bk T (iU K) c2 (c1.mono D) (by rw[← ze7 (f:=Prod.fst),o7];exact a0) fun q hq=>by have n:q.1∈(iU K).map Prod.fst:=zf3.2 ⟨q,hq,I⟩;rw[o7] at n;obtain ⟨A,hA,c,hc,e⟩:=(a q.1).1 n;rw[← e];exact hi A hA c hc) dC ?_;rintro _ g3 _ ⟨rfl,a2,B⟩;rw[o7,g] at B;obtain ⟨q3,c3,rfl⟩:=za4 B;refine ka (eN aA I) dC<|ka (mV I) dC<|iF<|dr<|uu ?_;have R:=a1.trans<|D.trans a2;obtain ⟨i1,c4,a3,c5⟩:=a5 _ _ _ h0 R;refine XC.loop (ι:=ι×Nat) (fun z=>[(0,.func (.yield y) #[] #[]),(27,.slice q3 (iJ Ls).length c3),(28,vi (iJ Ls).length),(29,vi z.2)]) (fun z=>G z.1) (fun z=>S z.1++sx) (fun z=>z.2≤(iJ Ls).length∧Le g3 (G z.1)∧J ((iJ Ls).take z.2) z.1) (fun z=>(iJ Ls).length - z.2) (i1,0)
   sB a3 (by dsimp only;rw[c5]) ⟨zf7 _,by dsimp only;rw[a3];exact zb9 _,c4⟩ ?_
  rintro ⟨i,j⟩ ⟨hj,s,hJ⟩;dsimp only at hj s hJ ⊢;have d7:(iJ Ls).length<1099511627776:=by rw[← g,gN];exact a0
  refine hX<|cu<|ka (lS I I) dC<|iF<|dr<|hX<|XC.ifP I (fun c6=>?_) (fun c6=>?_)
  ·have a4:j<(iJ Ls).length:=oM;have c7:=za6 B oM;have c9:(iJ Ls)[((j:Nat):Int).toNat]?=some (iJ Ls)[j]:=bd a4;have d0:(iJ Ls).take (j+1)=(iJ Ls).take j++[(iJ Ls)[j]]:=tS a4;have d1:iJ Ls=(iJ Ls).take j++(iJ Ls)[j]::(iJ Ls).drop (j+1):=by rw[List.getElem_cons_drop,zj3]
   have hy:=hY _ _ _ i sx d1 hJ;refine Ip<|dr<|hX<|uu<|hX<|cu<|ka (iA aA zT3 I I c7 oM sL) dC<|Ia (eB iT3 I (za7<|za5 B s) c9 I) dC<|ka (aS I) dC<|iF<|dr<|hX<|cu<|ka (mV I) dC<|ka (mV I) dC<|XL.x (XO.yield I I hy) dC ?_;rintro _ _ _ ⟨rfl,j',d2,d3,rfl,rfl⟩;exact ka (oF I) dC<|iF<|dr<|Iy I<|Ip<|wc<|dr<|cu<|ka (aD I I oM) dC<|ka (mV I) dC<|iF<|JI (j',j+1) sB I I ⟨by dsimp only;omega,s.trans d3,by dsimp only;rw[d0];exact d2⟩ (by dsimp only;omega)
  ·have d4:(iJ Ls).take j=iJ Ls:=tL oM;rw[d4] at hJ;exact JE<|IP<|IP<|Jn<|XT.leave0 (.inr I)<|Iv (.inr I) results101 ⟨i,hJ,I,I⟩
def jmF:Nat→List Int→List (Int×Value)
 | _,[]=>[]
 | k,v::J=>((k:Int),vi v)::jmF (k+1) J
theorem Ca:∀ (J:List Int) (k i:Nat),eU (jmF k J) ((k+i:Nat):Int)=(J[i]?).map vi
 | [],_,_=>rfl
 | v::J,k,0=>by
  unfold jmF;rw[dv,zg2 dO];rfl
 | v::J,k,i+1=>by
  unfold jmF;rw[dv,zg1 oM];have:=Ca J (k+1) i;rw[show ((k+(i+1):Nat):Int)=((k+1+i:Nat):Int) by omega,this];rfl
theorem B8 (v:Int):∀ (J:List Int) (k i:Nat),i<J.length→gS (jmF k J) ((k+i:Nat):Int) (vi v)=jmF k (J.set i v)
 | [],_,_,h=>by simp at h
 | u::J,k,0,_=>by
  unfold jmF;rw[gS,zg2 dO];rfl
 | u::J,k,i+1,h=>by
  unfold jmF;rw[gS,zg1 oM];have:=B8 v J (k+1) i (by simpa using h);rw[show ((k+(i+1):Nat):Int)=((k+1+i:Nat):Int) by omega,this];rfl
theorem Cz (v:Int):∀ (J:List Int) (k:Nat),gS (jmF k J) ((k+J.length:Nat):Int) (vi v)=jmF k (J++[v])
 | [],k=>by simp[jmF,gS]
 | u::J,k=>by
  unfold jmF;rw[List.cons_append,gS,zg1<|by simp;omega];have:=Cz v J<|k+1;rw[show ((k+(u::J).length:Nat):Int)=((k+1+J.length:Nat):Int) by simp;omega,this]
theorem xA:∀ (J:List Int) (k:Nat),(jmF k J).map (fun p=>p.2)=J.map vi
 | [],_=>rfl
 | v::J,k=>by
  unfold jmF;rw[zg5,xA J<|k+1];rfl
theorem B9:∀ (J:List Int) (k:Nat),(jmF k J).length=J.length
 | [],_=>rfl
 | v::J,k=>by unfold jmF;rw[ze9,B9 J<|k+1,ze9]
theorem F5 {L J:List Int}(h:(L.map vi).Perm<|J.map vi):L.Perm J:=by
 have b:=h.filterMap unK;rw[List.filterMap_map,List.filterMap_map] at b;have e:(unK ∘ vi)=some:=funext fun a=>Hf a;rw[e,List.filterMap_some,List.filterMap_some] at b;exact b
theorem wB (m:Nat) :
  Ctr Tryz.prog E 108 #[.map<|some m] g s fun r g' s'=>s=s'∧Le g g'∧∃ b,r = .func (.func 175) #[] #[pp b 0]∧g' b=some (bY #[.map<|some m] 151):=by
 refine zb2 (args:=[.map<|some m]) func108 I ntmps108 (bE I)<|rZ (bW (bO I) fun c=>?_);refine aT I (rZ<|lU (Ih I)<|aT I<|rE<|I6 fun g1 a hb=>?_);exact za8 (.inl I) results108 I ⟨I,a,_,I,hb⟩
theorem uy (E:World)(g0:PH)(b m:Nat)(J0:List Int)(hb:g0 b=some (bY #[.map<|some m] 151))(hm:Mp g0 m<|jmF 0 J0) :
  FM Tryz.prog E 175 [pp b 0] (fun v:Int=>[vi v]) (fun pre _=>pre.length≤J0.length) (fun L=>L.Perm J0) g0:=by
 intro y ι G S J i0 Q a R T sx;have r:=a _ _ Q;have F:=r _ _ hb;obtain ⟨es,clk,g,c⟩:=hm;refine Jj (args:=[.func (.yield y) #[] #[],pp b 0]) func175 I ntmps175 (bE I)<|hX<|cu<|Ia (qL (v:=.map<|some m) isAgg151 I<|ao.known F I) dC<|Ib (I4 underlying151 I<|r _ _ g) dC ?_;rintro _ _ _ ⟨it,rfl,rfl,rfl⟩;refine iF<|dr<|uu<|Jw (g':=G i0) (s':=S i0++(iter it m es clk []::sx)) (fun w U=>U.perm List.perm_middle.symm)<|XC.loop (ι:=ι×List MapEntry×List (Int×Value)×List Int) (fun z=>[(0,.func (.yield y) #[] #[]),(6,pp it 0)]) (fun z=>G z.1) (fun z=>S z.1++(iter it m es clk z.2.1::sx)) (fun z=>mC (jmF 0 J0) es z.2.1 z.2.2.1∧z.2.2.1.map (fun p=>p.2)=z.2.2.2.map vi∧J z.2.2.2 z.1) (fun z=>J0.length - z.2.2.1.length) (i0,[],[],[])
  sB rfl rfl ⟨mC.nil _ _,rfl,Q⟩ ?_
 rintro ⟨i,vis,vl,L⟩ ⟨j,d,D⟩;dsimp only at j d D ⊢;have s:=j.len c;rw[B9] at s;have V:vl.length=L.length:=by have:=ze3 List.length d;simpa using this
 have t:=a _ _ D;refine hX<|cu<|Ib (I3 (S i).length I dO (t _ _ g) c j) dC ?_;rintro _ _ _ ⟨rfl,l⟩
 rcases l with ⟨rfl,rfl,n⟩ | ⟨e,pr,W,H,K,M,f,rfl,A⟩
 ·have N:L.Perm J0:=by
   have B:=n.map fun p=>p.2;rw[d,xA] at B;exact F5 B
  exact ka (xT I I) dC<|iF<|dr<|hX<|Iy I<|JE<|IP<|IP<|Jn<|IY (s':=S i++sx) ((zc4 _).append<|zj2 _ _)<|XT.leave0 (.inr I)<|Iv (.inr I) results175 ⟨L,i,N,D,I,I⟩
 ·obtain ⟨k,u⟩:=pr;obtain ⟨v,rfl⟩:∃ v,u=vi v:=by
   have B:u∈(jmF 0 J0).map (fun p=>p.2):=zf3.2 ⟨_,H,rfl⟩;rw[xA] at B;obtain ⟨v,_,e⟩:=zf3.1 B;exact⟨v,e.symm⟩
  have C:(S i++(iter it m es clk vis::sx)).set (S i).length (iter it m es clk<|vis++[e])=S i++(iter it m es clk (vis++[e])::sx):=by simp
  rw[C] at A;subst A;have O:=f.len c;rw[B9,ze6,ze8] at O;have X:=T L v i (iter it m es clk (vis++[e])::sx) oM D;refine ka (xT I I) dC<|iF<|dr<|hX<|IF I<|Ip<|dr<|uu<|hX<|cu<|Ia (IL (vis:=vis) (S i).length I dO (t _ _ g) c W K M) dC ?_;refine ka (xT I I) dC<|ka (aS I) dC<|iF<|dr<|hX<|cu<|ka (mV I) dC<|ka (mV I) dC<|XL.x (XO.yield I I X) dC ?_;rintro _ _ _ ⟨rfl,Y,P,Z,rfl,rfl⟩;exact ka (oF I) dC<|iF<|dr<|Iy I<|Ip<|wc<|JI (Y,vis++[e],vl++[(k,vi v)],L++[v]) sB I I ⟨f,by dsimp only;rw[zg6,zg6,d];rfl,P⟩ (by dsimp only;rw[ze6,ze8];omega)
theorem BJ (b m:Nat)(J0:List Int)(hb:g b=some (bY #[.map<|some m] 151))(hm:Mp g m<|jmF 0 J0)(hl:J0.length<1000000) :
  Ctr Tryz.prog E 174 #[.slice none 0 0,.func (.func 175) #[] #[pp b 0]] g s fun r g' s'=>s=s'∧Le g g'∧∃ L,dA g' r L∧L.Perm J0:=by
 refine Jj (args:=[.slice none 0 0,.func (.func 175) #[] #[pp b 0]]) func174 I ntmps174 (bE I)<|hX<|cu<|Ib (bO I) dC ?_;rintro _ _ _ ⟨f,rfl,rfl,rfl⟩;refine ka (aS I) dC<|iF<|dr<|hX<|hX<|cu<|ka (mV I) dC<|iF<|dr<|uu<|Jw (g':=g) (s':=rowA encInt 3 (.slice none 0 0) []::pt f (bY #[.slice none 0 0] 43)::s) (fun w z=>z.nilRow 3 1)<|XC.rangeFuncP (α:=Int) (ι:=PH×Value×List Int) (κ:=Unit) (encs:=fun v=>[vi v]) (g0:=g) (fun i=>i.1) (fun i=>rowA encInt 3 i.2.1 i.2.2::pt f (bY #[i.2.1] 43)::[])
  (fun pre i=>Le g i.1∧i.2.2=pre) (g,.slice none 0 0,[]) s
  (fun x=>[(7,vi x),(2,pp f 0)]) (fun _ x _ _=>[(5,vi x),(2,pp f 0)]) (fun _ _=>[])
  rfl rfl call175 (fun _=>rfl) rfl rfl (uy E g b m J0 hb hm) (fun _ _ h=>h.1) (fun pre i g' n hl=>⟨(g',i.2),⟨n.1.trans hl,n.2⟩,rfl,rfl⟩) ⟨zb9 _,rfl⟩
  (fun x a h=>tg (h.sub (g:=[(2,pp f 0)]) ⟨rfl,trivial⟩) dC) ?_ ?_ ?_
 ·intro y pre x i A n;exact cu<|ka (aS I) dC<|iF<|I1 () sB I
 ·rintro y pre x ⟨g1,B,acc⟩ A q - C ⟨c,rfl⟩;dsimp only at C c ⊢;refine Jv fun ⟨j,d⟩=>?_;obtain ⟨F,G,rfl⟩:=ag (e:=encInt) (l:=acc) (i:=0) d rfl;clear d j;refine uu<|cu<|Ia (qL iE I<|cO 1 I I) dC<|ka (mV I) dC<|Ib (bS sty43 I I I (ab ⟨I,trivial⟩) dC) dC ?_;rintro _ _ _ ⟨H,rfl,rfl,rfl⟩;refine Ib (aP (e:=encInt) (l:=acc) 0 x sty43 I I I I I oM oM) dC ?_;rintro ov' _ _ ⟨rfl,rfl⟩;refine Jh fun ⟨j,d⟩=>?_;obtain ⟨J,d1,rfl⟩:=ag (e:=encInt) (l:=acc++[x]) (i:=0) d rfl;clear d j;refine ID (sK 1 gy I I I I I sB) ?_;rintro _ _ _ ⟨rfl,rfl⟩;exact iF<|wc<|Ii (g1,_,acc++[x]) I I ⟨c,I⟩<|zb9 _
 ·rintro D xs ⟨g1,B,acc⟩ t ⟨c,rfl⟩;dsimp only at t c ⊢;refine Jy fun ⟨j,d⟩=>?_;obtain ⟨F,G,rfl⟩:=ag (e:=encInt) (l:=acc) (i:=1) d rfl;clear d j;refine wc<|dr<|hX<|cu<|Ia (qL iE I<|cO 2 I I) dC<|ka (aS I) dC<|iF<|dr<|Jg<|II (.inl I)<|fT fun g2 k p=>?_;exact dR (s':=s) uR<|za8 (.inl I) results174 I ⟨I,c.trans k,acc,p,t⟩
theorem uW (b m:Nat)(J0:List Int)(hb:g b=some (bY #[.map<|some m] 151))(hm:Mp g m<|jmF 0 J0)(hl:J0.length<1000000) :
  Ctr Tryz.prog E 107 #[.func (.func 175) #[] #[pp b 0]] g s fun r g' s'=>s=s'∧Le g g'∧∃ L,dA g' r L∧L.Perm J0:=by
 refine zb2 (args:=[.func (.func 175) #[] #[pp b 0]]) func107 I ntmps107 (bE I)<|rZ<|aT I<|sW I<|lW (bt call174 I<|BJ E g _ b m J0 hb hm hl) ?_;rintro _ g1 _ ⟨rfl,a,L,c,hp⟩;obtain ⟨d,c1,rfl⟩:=za4 c;exact aT I<|rE<|za8 (.inl I) results107 I ⟨I,a,L,c,hp⟩
theorem Dt (v:Value)(L:List Int)(d:dA g v L)(hl:L.length<1099511627776)(f:0<L.length) :
  Ctr Tryz.prog E 106 #[v] g s fun r g' s'=>(∃ M:Int,r=vi M∧M∈L∧∀ x∈L,x≤M)∧g=g'∧s=s':=by
 obtain ⟨p,c,rfl⟩:=za4 d;have hb:=za6 d f;have j:L[((0:Nat):Int).toNat]?=some L[0]:=bd f;refine zb2 (args:=[.slice p L.length c]) func106 I ntmps106 (bE I)<|rZ<|aT I<|sQ<|sW I<|lU (eN aA I)<|lU (SU.eq (v':=vb false) (lS I I)<|ze3 vb<|zf8 oM)<|tZ<|za1 I<|kP<|tN<|sW I<|lU (iA (i:=0) aA zT3 I I hb dC (show (0:Int)<((L.length:Nat):Int) by omega)) ?_;refine lK (eB iT3 I (za7 d) j I)<|aT I<|sQ<|rZ<|aT I<|bK ?_;refine oP (ι:=Nat×Int) (fun z=>[(0,.slice p L.length c),(3,vi z.2),(4,vi z.1)]) (fun _=>g) (fun _=>s) (fun z=>1≤z.1∧z.1≤L.length∧z.2∈L∧∀ x∈L.take z.1,x≤z.2) (fun z=>L.length - z.1) (1,L[0])
  sB rfl rfl ⟨dm _,by dsimp only;omega,gM f,fun x l=>by
   dsimp only at l ⊢;rw[tS f] at l;simp at l;omega⟩ ?_
 rintro ⟨k,M⟩ ⟨m,w,u,a⟩;dsimp only at m w u a ⊢;refine sQ<|sW I<|lM I<|lU (eN aA I)<|yL I<|tZ<|iP I (fun n=>?_) (fun n=>?_)
 ·have b:k<L.length:=oM;have o:L[((k:Nat):Int).toNat]?=some L[k]:=bd b;have q:L.take (k+1)=L.take k++[L[k]]:=tS b;have y:L[k]∈L:=gM b;generalize L[k]=x at *;refine kP<|tN<|sQ<|bK<|rG<|lM I<|lM I<|lM I<|lU (iA aA zT3 I I hb oM sL)<|lK (eB iT3 I (za7 d) o I)<|lU (SU.maxI I I)<|lA I<|cp<|bN<|tN<|rG<|lM I<|yD I<|lA I<|cp ?_;exact ct (k+1,max M x) sB I I ⟨by dsimp only;omega,by dsimp only;omega,by
   dsimp only
   rcases (by omega:max M x=M∨max M x=x) with e | e <;> rw[e] <;> assumption,fun z hz=>by
   dsimp only at hz ⊢;rw[q] at hz
   rcases zf4.1 hz with h | h
   ·have:=a z h;omega
   ·simp at h;omega⟩ (by dsimp only;omega)
 ·have t:L.take k=L:=tL oM;rw[t] at a;exact xI<|tX<|tX<|bX<|tN<|sW I<|aT I<|rE<|za8 (.inl I) results106 I ⟨⟨M,I,u,a⟩,I,I⟩
def rj (S:List Cl)(d:Int)(s:ak):Bool:=match ah S s.cell with
 | none=>true
 | some y=>decide<|y.dim≠d - 1
theorem Hq (E:World)(g:PH)(f bx:Nat)(v:Value)(tl:List Cl)(r c:Int)(xs:Value)(t:mB g v tl)(hd:0≤c∧c≤100)(u:g f=some (bY #[v] 57))(w:g bx=some (bY #[vi r,vi c,xs] 61)) :
  Ec E (.func (.func 105) #[] #[pp f 0,pp bx 0]) (rj tl c) g:=by
 intro g s a d;refine cQ.mk (cap:=[pp f 0,pp bx 0]) call105 ?_;have i:=d _ _ u;have j:=d _ _ w;obtain ⟨m,rs,rfl,hm,e⟩:=t.mono d;obtain ⟨⟨x,k,z,A,yc⟩,l,n,-,o,-⟩:=dQ e iw a.cell;have p:(eU (rs.map au) a.cell).isSome=(ah tl a.cell).isSome:=n;have b:k=((ah tl a.cell).getD aJ).dim:=o;refine zb2 (args:=[.agg (encSide.enc a).toArray,pp f 0,pp bx 0]) func105 I ntmps105 (bE I)<|rZ (bW (bO I) fun B=>?_);refine aT I<|rZ<|lK (qL (v:=.map<|some m) eE I<|ao.known i I)<|lU (bj dh I zT3 I)<|lK (qL (v:=vi a.cell) iT3 I<|cO 0 I I)<|lK (SQ.eq (v':=.tuple #[.agg #[vi x,vi k,.slice z A yc],vb (ah tl a.cell).isSome]) (qn mty57 I I<|bo.known hm)<|by rw[l,p];rfl) ?_;refine lM I (yX I<|yX I<|bW (aL zl6) fun C=>?_);refine oZ (sK 0 ar I I I I I sB)<|aT I ?_;cases q:ah tl a.cell with
 | none =>
  have hq:rj tl c a=true:=by unfold rj;rw[q]
  exact sW I<|lU (oF I)<|lM I<|yA I<|yA I<|yA I<|yA I<|yA I<|yA I<|yP I<|aT I<|rE<|dR (s':=s) uR<|za8 (.inl I) results105 I ⟨by rw[hq],I,I⟩
 | some y =>
  have hq:rj tl c a=decide (y.dim≠c - 1):=by unfold rj;rw[q]
  rw[q] at b;have b:k=y.dim:=b;subst b;exact sW I<|lU (oF I)<|lM I<|lY I I I (bj ap I zT3 I)<|lR (gT I I I dC) (qL (v:=vi y.dim) iT3 I<|cO 0 I I) dC<|lY I I I (bj ap I zT3 I)<|lR (gT I I I dC) (qL (v:=vi c) iT3 I<|ao.known j I) dC<|lY I I I (sU I I ⟨oM,oM⟩)<|lY I I I (nQ I I)<|yF I<|aT I<|rE<|dR (s':=s) uR<|za8 (.inl I) results105 I ⟨by rw[hq],I,I⟩
theorem yN (v:Value)(tl:List Cl)(c:Cl)(r:Rc)(l:mB g v tl)(hc:an g c r)(hl:c.sides.length<1099511627776)(hd:0≤c.dim∧c.dim≤100) :
  Ctr Tryz.prog E 57 #[v,rcv r] g s fun r g' s'=>r=vb (kO tl c)∧s=s'∧Le g g':=by
 obtain ⟨x,rd,n,w,d⟩:=r;obtain ⟨o,p,e⟩:=hc;dsimp only at o p e;have i:w=c.sides.length:=zc2 e;subst o p i;have j:=l;obtain ⟨m,rs,rfl,hm,q⟩:=l;refine zb2 (args:=[.map<|some m,.agg #[vi c.id,vi c.dim,.slice n c.sides.length d]]) func57 I ntmps57 (bE I)<|rZ (bW (bO I) fun t=>?_);refine bW (bO I) fun u=>aT I (sQ<|I2 fun g1 b f=>?_);refine I2 fun g2 a k=>?_;refine rG<|lU (bj ap I aI I)<|lK (qL (v:=.slice n c.sides.length d) bg I<|ao.known (a _ _ f) I)<|lU (Ih I)<|lW (bt call104 I<|mX E g2 _ _ 105 #[pp t 0,pp u 0] c.sides (rj tl c.dim) (za5 e<|b.trans a) hl<|Hq E g2 t u _ tl c.id c.dim _ (j.mono<|b.trans a) hd k<|a _ _ f) ?_;rintro _ _ _ ⟨rfl,rfl,rfl⟩;exact aT I<|rE<|za8 (.inl I) results57 I ⟨I,I,b.trans a⟩
set_option maxHeartbeats 8000000
theorem SU.minM {dst:Option Tmp}{ty:TypeId}{pos:String}{af:Array Edge}{gd:Option<|Nat×Bool}{x y:Operand}{T U:TypeId}{m n:Int}(c:ev f x=some (vi m))(d:ev f y=some (vi n)) :
  SU P N ⟨dst,.call ⟨.builtin .min,#[x,y],#[T,U]⟩,ty,pos,af,gd⟩ f<|vi<|min m n:=fun a w b=>by
 have h:=run_min_int2 (P:=P) (w:=w) #[T,U] ty .i64 .i64 m n;have e:(if n<m then n else m)=min m n:=by split <;> omega
 rw[e] at h;simp[execOp,resolve,invoke,builtin,b.ev c,b.ev d,h]
theorem tV (k:Int):∀ F:List (Int×Int),eU (gH F) k=(rv F k).map vi
 | []=>rfl
 | (a,z)::F=>by
  show eU ((a,vi z)::gH F) k=_;rw[dv,tV k F];simp only[rv];split <;> rfl
theorem zO {k i:Int}:∀ {F:List<|Int×Int},rv F k=none→gS (gH F) k (vi i)=gH (F++[(k,i)])
 | [],_=>rfl
 | (a,z)::F,h=>by
  simp only[rv] at h;split at h
  ·cases h
  ·rename_i b;show (if k=a then _ else (a,vi z)::gS (gH F) k (vi i))=_;rw[zg1 b,zO h];rfl
theorem Bh {tl:List Cl}{l:List ak}{x:ak}:j9 tl (l++[x])=(az tl x).foldl oV (j9 tl l):=by
 simp[j9,zj1]
theorem yq (k:Nat):(List.range<|k+1).map (fun i:Nat=>(i:Int))=(List.range k).map (fun i:Nat=>(i:Int))++[(k:Int)]:=by rw[wb,zg6];rfl
theorem yz (v:Value)(tl:List Cl)(c:Cl)(r:Rc)(hv:mB g v tl)(hc:an g c r)(n4:AOk tl c)(h0:0<c.sides.length)(hn:(c.sides.map ak.cell).Nodup) :
  Ctr Tryz.prog E 59 #[v,rcv r] g s fun r g' s'=>r=vb (decide<|bM tl c≠0)∧s=s'∧Le g g':=by
 obtain ⟨m,rs,rfl,hm,b7⟩:=hv;obtain ⟨D,rd,l,rn,d⟩:=r;have a2:SlA encSide g (.slice l rn d) c.sides:=hc.2.2;have n5:rn=c.sides.length:=zc2 a2;subst n5;clear hc;obtain ⟨q3,n6,h4⟩:=n4;have h5:=fun h=>za6 a2 h;refine zb2 (args:=[.map<|some m,.agg #[vi D,vi rd,.slice l c.sides.length d]]) func59 I ntmps59 (bE I)<|rZ (bW (bO I) fun o=>?_);refine aT I<|rZ<|lW (Io) ?_;rintro _ _ _ ⟨mz,rfl,rfl,rfl⟩;refine lW (Io) ?_;rintro _ _ _ ⟨mm,rfl,rfl,rfl⟩;refine lA I<|aT I<|rZ<|lW (Io) ?_;rintro _ _ _ ⟨f,rfl,rfl,rfl⟩;refine aT I<|lu (ι:=List (Int×Int)×List (Int×Int)) (fun _=>[(0,.map<|some m),(3,pp o 0),(5,.map<|some mz),(6,.map<|some mm),(7,.map<|some f)]) (fun _=>g) (fun q=>mp f (jmF 0 ((List.range c.sides.length).map fun i:Nat=>(i:Int)))::mp mm (gH q.2)::mp mz (gH q.1)::pt o (bY #[vi D,vi rd,.slice l c.sides.length d] 61)::s)
  (fun q=>q.1=fU tl c.sides∧q.2=j9 tl c.sides) ?_ ?_
 ·refine rZ<|lU (bj ap I aI I)<|lK (qL bg I<|cO 3 I I)<|lU (eN aW I)<|lM I<|tZ<|bK<|oP (ι:=Nat×List (Int×Int)×List (Int×Int)) (fun q=>[(0,.map<|some m),(3,pp o 0),(5,.map<|some mz),(6,.map<|some mm),(7,.map<|some f),(26,.slice l c.sides.length d),(27,vi c.sides.length),(28,vi q.1)]) (fun _=>g)
   (fun q=>mp f (jmF 0 ((List.range q.1).map fun i:Nat=>(i:Int)))::mp mm (gH q.2.2)::mp mz (gH q.2.1)::pt o (bY #[vi D,vi rd,.slice l c.sides.length d] 61)::s)
   (fun q=>q.1≤c.sides.length∧q.2.1=fU tl (c.sides.take q.1)∧q.2.2=j9 tl (c.sides.take q.1)∧(∀ p∈q.2.1,-((64 * q.1:Nat):Int)≤p.2∧p.2≤((64 * q.1:Nat):Int))∧∀ p∈q.2.2,-((64 * q.1:Nat):Int)≤p.2∧p.2≤((64 * q.1:Nat):Int)) (fun q=>c.sides.length - q.1)
   (0,[],[]) sB rfl rfl ⟨zf7 _,by simp[fU],by simp[j9],by simp,by simp⟩ ?_
  rintro ⟨k,c9,d0⟩ ⟨hk,a3,a4,b8,c0⟩;dsimp only at hk a3 a4 b8 c0 ⊢;refine rZ<|yL I<|tZ<|sQ<|iP I (fun d1=>?_) (fun d1=>?_)
  ·have A:k<c.sides.length:=oM;have d2:=h5 oM;have d3:c.sides[((k:Nat):Int).toNat]?=some c.sides[k]:=bd A;have h6:c.sides.take (k+1)=c.sides.take k++[c.sides[k]]:=tS A;have a5:c.sides[k]∈c.sides:=gM A;have U:=Cz (k:Int) ((List.range k).map fun i:Nat=>(i:Int)) 0;rw[← yq,ze7,zi5,Nat.zero_add] at U;generalize c.sides[k]=y at *;obtain ⟨x,d4,n7,d5⟩:=dQ b7 iw y.cell;obtain ⟨xi,xd,xp,xn,xc⟩:=x;have t:SlA encSide g (.slice xp xn xc)<|az tl y:=d5.2.2;have d6:xn=(az tl y).length:=zc2 t;subst d6;have h7:=n6 y a5;obtain ⟨d7,h8⟩:=h4 y a5;generalize G:az tl y=sy at t d7 h8;refine kP (tN<|sQ<|bK<|sW I<|lU (iA aW aV I I d2 oM sL)<|lK (iN iV aV I (za7 a2) d3)<|bW (aL zm1) fun b9=>?_);refine lA I<|oZ (sK 0 aV I I I I I sB)<|tZ<|sW I<|lM I<|lM I<|lO (tn 1 mty151 I I I I) ?_;rintro _ _ _ ⟨rfl,rfl⟩;rw[U];refine tZ<|sW I<|lU (bj dh I zT3 I)<|lK (qL (v:=vi y.cell) iT3 I<|cO 0 I I)<|lK (SQ.eq (v':=rcv ⟨xi,xd,xp,sy.length,xc⟩) (H6 mty57 I I<|bo.known hm)<|by rw[d4,G]) ?_;refine lU (IJ ap I bg I I)<|lU (eN aW I)<|lM I<|tZ<|bK ?_;refine oP (ι:=Nat×List (Int×Int)×List (Int×Int)) (fun q=>[(0,.map<|some m),(3,pp o 0),(5,.map<|some mz),(6,.map<|some mm),(7,.map<|some f),(9,pp b9 0),(26,.slice l c.sides.length d),(27,vi c.sides.length),(28,vi k),(40,.slice xp sy.length xc),(41,vi sy.length),(42,vi q.1)]) (fun _=>g)
    (fun q=>pt b9 (bY #[vi y.cell,vi y.sign] 87)::mp f (jmF 0 ((List.range<|k+1).map fun i:Nat=>(i:Int)))::mp mm (gH q.2.2)::mp mz (gH q.2.1)::pt o (bY #[vi D,vi rd,.slice l c.sides.length d] 61)::s)
    (fun q=>q.1≤sy.length∧q.2.1=(sy.take q.1).foldl (j8 y) c9∧q.2.2=(sy.take q.1).foldl oV d0∧(∀ p∈q.2.1,-((64 * k+q.1:Nat):Int)≤p.2∧p.2≤((64 * k+q.1:Nat):Int))∧∀ p∈q.2.2,-((64 * k+q.1:Nat):Int)≤p.2∧p.2≤((64 * k+q.1:Nat):Int)) (fun q=>sy.length - q.1)
    (0,c9,d0) sB rfl rfl ⟨zf7 _,by simp,by simp,by simpa using b8,by simpa using c0⟩ ?_
   rintro ⟨j,w,ml⟩ ⟨hj,hz,R,a9,b0⟩;dsimp only at hj hz R a9 b0 ⊢;refine rZ<|yL I<|tZ<|sQ<|iP I (fun V=>?_) (fun V=>?_)
   ·have H:j<sy.length:=oM;have b1:=za6 t oM;have O:sy[((j:Nat):Int).toNat]?=some sy[j]:=bd H;have W:sy.take (j+1)=sy.take j++[sy[j]]:=tS H;have h9:=h8 _<|gM H;generalize sy[j]=z at *;have X:=ns oM a9 z.cell;have q6:=ns oM b0 z.cell;have q7:=tz h7 h9;refine kP<|tN<|sQ<|bK<|rZ<|lU (iA aW aV I I b1 oM sL)<|lK (iN iV aV I (za7 t) O) (bW (aL zm1) fun q8=>?_);refine oZ (sK 0 aV I I I I I sB)<|tZ<|sW I<|lU (bj dh I zT3 I)<|lK (qL (v:=vi z.cell) iT3 I<|cO 0 I I)<|lK (SQ.eq (v':=vi<|ff w z.cell) (H6 mty151 I I<|bo.own 4 I)<|mh w _)<|lU (bj dh I zT3 I)<|lK (qL (v:=vi y.sign) iT3 I<|cO 1 I I)<|lU (bj dh I zT3 I)<|lK (qL (v:=vi z.sign) iT3 I<|cO 0 I I)<|lU (Iz (m:=y.sign) (n:=z.sign) I I oM)<|lU (aD (m:=ff w z.cell) (n:=y.sign * z.sign) I I oM)<|lO (tn 4 mty151 I I I I) ?_;rintro _ _ _ ⟨rfl,rfl⟩;rw[ug];refine tZ<|rG<|lM I<|lU (bj dh I zT3 I)<|lK (qL (v:=vi z.cell) iT3 I<|cO 0 I I)<|lK (SQ.eq (v':=vi<|ff ml z.cell) (H6 mty151 I I<|bo.own 3 I)<|mh ml _)<|lU (aD (m:=ff ml z.cell) (n:=1) I I oM)<|lO (tn 3 mty151 I I I I) ?_;rintro _ _ _ ⟨rfl,rfl⟩;rw[ug];refine cp<|bN<|tN<|rG<|yD I<|lM I<|cp<|dR (s':=pt b9 (bY #[vi y.cell,vi y.sign] 87)::mp f (jmF 0 ((List.range<|k+1).map fun i:Nat=>(i:Int)))::mp mm (gH<|fQ ml z.cell 1)::mp mz (gH<|fQ w z.cell<|y.sign * z.sign)::pt o (bY #[vi D,vi rd,.slice l c.sides.length d] 61)::s) (.cons _<|.refl _) ?_;exact ct (j+1,fQ w z.cell (y.sign * z.sign),fQ ml z.cell 1) sB I I ⟨by dsimp only;omega,by rw[W,zj1,← hz];rfl,by rw[W,zj1,← R];rfl,by
      have:=nD oM a9 z.cell (x:=y.sign * z.sign) oM;intro p hp;have:=this p hp;dsimp only at *;omega,by
      have:=nD oM b0 z.cell (x:=1) oM;intro p hp;have:=this p hp;dsimp only at *;omega⟩ (by dsimp only;omega)
   ·refine xI<|tX<|tX<|bX<|bN<|tN<|rG<|yD I<|lM I<|cp ?_;have d8:sy.take j=sy:=tL oM;rw[d8] at hz R;refine dR (s':=mp f (jmF 0 ((List.range<|k+1).map fun i:Nat=>(i:Int)))::mp mm (gH ml)::mp mz (gH w)::pt o (bY #[vi D,vi rd,.slice l c.sides.length d] 61)::s) (.cons _<|.refl _) ?_;exact ct (k+1,w,ml) sB I I ⟨by dsimp only;omega,by dsimp only;rw[h6,rW,G,← a3];exact hz,by dsimp only;rw[h6,Bh,G,← a4];exact R,by
      intro p hp;have:=a9 p hp;dsimp only at *;omega,by
      intro p hp;have:=b0 p hp;dsimp only at *;omega⟩ (by dsimp only;omega)
  ·refine xI<|tX<|tX<|bX ?_;have d9:k=c.sides.length:=oM;subst d9;rw[List.take_length] at a3 a4;exact za9 (c9,d0) sB I I ⟨a3,a4⟩
 ·rintro ⟨w,ml⟩ ⟨hz,e0⟩;dsimp only at hz e0 ⊢;refine cP (zk2 _ _ _) (IB fun g1 n8 R=>?_);refine cP (zk2 _ _ _) (IB fun g2 i0 i1=>?_);have i2:=R.mono i0;have B:=n8.trans i0;have o1:=hm.mono B;have e1:=b7.mono fun _ _ h=>an.mono B h;have i3:=za5 a2 B;have j0:=i1;obtain ⟨es,clk,e2,b2⟩:=i1;refine sQ<|sW I<|lW (I4 underlying151 I e2) ?_;rintro _ _ _ ⟨it,rfl,rfl,rfl⟩;refine tZ<|bK<|oP (ι:=List MapEntry×List (Int×Value)) (fun _=>[(0,.map<|some m),(3,pp o 0),(5,.map<|some mz),(6,.map<|some mm),(7,.map<|some f),(64,pp it 0)]) (fun _=>g2)
   (fun i=>iter it mz es clk i.1::mp f (jmF 0 ((List.range c.sides.length).map fun i:Nat=>(i:Int)))::pt o (bY #[vi D,vi rd,.slice l c.sides.length d] 61)::s)
   (fun i=>mC (gH w) es i.1 i.2∧∀ p∈w,(p.1,vi p.2)∈i.2→p.2=0∧ff ml p.1=2) (fun i=>w.length - i.2.length) ([],[])
   sB rfl rfl ⟨mC.nil _ _,fun _ _ h=>by simp at h⟩ ?_
  rintro ⟨vis,vl⟩ ⟨e4,K⟩;dsimp only at e4 K ⊢;have c1:(gH w).length=w.length:=by unfold gH;rw[ze7]
  have j1:=e4.len b2;rw[c1] at j1;refine rZ<|lW (I3 0 I I e2 b2 e4) ?_;rintro _ _ _ ⟨rfl,e9⟩
  rcases e9 with ⟨rfl,rfl,f7⟩ | ⟨e,pr,he,o2,p0,p1,c2,rfl,rfl⟩
  ·have f8:nh tl c.sides=false:=by
    unfold nh;rw[← hz,← e0,zk6];intro p hp;have S:=K p hp<|f7.mem_iff.2<|zf3.2 ⟨p,hp,rfl⟩;simp[S.1,S.2]
   refine yX I<|tZ<|sQ<|za1 I<|xI<|tX<|tX<|bX<|tN<|rZ<|lW (Io) ?_;rintro _ _ _ ⟨Y,rfl,rfl,rfl⟩;refine aT I<|sQ<|rZ<|aT I<|bK<|Jk (s':=mp Y (gH [])::mp f (jmF 0 ((List.range c.sides.length).map fun i:Nat=>(i:Int)))::pt o (bY #[vi D,vi rd,.slice l c.sides.length d] 61)::s) (.cons_cons _<|.cons _<|.refl _)<|oP (ι:=Bool×List Int×List (Int×Int)) (fun z=>[(0,.map<|some m),(3,pp o 0),(7,.map<|some f),(13,.map<|some Y),(14,vb z.1)]) (fun _=>g2) (fun z=>mp Y (gH z.2.2)::mp f (jmF 0 z.2.1)::pt o (bY #[vi D,vi rd,.slice l c.sides.length d] 61)::s)
    (fun z=>AF tl c.sides z.2.1∧HL tl c.sides z.2.2∧(z.1=false→xP tl c.sides z.2.2 z.2.1 c.sides.length)) (fun z=>z.2.1.sum.toNat+(if z.1 then 1 else 0)) (true,(List.range c.sides.length).map (fun i:Nat=>(i:Int)),[])
    sB rfl rfl ⟨AF.start tl c.sides,(fun r k h=>by cases h),fun h=>by cases h⟩ ?_
   rintro ⟨ch,J,F⟩ ⟨hJ,hF,hQ⟩;dsimp only at hJ hF hQ ⊢;have q9:=Ci fun i v h=>(hJ.low i v h).1;refine sQ<|sW I<|tZ<|iQ I (fun g6=>?_) (fun g6=>?_)
   ·subst g6;refine kP<|tN<|bK<|SC.scope<|rZ<|aT I<|sQ<|SC.label<|tN<|rZ<|lU (bj ap I aI I)<|lK (qL (v:=.slice l c.sides.length d) bg I<|cO 2 I I)<|lU (eN aW I)<|lM I<|tZ<|bK<|oP (ι:=Nat×Bool×List Int×List (Int×Int)) (fun z=>[(0,.map<|some m),(3,pp o 0),(7,.map<|some f),(13,.map<|some Y),(14,vb z.2.1),(82,.slice l c.sides.length d),(83,vi c.sides.length),(84,vi z.1)]) (fun _=>g2) (fun z=>mp Y (gH z.2.2.2)::mp f (jmF 0 z.2.2.1)::pt o (bY #[vi D,vi rd,.slice l c.sides.length d] 61)::s)
     (fun z=>z.1≤c.sides.length∧AF tl c.sides z.2.2.1∧HL tl c.sides z.2.2.2∧(z.2.1=false→z.2.2.1=J∧xP tl c.sides z.2.2.2 z.2.2.1 z.1)∧z.2.2.1.sum≤J.sum∧(z.2.1=true→z.2.2.1.sum<J.sum)) (fun z=>c.sides.length - z.1) (0,false,J,F)
     sB rfl rfl ⟨zf7 _,hJ,hF,fun _=>⟨rfl,fun i x h=>by omega⟩,Int.le_refl _,fun h=>by cases h⟩ ?_
    rintro ⟨k,ch,J1,F1⟩ ⟨hk,N,g7,Z,j2,g8⟩;dsimp only at hk N g7 Z j2 g8 ⊢;refine rZ<|yL I<|tZ<|sQ<|iP I (fun d1=>?_) (fun d1=>?_)
    ·have A:k<c.sides.length:=oM;have d2:=h5 oM;have d3:c.sides[((k:Nat):Int).toNat]?=some c.sides[k]:=bd A;have g9:c.sides[k]?=some c.sides[k]:=bd A;have a5:c.sides[k]∈c.sides:=gM A;have l0:k<J1.length:=by rw[N.len];exact A
     have b4:J1[k]?=some J1[k]:=bd l0;generalize J1[k]=a at b4;generalize c.sides[k]=y at *;obtain ⟨x,d4,n7,d5⟩:=dQ e1 iw y.cell;obtain ⟨xi,xd,xp,xn,xc⟩:=x;have t:SlA encSide g2 (.slice xp xn xc)<|az tl y:=d5.2.2;have d6:xn=(az tl y).length:=zc2 t;subst d6;obtain ⟨d7,-⟩:=h4 y a5;generalize G:az tl y=sy at t d7;refine kP (tN<|sQ<|bK<|sW I<|lU (iA aW aV I I d2 oM sL)<|lK (iN iV aV I (za7 i3) d3)<|bW (aL zm1) fun b5=>?_);refine lA I<|oZ (sK 0 aV I I I I I sB)<|tZ<|sW I<|lU (bj dh I zT3 I)<|lK (qL (v:=vi y.cell) iT3 I<|cO 0 I I)<|lK (SQ.eq (v':=rcv ⟨xi,xd,xp,sy.length,xc⟩) (H6 mty57 I I<|bo.known o1)<|by rw[d4,G]) ?_;refine lU (IJ ap I bg I I)<|lU (eN aW I)<|lM I<|tZ<|bK ?_;refine oP (ι:=Nat×List (Int×Int)) (fun z=>[(0,.map<|some m),(3,pp o 0),(7,.map<|some f),(13,.map<|some Y),(14,vb ch),(15,vi k),(16,pp b5 0),(82,.slice l c.sides.length d),(83,vi c.sides.length),(84,vi k),(93,.slice xp sy.length xc),(94,vi sy.length),(95,vi z.1)]) (fun _=>g2) (fun z=>pt b5 (bY #[vi y.cell,vi y.sign] 87)::mp Y (gH z.2)::mp f (jmF 0 J1)::pt o (bY #[vi D,vi rd,.slice l c.sides.length d] 61)::s)
      (fun z=>z.1≤sy.length∧HL tl c.sides z.2∧(∀ r v,rv F1 r=some v→rv z.2 r=some v)∧∀ q∈sy.take z.1,∃ n:Nat,rv z.2 q.cell=some (n:Int)∧J1[k]?=J1[n]?) (fun z=>sy.length - z.1) (0,F1)
      sB rfl rfl ⟨zf7 _,g7,fun _ _ h=>h,by simp⟩ ?_
     rintro ⟨j,F2⟩ ⟨hj,T,b6,a0⟩;dsimp only at hj T b6 a0 ⊢;refine rZ<|yL I<|tZ<|sQ<|iP I (fun V=>?_) (fun V=>?_)
     ·have H:j<sy.length:=oM;have b1:=za6 t oM;have O:sy[((j:Nat):Int).toNat]?=some sy[j]:=bd H;have W:sy.take (j+1)=sy.take j++[sy[j]]:=tS H;have p2:sy[j]∈az tl y:=by rw[G];exact gM H
      generalize sy[j]=z at *;have c3:0<lg tl y z.cell:=tU.2 ⟨z,p2,rfl⟩;cases C:rv F2 z.cell with
      | none =>
       have l1:=zO (i:=(k:Int)) C;have P:=fun r=>z6 (i:=(k:Int)) r C;refine kP<|tN<|sQ<|bK<|rZ<|lU (iA aW aV I I b1 oM sL)<|lK (iN iV aV I (za7 t) O) (bW (aL zm1) fun p3=>?_);refine oZ (sK 0 aV I I I I I sB)<|tZ<|sW I<|lU (bj dh I zT3 I)<|lK (qL (v:=vi z.cell) iT3 I<|cO 0 I I)<|lK (SQ.eq (v':=.tuple #[vi 0,vb false]) (qn mty151 I I<|bo.own 2 I)<|by rw[tV,C];rfl) ?_;refine lM I<|yX I<|yX I<|lA I<|aT I<|sQ<|sW I<|lU (oF I)<|tZ<|za2 I<|sW I<|lU (bj dh I zT3 I)<|lK (qL (v:=vi z.cell) iT3 I<|cO 0 I I)<|lM I<|lO (tn 2 mty151 I I I I) ?_;rintro _ _ _ ⟨rfl,rfl⟩;rw[l1];refine tZ<|xI<|tX<|bX<|tN<|rG<|yD I<|lM I<|cp<|dR (s':=pt b5 (bY #[vi y.cell,vi y.sign] 87)::mp Y (gH<|F2++[(z.cell,(k:Int))])::mp f (jmF 0 J1)::pt o (bY #[vi D,vi rd,.slice l c.sides.length d] 61)::s) (.cons _<|.refl _) ?_;exact ct (j+1,F2++[(z.cell,(k:Int))]) sB I I ⟨by dsimp only;omega,fun r v hr=>by
        dsimp only at hr;rw[P] at hr;split at hr
        ·rename_i e;injection hr with hr
         exact⟨k,hr.symm,y,g9,by rw[e];exact c3⟩
        ·exact T r v hr,fun r v hr=>by
        dsimp only;have S:=b6 r v hr;rw[P,zg1 fun e=>by rw[e,C] at S;cases S];exact S,fun q hq=>by
        dsimp only at hq ⊢;rw[W] at hq
        rcases zf4.1 hq with h | h
        ·obtain ⟨n,S,h2⟩:=a0 q h;refine⟨n,?_,h2⟩;rw[P,zg1 fun e=>by rw[e,C] at S;cases S];exact S
        ·simp at h;subst h;exact⟨k,by rw[P,zg2 I],I⟩⟩ (by dsimp only;omega)
      | some v =>
       obtain ⟨n,rfl,u,hu,p4⟩:=T _ _ C;have l2:n<J1.length:=by rw[N.len];exact (zf6.1 hu).1
       have X:J1[n]?=some J1[n]:=bd l2;generalize J1[n]=b at X;have l3:eU (jmF 0 J1) ((k:Nat):Int)=some (vi a):=by have:=Ca J1 0 k;rw[Nat.zero_add,b4] at this;exact this
       have l4:eU (jmF 0 J1) ((n:Nat):Int)=some (vi b):=by have:=Ca J1 0 n;rw[Nat.zero_add,X] at this;exact this
       have c4:=B8 (min a b) J1 0 k l0;have c5:=B8 (min a b) (J1.set k<|min a b) 0 n (by rw[zi4];exact l2);rw[Nat.zero_add] at c4 c5;refine kP (tN<|sQ<|bK<|rZ<|lU (iA aW aV I I b1 oM sL)<|lK (iN iV aV I (za7 t) O)<|bW (aL zm1) fun p3=>?_);refine oZ (sK 0 aV I I I I I sB)<|tZ<|sW I<|lU (bj dh I zT3 I)<|lK (qL (v:=vi z.cell) iT3 I<|cO 0 I I)<|lK (SQ.eq (v':=.tuple #[vi n,vb true]) (qn mty151 I I<|bo.own 2 I)<|by rw[tV,C];rfl) ?_;refine lM I<|yX I<|yX I<|lA I<|aT I<|sQ<|sW I<|lU (oF I)<|tZ<|za1 I<|kP<|tN<|sW I<|lM I<|lK (SQ.eq (v':=vi a) (H6 mty151 I I<|bo.own 3 I)<|by rw[l3];rfl) ?_;refine lM I<|lM I<|lK (SQ.eq (v':=vi b) (H6 mty151 I I<|bo.own 3 I)<|by rw[l4];rfl) ?_;refine lU (SU.minM I I)<|aT I<|sW I<|lM I<|lM I<|lK (SQ.eq (v':=vi a) (H6 mty151 I I<|bo.own 3 I)<|by rw[l3];rfl) ?_;refine lM I<|lM I<|lK (SQ.eq (v':=vi b) (H6 mty151 I I<|bo.own 3 I)<|by rw[l4];rfl) ?_;refine lU (SU.maxI I I)<|yL I<|tZ<|iP I (fun m1=>?_) (fun m1=>?_)
       ·obtain ⟨p5,q4⟩:=N.upd g9 hu c3 p4 b4 X m1;refine sW I<|lM I<|lM I<|lM I<|lM I<|lM I<|lO (tn 3 mty151 I I I I) ?_;rintro _ _ _ ⟨rfl,rfl⟩;rw[c4];refine lO (tn 3 mty151 I I I I) ?_;rintro _ _ _ ⟨rfl,rfl⟩;rw[c5];exact tZ<|rZ<|aT I<|xI<|ST.blockO dC<|tX<|tX<|ST.blockO dC<|bX<|tN<|rG<|yD I<|lM I<|cp<|dR (s':=mp Y (gH F2)::mp f (jmF 0<|(J1.set k<|min a b).set n<|min a b)::pt o (bY #[vi D,vi rd,.slice l c.sides.length d] 61)::s) (.cons _<|.cons _<|.refl _)<|ct (k+1,true,(J1.set k<|min a b).set n<|min a b,F2) sB I I ⟨by dsimp only;omega,p5,T,(fun h=>by cases h),by dsimp only;omega,fun _=>by dsimp only;omega⟩ (by dsimp only;omega)
       ·refine kP<|bN<|tN<|rG<|yD I<|lM I<|cp ?_;have m2:a=b:=oM;subst m2;refine dR (s':=pt b5 (bY #[vi y.cell,vi y.sign] 87)::mp Y (gH F2)::mp f (jmF 0 J1)::pt o (bY #[vi D,vi rd,.slice l c.sides.length d] 61)::s) (.cons _<|.refl _) ?_;exact ct (j+1,F2) sB I I ⟨by dsimp only;omega,T,b6,fun q hq=>by
         dsimp only at hq ⊢;rw[W] at hq
         rcases zf4.1 hq with h | h
         ·exact a0 q h
         ·simp at h;subst h;exact⟨n,C,b4.trans X.symm⟩⟩ (by dsimp only;omega)
     ·refine xI<|tX<|tX<|bX<|bN<|tN<|rG<|yD I<|lM I<|cp ?_;have d8:sy.take j=sy:=tL oM;rw[d8] at a0;refine dR (s':=mp Y (gH F2)::mp f (jmF 0 J1)::pt o (bY #[vi D,vi rd,.slice l c.sides.length d] 61)::s) (.cons _<|.refl _) ?_;exact ct (k+1,ch,J1,F2) sB I I ⟨by dsimp only;omega,N,T,fun hc=>⟨(Z hc).1,fun i x hi hx q hq=>by
       dsimp only at hi ⊢;by_cases e:i=k
       ·subst e;rw[g9] at hx;injection hx with hx
        subst hx;rw[G] at hq;exact a0 q hq
       ·obtain ⟨n,S,h2⟩:=(Z hc).2 i x oM hx q hq;exact⟨n,b6 _ _ S,h2⟩⟩,j2,g8⟩ (by dsimp only;omega)
    ·have d9:k=c.sides.length:=oM;subst d9;have q5:=Ci fun i v h=>(N.low i v h).1;refine xI<|tX<|tX<|bX<|ST.scopeN<|bN ?_;exact ct (ch,J1,F1) sB I I ⟨N,g7,fun hc=>(Z hc).2⟩ (by
      dsimp only;cases ch with
      | true=>have:=g8 rfl;simp only[if_true];omega
      | false=>rw[(Z rfl).1];simp)
   ·subst g6;have hQ:=hQ rfl;have m3:=Dl (F:=F) h0 hn f8 hJ hQ;have r0:=hJ.len;refine xI (tX<|tX<|bX<|tN<|sQ<|cP (zk2 _ _ _)<|IB fun g3 m4 p6=>?_);refine rG<|lM I<|lW (bt call108 I<|wB E g3 _ f) ?_;rintro _ g4 _ ⟨rfl,c6,bv,rfl,p7⟩;refine lW (bt call107 I<|uW E g4 _ bv f J p7 (p6.mono c6) oM) ?_;rintro _ g5 _ ⟨rfl,n0,L,hL,h3⟩;have r1:=h3.length_eq;refine lW (bt call106 I<|Dt E g5 _ _ L hL oM oM) ?_;rintro _ _ _ ⟨⟨M,rfl,p9,q0⟩,rfl,rfl⟩;refine lU (gR I I)<|aT I<|rE<|dR (s':=s) uR ?_;have a1:decide (M>0)=decide (bM tl c≠0):=by
     rw[← m3,Bool.eq_iff_iff,zj7,zj9];constructor
     ·exact fun h=>⟨M,h3.mem_iff.1 p9,zf9 h⟩
     ·rintro ⟨x,hx,h⟩;have S:=q0 x<|h3.mem_iff.2 hx;have h2:=zg4 h;omega
    exact za8 (.inl I) results59 I ⟨by rw[← a1],I,B.trans<|m4.trans<|c6.trans n0⟩
  ·obtain ⟨⟨a,zv⟩,c7,rfl⟩:=zf3.1 o2;have n1:=c2.len b2;rw[c1,ze6,ze8] at n1;have q1:(w.map Prod.fst).Nodup:=by rw[hz];exact lB tl c.sides
   have n2:ff w a=zv:=oy q1 _ c7;refine yX I<|tZ<|sQ<|za2 I<|kP<|tN<|bK<|rZ<|lK (IL 0 I I e2 b2 he p0 p1)<|yX I<|aT I<|BY 78 (decide (ff w a≠0)||decide (ff ml a≠2)) ?_ ?_
   ·refine rG<|lM I<|lM I<|lK (SQ.eq (v':=vi<|ff w a) (H6 mty151 I I<|bo.known j0)<|mh w _)<|lU (nQ I I)<|lM I<|sP ?_ ?_
    ·intro q2;exact yA I<|yA I<|yA I<|yA I<|yP I<|cp<|zb1 (by (simp_all[aU];done)) mI
    ·intro q2;exact yC I<|yC I<|lR (gT I I I dC) (SQ.eq (v':=vi<|ff ml a) (H6 mty151 I I<|bo.known i2)<|mh ml _) dC<|lY I I I (nQ I I)<|yF I<|cp<|zb1 (by (simp_all[aU];done)) mI
   refine iQ I (fun Q=>?_) (fun Q=>?_)
   ·have hb:nh tl c.sides=true:=by
     unfold nh;rw[← hz,← e0];exact zj9.2 ⟨_,c7,by rw[n2] at Q;exact Q⟩
    have a1:=zf9<|EO h0 hn hb;exact rZ<|aT I<|rE<|bR<|tR<|bR<|tR<|dR (s':=s) uR<|za8 (.inl I) results59 I ⟨by rw[a1],I,B⟩
   ·refine kP<|bN ?_;rw[Bool.or_eq_false_iff,hP,hP,n2] at Q;exact ct (vis++[e],vl++[(a,vi zv)]) sB I I ⟨c2,fun p hp n3=>by
     dsimp only at n3
     rcases zf4.1 n3 with h | h
     ·exact K p hp h
     ·simp at h;rw[h.1,h.2];exact⟨oM,oM⟩⟩ (by dsimp only;rw[ze6,ze8];omega)
def F3 (E:World)(tv:Value)(pv:Value)(q:Cl→Bool)(S:List Cl)(g:PH):Prop :=
 ∀ g' s c r,Le g g'→c∈S→an g' c r→cQ Tryz.prog E pv [tv,rcv r] g' s (fun x g'' s''=>x=vb (q c)∧Le g' g''∧s''=s)
theorem oA (h:S.Pairwise fun a b=>a.id<b.id):iJ [S]=S.map Cl.id :=
 CN (oB _) (by rw[zk5];exact h) fun x=>by
  rw[As,zf3];simp
theorem Ae (h:S.Pairwise fun a b=>a.id<b.id){c:Cl}(hc:c∈S):ah S c.id=some c:=by
 unfold ah;induction S with
 | nil=>cases hc
 | cons a S ih =>
  rw[zk4] at h
  rcases zf2.1 hc with rfl | hc
  ·simp
  ·have:=h.1 c hc;rw[List.find?_cons_of_neg (by simp;omega)];exact ih h.2 hc
theorem Bt (h:S.Pairwise fun a b=>a.id<b.id)(w:Cl→Bool):((iJ [S]).filter fun id=>w<|(ah S id).getD aJ)=dL w S:=by
 rw[oA h];unfold dL;rw[List.filter_map];refine ze3 _ (List.filter_congr fun c hc=>?_);show w ((ah S c.id).getD aJ)=w c;rw[Ae h hc];rfl
theorem zU:∀ {rs:List Rc} {i:Nat},(rs.map Rc.id).Nodup→(h:i<rs.length)→eU (rs.map au) rs[i].id=some (rcv rs[i])
 | r::rs,0,_,_=>by
  rw[zg5];show eU ((r.id,rcv r)::_) r.id=_;rw[dv,zg2 rfl];rfl
 | r::rs,i+1,hn,h=>by
  rw[zg5,zk3] at hn;have b:i<rs.length:=by simpa using h
  have a:rs[i].id≠r.id:=fun e=>hn.1<|zf3.2 ⟨rs[i],gM b,e⟩;rw[zg5];show eU ((r.id,rcv r)::_) rs[i].id=_;rw[dv,zg1 a];exact zU hn.2 b
theorem G3 (E:World)(hE:E.drawn=0)(g:PH)(s:Own)(G:Nat)(U:Value)(H:FuncId)(J:Array Value)(S:List Cl)(q:Cl→Bool)(hb:g G=some (bY #[U] 57))(hv:mB g U S)(V:S.Pairwise fun a b=>a.id<b.id)(hi:∀ x∈S,bh x.id)(hl:S.length<1000000)(hq:F3 E U (.func (.func H) #[] J) q S g) :
  Ctr Tryz.prog E 56 #[.func (.func H) #[] J,pp G 0] g s fun r g' s'=>s=s'∧Le g g'∧dA g' r (dL q S):=by
 have W:=hv;obtain ⟨m,rs,rfl,hm,K⟩:=hv;refine Jj (args:=[.func (.func H) #[] J,pp G 0]) func56 I ntmps56 (bE I)<|hX<|cu<|Ib (bO I) dC ?_;rintro _ _ _ ⟨M,rfl,rfl,rfl⟩;refine ka (aS I) dC<|iF<|dr<|hX<|cu<|Ib (aL zeroValue43) dC ?_;rintro _ _ _ ⟨N,rfl,rfl,rfl⟩;refine iF<|dr<|hX<|hX<|cu<|Ia (qL (v:=.map<|some m) eE I<|ao.known hb I) dC<|Ib (bS sty146 I I I (ab ⟨I,trivial⟩)<|bE I) dC ?_;rintro _ _ _ ⟨b7,rfl,rfl,rfl⟩;refine XL.freeze fun g1 O X=>?_;have Y:SlA D9 g1 (.slice (some ⟨b7,0,none⟩) 1 1) [m]:=kb X rfl rfl;refine Ib (bt call54 I<|p8 E g1 _ _ 1 1) dC ?_;rintro _ g2 _ ⟨rfl,A,ba,rfl,Z⟩;have t:=O.trans A;have a0:=nz E hE g2 ba _ 1 [m] [S] Z (za5 Y A) ⟨W.mono t,trivial⟩ (fun L hL x hx=>by rw[zh8.1 hL] at hx ;exact hi x hx) (by simpa using hl) dO;refine iF<|dr<|uu<|Jw (g':=g2) (s':=rowA encInt 3 (.slice none 0 0) []::pt N (bY #[.slice none 0 0] 43)::pt M (.cells #[.func (.func H) #[] J] 104 (0,0))::s) (fun w hw=>hw.nilRow 3 1)<|Jp (α:=Int) (ι:=PH×Value×List Int) (κ:=Unit) (encs:=fun v=>[vi v]) (xs:=iJ [S]) (g0:=g2) (fun i=>i.1) (fun i=>rowA encInt 3 i.2.1 i.2.2::pt N (bY #[i.2.1] 43)::pt M (.cells #[.func (.func H) #[] J] 104 (0,0))::[])
  (fun pre i=>Le g2 i.1∧i.2.2=pre.filter fun id=>q<|(ah S id).getD aJ) (g2,.slice none 0 0,[]) s
  (fun x=>[(9,vi x),(1,pp G 0),(2,pp M 0),(4,pp N 0)]) (fun _ x _ _=>[(5,vi x),(1,pp G 0),(2,pp M 0),(4,pp N 0)]) (fun _ _=>[])
  rfl rfl call101 (fun _=>rfl) rfl rfl a0 (fun _ _ h=>h.1) (fun pre i g' hJ hl=>⟨(g',i.2),⟨hJ.1.trans hl,hJ.2⟩,rfl,rfl⟩) ⟨zb9 _,rfl⟩
  (fun x a h=>tg (h.sub (g:=[(1,pp G 0),(2,pp M 0),(4,pp N 0)]) sB) dC) ?_ ?_ ?_
 ·intro y pre x i sx hJ;exact cu<|ka (aS I) dC<|iF<|I1 () sB I
 ·rintro y pre x suf ⟨g3,ov,acc⟩ sx _ - P ⟨d,f⟩;dsimp only at d f ⊢;have j:=t.trans d;have C:=K.mono fun _ _ h=>an.mono j h;have B:x∈iJ [S]:=by rw[P];simp
  have Q:=ze3 List.length P;rw[oA V] at B Q;obtain ⟨c,hc,rfl⟩:=zf3.1 B;have R:=Ae V hc;obtain ⟨r,a1,a4,z⟩:=dQ C iw c.id;have z:an g3 ((ah S c.id).getD aJ) r:=z;rw[R] at z;have z:an g3 c r:=z;have a3:acc.length<1000000:=by
   have h1:acc.length≤pre.length:=by rw[f];exact zc6 _ _
   rw[ze7,ze6] at Q;omega
  have n:(pre++[c.id]).filter (fun id=>q<|(ah S id).getD aJ)=acc++if q c=true then [c.id] else []:=by
   rw[zh7,← f];refine ze3 _ ?_;rw[zi8,R];rfl
  refine Jv fun ⟨T,p⟩=>?_;obtain ⟨p0,c0,rfl⟩:=ag (e:=encInt) (l:=acc) (i:=0) p rfl;clear p T;refine uu<|hX<|cu<|Ia (qL (v:=.func (.func H) #[] J) isAgg104 I<|cO 2 I I) dC<|Ia (qL (v:=.map<|some m) eE I<|ao.known (j _ _ hb) I) dC<|Ia (qL (v:=.map<|some m) eE I<|ao.known (j _ _ hb) I) dC<|ka (mV I) dC<|Ia (SQ.eq (v':=rcv r) (H6 mty57 I I<|bo.known<|hm.mono j)<|by rw[a1]) dC ?_;refine Ib (DO I I<|hq g3 _ c r j hc z) dC ?_;rintro _ g4 _ ⟨rfl,k,rfl⟩;refine iF (dr<|XC.ifB I (fun F=>?_) fun F=>?_)
  ·rw[zg2 F] at n;refine cu<|Ia (qL (v:=.slice p0 acc.length c0) iE I<|cO 1 I I) dC<|ka (mV I) dC<|Ib (bS sty43 I I I (ab ⟨I,trivial⟩) dC) dC ?_;rintro _ _ _ ⟨a5,rfl,rfl,rfl⟩;refine Ib (aP (e:=encInt) (l:=acc) 0 c.id sty43 I I I I I oM oM) dC ?_;rintro ov' _ _ ⟨rfl,rfl⟩;refine Jh fun ⟨T,p⟩=>?_;obtain ⟨q1,d1,rfl⟩:=ag (e:=encInt) (l:=acc++[c.id]) (i:=0) p rfl;clear p T;refine ID (sK 1 gy I I I I I sB) ?_;rintro _ _ _ ⟨rfl,rfl⟩;exact iF<|wc<|Ii (g4,_,acc++[c.id]) I I ⟨d.trans k,n.symm⟩ k
  ·rw[zg1<|by rw[F];decide,zc7] at n;exact Ip<|wc<|Ii (g4,_,acc) I I ⟨d.trans k,n.symm⟩ k
 ·rintro D ⟨g3,ov,acc⟩ ⟨d,f⟩;dsimp only at d f ⊢;rw[Bt V q] at f;subst f;refine Jy fun ⟨T,p⟩=>?_;obtain ⟨p0,c0,rfl⟩:=ag (e:=encInt) (l:=dL q S) (i:=1) p rfl;clear p T;refine wc<|dr<|hX<|cu<|Ia (qL (v:=.slice p0 (dL q S).length c0) iE I<|cO 2 I I) dC<|ka (aS I) dC<|iF<|dr<|Jg<|II (.inl I)<|fT fun g4 k a2=>?_;exact dR (s':=s) uR<|za8 (.inl I) results56 I ⟨I,t.trans<|d.trans k,a2⟩
theorem uV (E:World)(hE:E.drawn=0)(g:PH)(s:Own)(tv:Value)(S:List Cl)(hv:mB g tv S)(U:S.Pairwise fun a b=>a.id<b.id)(hi:∀ x∈S,bh x.id)(hl:S.length<1000000) :
  Ctr Tryz.prog E 61 #[tv] g s fun r g' s'=>s=s'∧Le g g'∧∃ u,r = .agg #[u]∧ai g' u S:=by
 have V:=hv;obtain ⟨m,rs,rfl,hm,k⟩:=hv;have H:=k.length;have n:=zN k;refine Jj (args:=[.map<|some m]) func61 I ntmps61 (bE I)<|hX<|cu<|Ib (bO I) dC ?_;rintro _ _ _ ⟨N,rfl,rfl,rfl⟩;refine Ib (aL zl9) dC ?_;rintro _ _ _ ⟨F,rfl,rfl,rfl⟩;refine iF<|dr<|hX<|cu<|Ib (aL zl9) dC ?_;rintro _ _ _ ⟨G,rfl,rfl,rfl⟩;refine iF<|dr<|hX<|hX<|Jw (g':=g) (s':=pt N (bY #[.map<|some m] 57)::pt G (bY #[.slice none 0 0] 29)::pt F (bY #[.slice none 0 0] 29)::s) (fun w W=>W.perm<|(List.Perm.cons _<|zk2 _ _ _).trans<|zk2 _ _ _)<|XC.freeze fun g0 J K=>?_;refine cu<|Ia (qL (v:=.map<|some m) eE I<|ao.known K I) dC<|Ib (bS sty146 I I I (ab ⟨I,trivial⟩)<|bE I) dC ?_;rintro _ _ _ ⟨b6,rfl,rfl,rfl⟩;refine XL.freeze fun g1 t X=>?_;have Y:SlA D9 g1 (.slice (some ⟨b6,0,none⟩) 1 1) [m]:=kb X rfl rfl;refine Ib (bt call54 I<|p8 E g1 _ _ 1 1) dC ?_;rintro _ g2 _ ⟨rfl,p,ba,rfl,Z⟩;have f:=J.trans<|t.trans p;have a0:=nz E hE g2 ba _ 1 [m] [S] Z (za5 Y p) ⟨V.mono f,trivial⟩ (fun L hL x hx=>by rw[zh8.1 hL] at hx ;exact hi x hx) (by simpa using hl) dO;refine iF<|dr<|uu<|Jw (g':=g2) (s':=rowA encCell 61 (.slice none 0 0) []::pt G (bY #[.slice none 0 0] 29)::pt F (bY #[.slice none 0 0] 29)::s) (fun w W=>W.nilRow 61 3)<|Jp (α:=Int) (ι:=PH×Value×List Rc) (κ:=Unit) (encs:=fun v=>[vi v]) (xs:=iJ [S]) (g0:=g2) (fun i=>i.1) (fun i=>rowA encCell 61 i.2.1 i.2.2::pt G (bY #[i.2.1] 29)::pt F (bY #[.slice none 0 0] 29)::[])
  (fun pre i=>Le g2 i.1∧i.2.2=rs.take pre.length) (g2,.slice none 0 0,[]) s
  (fun x=>[(8,vi x),(1,pp N 0),(2,pp F 0),(3,pp G 0)]) (fun _ x _ _=>[(4,vi x),(1,pp N 0),(2,pp F 0),(3,pp G 0)]) (fun _ _=>[])
  rfl rfl call101 (fun _=>rfl) rfl rfl a0 (fun _ _ h=>h.1) (fun pre i g' hJ hl=>⟨(g',i.2),⟨hJ.1.trans hl,hJ.2⟩,rfl,rfl⟩) ⟨zb9 _,by simp⟩
  (fun x a h=>tg (h.sub (g:=[(1,pp N 0),(2,pp F 0),(3,pp G 0)]) sB) dC) ?_ ?_ ?_
 ·intro y pre x i sx hJ;exact cu<|ka (aS I) dC<|iF<|I1 () sB I
 ·rintro y pre x suf ⟨g3,ov,acc⟩ sx _ - A ⟨c,d⟩;dsimp only at c d ⊢;have B:=f.trans c;rw[oA U] at A;have C:pre.length<rs.length:=by
   have:=ze3 List.length A;rw[ze7,ze6,ze9] at this;omega
  have a1:rs[pre.length].id=x:=by
   have h1:(S.map Cl.id)[pre.length]?=some x:=by rw[A];simp
   rw[← n,zi1,zi1,bd C] at h1;simpa [au] using h1
  have a2:(rs.map Rc.id).Nodup:=by
   have h6:rs.map Rc.id=S.map Cl.id:=by rw[← n,zi6];rfl
   rw[h6];exact zk5.2 (U.imp fun h=>by omega)
  have a3:eU (rs.map au) x=some (rcv rs[pre.length]):=by rw[← a1];exact zU a2 C
  have a4:rs.take (pre.length+1)=acc++[rs[pre.length]]:=by rw[tS C,← d]
  have a9:acc.length<1000000:=by rw[d,ze5];omega
  generalize rs[pre.length]=r at *;obtain ⟨O,P,Q,R,T⟩:=r;refine Jv fun ⟨M,j⟩=>?_;obtain ⟨p0,c0,rfl⟩:=ag (e:=encCell) (l:=acc) (i:=0) j rfl;clear j M;refine uu<|cu<|ka (bj dw I cg I) dC<|Ia (qL (v:=.slice p0 acc.length c0) ei I<|cO 1 I I) dC<|Ia (qL (v:=.map<|some m) eE I<|ao.known ((t.trans<|p.trans c) _ _ K) I) dC<|ka (mV I) dC<|Ia (SQ.eq (v':=.agg #[vi O,vi P,.slice Q R T]) (H6 mty57 I I<|bo.known<|hm.mono B)<|by rw[a3];rfl) dC<|Ib (bS sty27 I I I (ab ⟨I,trivial⟩) dC) dC ?_;rintro _ _ _ ⟨b0,rfl,rfl,rfl⟩;refine Ib (aP (e:=encCell) (l:=acc) 0 ⟨O,P,⟨Q,R,T⟩⟩ sty27 I I I I I oM oM) dC ?_;rintro ov' _ _ ⟨rfl,rfl⟩;refine Jh fun ⟨M,j⟩=>?_;obtain ⟨q1,d1,rfl⟩:=ag (e:=encCell) (l:=acc++[⟨O,P,⟨Q,R,T⟩⟩]) (i:=0) j rfl;clear j M;refine ka (bj dw I cg I) dC<|ID (sK 1 cg I I I I I sB) ?_;rintro _ _ _ ⟨rfl,rfl⟩;exact iF<|wc<|Ii (g3,_,acc++[⟨O,P,⟨Q,R,T⟩⟩]) I I ⟨c,by dsimp only;rw[ze6,ze8];exact a4.symm⟩<|zb9 _
 ·rintro D ⟨g3,ov,acc⟩ ⟨c,d⟩;dsimp only at c d ⊢;rw[oA U,ze7,H,List.take_length] at d;subst d;refine Jy fun ⟨M,j⟩=>?_;obtain ⟨p0,c0,rfl⟩:=ag (e:=encCell) (l:=acc) (i:=1) j rfl;clear j M;refine wc<|dr<|hX<|cu<|Ia (qV 2 aj ae I I I) dC<|ID (sK 3 ae I I I I I sB) ?_;rintro _ _ _ ⟨rfl,rfl⟩;refine iF<|dr<|Jg<|II (.inl I)<|fT fun g4 z a5=>?_;exact kn 1 s (.inl I) results61 I aj ae I I uR ⟨I,f.trans<|c.trans z,_,I,acc,a5,k.mono fun _ _ h=>an.mono (f.trans<|c.trans z) h⟩
end Go.Proofs.YtpmoadbbfobbcaaGreatDoor
