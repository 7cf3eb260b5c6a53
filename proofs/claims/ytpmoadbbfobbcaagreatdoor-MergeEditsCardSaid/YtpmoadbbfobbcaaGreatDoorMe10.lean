/- 10 -/
import Derived.Test.YtpmoadbbfobbcaaGreatDoorMe09
import Derived.RangeFuncLeaves
import Derived.RangeFuncRecord
import Derived.RangeFuncSeq
import Derived.OrdersIn
import Derived.TacticsIn
import Derived.Laws.BytesString
import Derived.Laws.Strings
import Derived.Shelf.Strings.Trim
set_option linter.unusedSimpArgs false
set_option linter.unusedVariables false
set_option linter.defProp false
namespace Go.Proofs.YtpmoadbbfobbcaaGreatDoor
open _root_.Go.Proofs.Tryz _root_.Go.Proofs.YtpmoadbbfobbcaaGreatDoor.Tryz
open Go Go.Sy Go.Pl Go.Proofs
def zr (tl:List Cl)(l:List ak)(r:Int):Int:=(l.flatMap fun x=>(az tl x).map fun q=>if q.cell=r then x.sign * q.sign else 0).sum
def lg (tl:List Cl)(x:ak)(r:Int):Nat:=((az tl x).filter fun q=>decide<|q.cell=r).length
def cntR (tl:List Cl)(l:List ak)(r:Int):Nat:=(l.map fun x=>lg tl x r).sum
def lE (tl:List Cl)(l:List ak)(a b:Int):Prop:=∃ x∈l,∃ y∈l,x.cell=a∧y.cell=b∧∃ r,0<lg tl x r∧0<lg tl y r
theorem vM (b:List<|Int×Int)(k x r:Int):ff (fQ b k x) r=ff b r+if r=k then x else 0:=by
 induction b with
 | nil =>
  simp only[fQ,ff];split <;> simp
 | cons p q ih =>
  obtain ⟨a,z⟩:=p;simp only[fQ];by_cases h:k=a
  ·subst h;simp only[if_true,ff];split <;> simp
  ·rw[zg1 h];simp only[ff,ih];by_cases hr:r=a
   ·subst hr;rw[zg2 rfl,zg2 rfl,zg1 fun e=>h e.symm];omega
   ·rw[zg1 hr,zg1 hr]
theorem sF (x:ak)(r:Int):∀ (l:List ak) (a:List<|Int×Int),ff (l.foldl (j8 x) a) r=ff a r+(l.map fun q=>if q.cell=r then x.sign * q.sign else 0).sum
 | [],a=>by simp
 | q::l,a=>by
  simp only[zi9,zg5,List.sum_cons];rw[sF x r l,j8,vM];by_cases h:r=q.cell
  ·rw[zg2 h,zg2 h.symm];omega
  ·rw[zg1 h,zg1 fun e=>h e.symm];omega
theorem vL (tl:List Cl)(l:List ak)(r:Int):ff (fU tl l) r=zr tl l r:=by
 have:∀ (l:List ak) (a:List<|Int×Int),ff (l.foldl (fun a x=>(az tl x).foldl (j8 x) a) a) r=ff a r+zr tl l r:=by
  intro l;induction l with
  | nil=>intro a;simp[zr]
  | cons x q ih =>
   intro a;simp only[zi9];rw[ih,sF];simp only[zr,zh6,List.sum_append];omega
 have h:=this l [];simpa [fU,ff] using h
theorem qe (ml:List<|Int×Int)(k x:Int):(fQ ml k x).map Prod.fst=if ml.any (fun p=>decide<|p.1=k) then ml.map Prod.fst else ml.map Prod.fst++[k]:=by
 induction ml with
 | nil=>simp[fQ]
 | cons p r ih =>
  obtain ⟨a,l⟩:=p;simp only[fQ];by_cases h:k=a
  ·subst h;simp
  ·have b:¬ a=k:=fun e=>h e.symm;rw[zg1 h];simp only[zg5,ih,List.any_cons,b,decide_false,Bool.false_or];split <;> simp
theorem BM {ml:List<|Int×Int}(h:(ml.map Prod.fst).Nodup)(k x:Int):((fQ ml k x).map Prod.fst).Nodup:=by
 rw[qe];split
 ·exact h
 ·rename_i d;rw[List.nodup_append];refine⟨h,by simp,fun a f b hb e=>d ?_⟩;simp at hb;subst hb;obtain ⟨p,hp,c⟩:=zf3.1 f;rw[zj9];exact⟨p,hp,by simp[c,e]⟩
theorem lB (tl:List Cl)(l:List ak):((fU tl l).map Prod.fst).Nodup:=by
 have b:∀ (x:ak) (q:List ak) (a:List<|Int×Int),(a.map Prod.fst).Nodup→((q.foldl (j8 x) a).map Prod.fst).Nodup:=by
  intro x q;induction q with
  | nil=>intro a h;exact h
  | cons r t ih=>intro a h;exact ih _<|BM h _ _
 have c:∀ (q:List ak) (a:List<|Int×Int),(a.map Prod.fst).Nodup→((q.foldl (fun a x=>(az tl x).foldl (j8 x) a) a).map Prod.fst).Nodup:=by
  intro q;induction q with
  | nil=>intro a h;exact h
  | cons x t ih=>intro a h;exact ih _<|b _ _ _ h
 exact c _ _ dO
theorem oy:∀ {b:List<|Int×Int},(b.map Prod.fst).Nodup→∀ p∈b,ff b p.1=p.2
 | [],_,p,hp=>by simp at hp
 | (a,z)::r,h,p,hp=>by
  simp only[zg5,zk3] at h
  rcases zf2.1 hp with rfl | hp
  ·simp[ff]
  ·simp only[ff];rw[zg1 fun e=>h.1<|zf3.2 ⟨p,hp,e⟩];exact oy h.2 p hp
theorem px:∀ {b:List<|Int×Int} {k:Int},ff b k≠0→∃ p∈b,p.1=k∧p.2=ff b k
 | [],_,h=>by simp[ff] at h
 | (a,z)::r,k,h=>by
  simp only[ff] at h ⊢;split
  ·rename_i e;exact⟨(a,z),by simp,e.symm,I⟩
  ·rename_i e;rw[zg1 e] at h;obtain ⟨p,hp,c,d⟩:=px h;exact⟨p,by simp[hp],c,d⟩
theorem o6 (tl:List Cl)(l:List ak):(fU tl l).any (fun p=>decide<|p.2≠0)=false↔∀ r,zr tl l r=0:=by
 rw[zk6];constructor
 ·intro h r;rw[← vL];refine zh1 fun a=>?_;obtain ⟨p,hp,_,b⟩:=px a;exact h p hp (by simpa [b] using a)
 ·intro h p hp;have:=oy (lB tl l) p hp;rw[vL,h] at this;simp[← this]
theorem sG (i r:Int):∀ (l:List ak) (ml:List<|Int×List Int),fD (l.foldl (fz i) ml) r=fD ml r++List.replicate (l.filter fun q=>decide<|q.cell=r).length i
 | [],ml=>by simp
 | q::l,ml=>by
  simp only[zi9];rw[sG i r l,fz,vO,zi8];by_cases h:r=q.cell
  ·rw[zg2 h,zg2<|by simp[h]];simp[List.replicate_succ]
  ·rw[zg1 h,zg1<|by simp;exact fun e=>h e.symm]
theorem z7 (tl:List Cl)(l:List ak)(r:Int):fD (fu tl l) r=l.zipIdx.flatMap fun p=>List.replicate (lg tl p.1 r) (p.2:Int):=by
 have:∀ (q:List<|ak×Nat) (ml:List<|Int×List Int),fD (q.foldl (fun ml p=>(az tl p.1).foldl (fz p.2) ml) ml) r=fD ml r++q.flatMap fun p=>List.replicate (lg tl p.1 r) (p.2:Int):=by
  intro q;induction q with
  | nil=>intro ml;simp
  | cons p t ih =>
   intro ml;simp only[zi9];rw[ih,sG];simp[lg]
 have h:=this l.zipIdx [];simpa [fu,fD] using h
theorem Cu (tl:List Cl)(l:List ak)(r:Int):(fD (fu tl l) r).length=cntR tl l r:=by
 rw[z7];have:∀ (l:List ak) (k:Nat),((l.zipIdx k).flatMap fun p=>List.replicate (lg tl p.1 r) (p.2:Int)).length=cntR tl l r:=by
  intro l;induction l with
  | nil=>intro k;rfl
  | cons x q ih=>intro k;simp only[List.zipIdx_cons,zh6,ze6,List.length_replicate,ih,cntR,zg5,List.sum_cons]
 exact this l 0
theorem oS (tl:List Cl)(l:List ak)(r i:Int):i∈fD (fu tl l) r↔∃ k:Nat,i=k∧∃ x,l[k]?=some x∧0<lg tl x r:=by
 rw[z7,List.mem_flatMap];constructor
 ·rintro ⟨⟨x,k⟩,hp,a⟩;obtain ⟨b,rfl⟩:=List.mem_replicate.1 a;refine⟨k,I,x,?_,Nat.pos_of_ne_zero b⟩;simpa using List.mem_zipIdx_iff_getElem?.1 hp
 ·rintro ⟨k,rfl,x,c,d⟩;exact⟨(x,k),List.mem_zipIdx_iff_getElem?.2<|by simpa using c,List.mem_replicate.2 ⟨Nat.ne_of_gt d,I⟩⟩
theorem oz:∀ {ml:List<|Int×List Int},(ml.map Prod.fst).Nodup→∀ p∈ml,fD ml p.1=p.2
 | [],_,p,hp=>by simp at hp
 | (a,z)::r,h,p,hp=>by
  simp only[zg5,zk3] at h
  rcases zf2.1 hp with rfl | hp
  ·simp[fD]
  ·simp only[fD];rw[zg1 fun e=>h.1<|zf3.2 ⟨p,hp,e⟩];exact oz h.2 p hp
theorem py:∀ {ml:List<|Int×List Int} {k:Int},fD ml k≠[]→∃ p∈ml,p.1=k∧p.2=fD ml k
 | [],_,h=>by simp[fD] at h
 | (a,z)::r,k,h=>by
  simp only[fD] at h ⊢;split
  ·rename_i e;exact⟨(a,z),by simp,e.symm,I⟩
  ·rename_i e;rw[zg1 e] at h;obtain ⟨p,hp,b,c⟩:=py h;exact⟨p,by simp[hp],b,c⟩
theorem CR:∀ {ml:List<|Int×List Int} {k x:Int},(∀ p∈ml,p.2≠[])→∀ p∈ii ml k x,p.2≠[]
 | [],_,_,_,p,hp=>by simp[ii] at hp;subst hp;simp
 | (a,l)::r,k,x,h,p,hp=>by
  unfold ii at hp;split at hp
  ·rcases zf2.1 hp with rfl | hp
   ·simp
   ·exact h p (by simp[hp])
  ·rcases zf2.1 hp with rfl | hp
   ·exact h _ dO
   ·exact CR (fun q hq=>h q<|by simp[hq]) p hp
theorem Hm (tl:List Cl)(l:List ak):∀ p∈fu tl l,p.2≠[]:=by
 have a:∀ (i:Int) (q:List ak) (ml:List<|Int×List Int),(∀ p∈ml,p.2≠[])→∀ p∈q.foldl (fz i) ml,p.2≠[]:=by
  intro i q;induction q with
  | nil=>intro ml h;exact h
  | cons r t ih=>intro ml h;exact ih _<|CR h
 have b:∀ (q:List<|ak×Nat) (ml:List<|Int×List Int),(∀ p∈ml,p.2≠[])→∀ p∈q.foldl (fun ml p=>(az tl p.1).foldl (fz p.2) ml) ml,p.2≠[]:=by
  intro q;induction q with
  | nil=>intro ml h;exact h
  | cons x t ih=>intro ml h;exact ih _<|a _ _ _ h
 exact b _ _ dO
theorem zV (tl:List Cl)(l:List ak):(fu tl l).any (fun p=>decide<|(p.2.length:Int)≠2)=false↔∀ r,cntR tl l r=0∨cntR tl l r=2:=by
 rw[zk6];constructor
 ·intro h r;rw[← Cu];by_cases a:fD (fu tl l) r=[]
  ·left;rw[a];rfl
  ·right;obtain ⟨p,hp,_,b⟩:=py a;have:=h p hp;rw[b] at this;simp at this;omega
 ·intro h p hp;have c:=oz (kX tl l) p hp;have b:=h p.1;rw[← Cu,c] at b;have d:=List.length_pos_iff.2<|Hm tl l p hp;simp;omega
theorem Hn (tl:List Cl)(l:List ak):∀ p∈fu tl l,∀ x∈p.2,0≤x∧x<(l.length:Int):=fun p hp x a=>by
 rw[← oz (kX tl l) p hp] at a;obtain ⟨k,rfl,y,b,_⟩:=(oS tl l p.1 x).1 a;have:=(zf6.1 b).1;omega
theorem EF {ml:List<|Int×List Int}{n:Nat}(k:∀ p∈ml,p.2.length=2)(hb:∀ p∈ml,∀ x∈p.2,0≤x∧x<(n:Int))(t:0<n):(jN<|dU ml).length=n↔∀ a:Nat,a<n→Cn (eY ml) 0 a:=by
 have c:∀ x:Int,x∈jN (dU ml)↔Rch (kE<|dU ml) 0 x:=fun x=>xz (cnt:=oI<|dU ml) (fun v v' h=>j5 h) (lX _) (zk9<|zc6 _ _) (by simp[kE]) x;have d:(jN<|dU ml).Nodup:=j4 _ _ _ _ dO;have f:∀ x∈jN (dU ml),0≤x∧x<(n:Int):=fun x g=>by
  have hr:=(uZ k 0 x).1<|(c x).1 g;have:∀ a b,Cn (eY ml) a b→(0≤a∧a<(n:Int))→(0≤b∧b<(n:Int)):=by
   intro a b h;induction h with
   | refl _=>exact fun h=>h
   | step e _ ih =>
    intro _
    rcases e with e | e
    ·exact ih (jd hb e).2
    ·exact ih (jd hb e).1
  exact this 0 x hr oM
 generalize jN (dU ml)=seen at *;constructor
 ·intro hl a u;refine Classical.byContradiction fun o=>?_;have q:(a:Int) ∉ seen:=fun h=>o<|(uZ k 0 a).1<|(c a).1 h;have:=mL (l:=(a:Int)::seen) (n:=n) (zk3.2 ⟨q,d⟩) fun x g=>by
   rcases zf2.1 g with rfl | g
   ·omega
   ·exact f x g
  simp at this;omega
 ·intro j;refine Nat.le_antisymm (mL d f) ?_;have s:=eG (m:=List.range n) (l:=seen.map Int.toNat) List.nodup_range (pg d fun x g=>(f x g).1) fun i r=>by
   have r:=List.mem_range.1 r;exact zf3.2 ⟨(i:Int),(c i).2<|(uZ k 0 i).2<|j i r,by simp⟩
  simpa using s
theorem Cn.map {E E':Int→Int→Prop}{f:Int→Int}(h:∀ a b,E a b→Cn E' (f a) (f b)){a b:Int}(hc:Cn E a b):Cn E' (f a)<|f b:=by
 induction hc with
 | refl _=>exact .refl _
 | step e _ ih =>
  rcases e with e | e
  ·exact (h _ _ e).trans ih
  ·exact (h _ _ e).symm.trans ih
variable {l tl:List Cl}{c:Cl}{p:Int→Bool}
theorem kZ (J:0<c.sides.length)(K:(c.sides.map ak.cell).Nodup) :
  bM tl c=0↔(∀ r,zr tl c.sides r=0)∧(∀ r,cntR tl c.sides r=0∨cntR tl c.sides r=2)∧∀ x∈c.sides,∀ y∈c.sides,Cn (lE tl c.sides) x.cell y.cell:=by
 unfold bM;generalize c.sides=l at *;by_cases G:(fU tl l).any (fun p=>decide<|p.2≠0)=false
 ·rw[zg1<|by rw[G];simp];by_cases hm:(fu tl l).any (fun p=>decide<|(p.2.length:Int)≠2)=false
  ·rw[zg1<|by rw[hm];simp];have L:∀ p∈fu tl l,p.2.length=2:=fun p hp=>by
    have:=zk6.1 hm p hp;simp at this;omega
   have M:=EF L (Hn tl l) J;have o:∀ {i j:Nat} {x y:ak},l[i]?=some x→l[j]?=some y→x.cell=y.cell→i=j:=fun {i j x y} n g e=>by
    obtain ⟨i1,T⟩:=zf6.1 n;obtain ⟨i2,U⟩:=zf6.1 g;have key:∀ {a b:Nat} (D:a<l.length) (hb:b<l.length),a<b→l[a].cell≠l[b].cell:=fun {a b} D hb h=>by
     have:=zd1.1 K a b (by simpa using D) (by simpa using hb) h;simpa using this
    rcases Nat.lt_trichotomy i j with h | h | h
    ·exact absurd (by rw[T,U];exact e)<|key i1 i2 h
    ·exact h
    ·exact absurd (by rw[T,U];exact e.symm)<|key i2 i1 h
   have t:(∀ a:Nat,a<l.length→Cn (eY<|fu tl l) 0 a)↔∀ x∈l,∀ y∈l,Cn (lE tl l) x.cell y.cell:=by
    constructor
    ·intro d x A y s;obtain ⟨i,n,rfl⟩:=zc8 A;obtain ⟨j,g,rfl⟩:=zc8 s;have hc:=(d i n).symm.trans<|d j g;have:=hc.map (f:=fun a=>(l.getD a.toNat ⟨0,0⟩).cell) (E':=lE tl l) fun a b hl=>by
      obtain ⟨p,hp,B,C⟩:=hl;rw[← oz (kX tl l) p hp] at B C;obtain ⟨k,rfl,x,A,H⟩:=(oS tl l p.1 a).1<|List.mem_of_head? B;obtain ⟨m,rfl,y,s,N⟩:=(oS tl l p.1 b).1 C;refine .one ⟨x,zg3 A,y,zg3 s,?_,?_,p.1,H,N⟩
      ·simp[zh2,A]
      ·simp[zh2,s]
     simpa [zh2,n,g] using this
    ·intro d;have key:∀ a b,Cn (lE tl l) a b→∀ (i:Nat) (x:ak),l[i]?=some x→x.cell=a→∀ (j:Nat) (y:ak),l[j]?=some y→y.cell=b→Cn (eY<|fu tl l) (i:Int) (j:Int):=by
      have one:∀ {a b:Int},lE tl l a b→∀ (i:Nat) (x:ak),l[i]?=some x→x.cell=a→∃ (j:Nat) (y:ak),l[j]?=some y∧y.cell=b∧Cn (eY<|fu tl l) (i:Int) (j:Int):=by
       rintro a b ⟨x',O,y,s,rfl,rfl,r,B,C⟩ i x n E;obtain ⟨i',F,rfl⟩:=zc8 O;obtain ⟨j,g,rfl⟩:=zc8 s;have P:=o n (bd F) E;subst P;refine⟨j,l[j],bd g,I,?_⟩;have m1:=(oS tl l r i).2 ⟨i,rfl,l[i],bd F,B⟩;have m2:=(oS tl l r j).2 ⟨j,rfl,l[j],bd g,C⟩;obtain ⟨p,hp,_,Q⟩:=py (ml:=fu tl l) (k:=r) fun e=>by rw[e] at m1;simp at m1
       rw[← Q] at m1 m2;cases H:p.2 with
       | nil=>rw[H] at m1;simp at m1
       | cons u q =>
        have V:∀ v∈p.2,eY (fu tl l) u v:=fun v W=>⟨p,hp,by rw[H];rfl,W⟩;exact (Cn.one<|V _ m1).symm.trans<|Cn.one<|V _ m2
      intro a b hc;induction hc with
      | refl a =>
       intro i x n E j y g w;have:=o n g<|E.trans w.symm;subst this;exact .refl _
      | step e _ ih =>
       intro i x n E j y g w;have e':lE tl l _ _:=e.elim (fun e=>e) fun ⟨x,A,y,s,X,L,r,B,C⟩=>⟨y,s,x,A,L,X,r,C,B⟩;obtain ⟨k,z,Y,hz,hc⟩:=one e' i x n E;exact hc.trans<|ih k z Y hz j y g w
     intro a D;exact key _ _ (d _ (gM J) _<|gM D) 0 _ (bd J) I a _ (bd D) I
   rw[← t,← M];constructor
   ·intro h;refine⟨(o6 tl l).1 G,(zV tl l).1 hm,?_⟩;refine zh1 fun Z=>?_;rw[zg2 oM] at h;exact absurd h dC
   ·rintro ⟨_,_,h⟩;rw[zg1 oM]
  ·have R:(fu tl l).any (fun p=>decide<|(p.2.length:Int)≠2)=true:=by simpa using hm
   rw[zg2 R];exact⟨fun h=>absurd h dC,fun h=>absurd ((zV tl l).2 h.2.1) hm⟩
 ·have S:(fU tl l).any (fun p=>decide<|p.2≠0)=true:=by simpa using G
  rw[zg2 S];exact⟨fun h=>absurd h dC,fun h=>absurd ((o6 tl l).2 h.1) G⟩
structure Fm (tl:List Cl)(c:Cl):Prop where
 dim:0≤c.dim∧c.dim≤8
 cnt:aY c=false
 found:∀ x∈c.sides,∃ d,ah tl x.cell=some d∧d.dim=c.dim - 1
 asc:c.sides.Pairwise fun a b=>a.cell<b.cell
 sg:∀ x∈c.sides,x.sign=1∨x.sign = -1
 one:c.dim=1→nG c.sides=0
theorem Fm.ok (h:Fm tl c):dj tl c=0:=GJ h.dim h.cnt h.found h.asc h.sg h.one
theorem HA {l:List ak}(c:l.Pairwise fun a b=>a.cell≤b.cell)(hd:∀ i x y,l[i]?=some x→l[i+1]?=some y→x.cell≠y.cell):l.Pairwise fun a b=>a.cell<b.cell:=by
 induction l with
 | nil=>exact List.Pairwise.nil
 | cons a r ih =>
  obtain ⟨d,e⟩:=zk4.1 c;have hr:=ih e fun i x y f g=>hd (i+1) x y (by simpa using f) (by simpa using g);refine zk4.2 ⟨fun b hb=>?_,hr⟩;cases r with
  | nil=>simp at hb
  | cons z q =>
   have hz:a.cell<z.cell:=by
    have:=d z dO;have:=hd 0 a z rfl rfl;omega
   rcases zf2.1 hb with rfl | hb
   ·exact hz
   ·have:=(zk4.1 hr).1 b hb;omega
theorem HS (h:dj tl c=0)(l:c.sides.Pairwise fun a b=>a.cell≤b.cell):Fm tl c:=by
 unfold dj at h;split at h
 ·cases h
 ·rename_i m;split at h
  ·cases h
  ·rename_i n;split at h
   ·cases h
   ·rename_i o;split at h
    ·cases h
    ·rename_i p;split at h
     ·cases h
     ·rename_i q;have f:∀ i x,c.sides[i]?=some x→cJ tl c i x=false:=fun i x g=>by
       have j:=(zf6.1 g).1;have:=zk6.1 ((zj8 _).mp o) i<|List.mem_range.2 j;unfold jz at this;rw[g] at this;simpa using this
      refine⟨?_,by simpa using n,fun x g=>?_,HA l fun i x y g r e=>?_,fun x g=>?_,fun hd=>?_⟩
      ·simp[gp] at m;omega
      ·obtain ⟨i,j,rfl⟩:=zc8 g;have:=f i _<|bd j;unfold cJ at this;simp only[Bool.or_eq_false_iff,Bool.not_eq_false',hP,ne_eq,Decidable.not_not] at this;obtain ⟨⟨g1,g2⟩,_⟩:=this;obtain ⟨d,hd⟩:=zh9.1 g1;rw[hd] at g2;exact⟨d,hd,g2⟩
      ·have:=f (i+1) y r;unfold cJ at this;rw[show i+1 - 1=i by omega,g] at this;simp[e] at this
      ·have:=zk6.1 ((zj8 _).mp p) x g;simp[cj] at this;by_cases k:x.sign=1
       ·exact .inl k
       ·exact .inr<|this k
      ·simpa [hd] using q
structure Rt (l:List Cl):Prop where
 few:l.length≤4000
 asc:l.Pairwise fun a b=>a.id<b.id
 pos:∀ x∈l,0<x.id
 form:∀ x∈l,Fm l x
 around:∀ x∈l,x.dim>1→bM l x=0
theorem Rt.canon (h:Rt l):aa l=l:=by
 unfold aa;rw[(bl (key:=Cl.id) (h.asc.imp fun h=>by omega)<|aN.refl l).symm];have:∀ c∈l,cH c=c:=fun c hc=>by
  unfold cH;rw[(bl (key:=ak.cell) ((h.form c hc).asc.imp fun h=>by omega)<|aN.refl c.sides).symm]
 rw[zc9 this];simp
theorem Rt.tab (h:Rt l):am l=l:=by rw[bH<|by rw[h.canon];exact h.asc,h.canon]
theorem Rt.check (h:Rt l):aq l=(0,0):=by
 refine Aj h.few ?_ ?_ ?_ ?_ <;> rw[h.canon]
 ·exact h.pos
 ·exact h.asc
 ·exact fun x a=>(h.form x a).ok
 ·exact h.around
theorem Rt.find (h:Rt l)(hc:c∈l):ah l c.id=some c:=by
 refine tW ?_ hc;rw[List.Nodup,zk5];exact h.asc.imp fun h=>by omega
theorem lm {tl:List Cl}:∀ {l:List Cl},oJ tl l=none→∀ x∈l,x.dim>1→bM tl x=0
 | [],_,x,a,_=>by simp at a
 | y::r,h,x,a,hd=>by
  unfold oJ at h;split at h
  ·cases h
  ·rename_i hn
   rcases zf2.1 a with rfl | a
   ·exact zh1 fun h=>hn ⟨hd,h⟩
   ·exact lm h x a hd
theorem wh {tl:List Cl}:∀ {l:List Cl} {p:Int×Int},oJ tl l=some p→p.2≠0
 | [],_,h=>by cases h
 | y::r,p,h=>by
  unfold oJ at h;split at h
  ·rename_i hn;cases h;exact hn.2
  ·exact wh h
theorem y7 (l:List Cl):∀ c∈aa l,c.sides.Pairwise fun a b=>a.cell≤b.cell:=fun c hc=>by
 obtain ⟨d,_,rfl⟩:=zf3.1 hc;exact c8 d.sides
theorem i9 (h:(aq l).2=0):Rt<|aa l:=by
 have a:=mq h;obtain ⟨b,f,g⟩:=dN a;have c:=bH b;have i:l.length≤4000:=DV h;refine⟨by rw[ax];exact i,b,f,fun x d=>HS (by rw[← c];exact g x d)<|y7 l x d,?_⟩;have e:oJ (am l) (aa l)=none:=by
  unfold aq at h;rw[zg1 oM,a] at h;cases hc:oJ (am l) (aa l) with
  | none=>rfl
  | some p =>
   rw[hc] at h;exact absurd h<|wh hc
 rw[c] at e;exact lm e
theorem pd {l m:List Int}(h:l.Perm m):l.sum=m.sum:=by
 induction h with
 | nil=>rfl
 | cons x _ ih=>simp[ih]
 | swap x y l=>simp;omega
 | trans _ _ ih1 ih2=>exact ih1.trans ih2
theorem Di {l m:List Nat}(h:l.Perm m):l.sum=m.sum:=by
 induction h with
 | nil=>rfl
 | cons x _ ih=>simp[ih]
 | swap x y l=>simp;omega
 | trans _ _ ih1 ih2=>exact ih1.trans ih2
theorem eO {α:Type}{key:α→Int}(l:List α):(sortBy key l).Perm l:=by
 have a:∀ (x:α) (l:List α),(ins key x l).Perm (x::l):=by
  intro x l;induction l with
  | nil=>exact .refl _
  | cons y r ih =>
   unfold ins;split
   ·exact .refl _
   ·exact (ih.cons y).trans<|.swap x y r
 induction l with
 | nil=>exact .refl _
 | cons x r ih=>exact (a x _).trans<|ih.cons x
def inner (tl:List Cl)(x:ak)(r:Int):Int:=((az tl x).map fun q=>if q.cell=r then x.sign * q.sign else 0).sum
theorem kU (tl:List Cl)(l:List ak)(r:Int):zr tl l r=(l.map fun x=>inner tl x r).sum:=by
 unfold zr;induction l with
 | nil=>rfl
 | cons x q ih=>simp only[zh6,List.sum_append,zg5,List.sum_cons,ih];rfl
theorem C0 {l m:List ak}(h:l.Perm m)(r:Int):zr tl l r=zr tl m r:=by
 rw[kU,kU];exact pd<|h.map _
theorem DU {l m:List ak}(h:l.Perm m)(r:Int):cntR tl l r=cntR tl m r:=Di<|h.map _
def sgn (b:Bool):Int:=if b then -1 else 1
theorem vA (b:Bool){a:Int}(h:a=1∨a = -1):wz b a=sgn b * a∧(wz b a=1∨wz b a = -1):=by
 rcases h with rfl | rfl <;> cases b <;> exact⟨by decide,by decide⟩
theorem mE {α:Type}{l:List α}{f g:α→Int}{K:Int}(h:∀ x∈l,f x=K * g x):(l.map f).sum=K * (l.map g).sum:=by
 induction l with
 | nil=>simp
 | cons x r ih =>
  simp only[zg5,List.sum_cons];rw[h x dO,ih fun y a=>h y<|by simp[a],Int.mul_add]
structure Nm (l:List Cl)(k:Int):Prop where
 inj:∀ a∈l,∀ b∈l,e8 a.id k=e8 b.id k→a=b
 pos:∀ a∈l,0<e8 a.id k
section
variable (h:Rt l){k:Int}(hn:Nm l k)(t:Int)
include h hn
omit hn in
theorem ij (c:Cl)(hc:c∈l){x:ak}(b:x∈c.sides):∃ d∈l,d.id=x.cell∧ah l x.cell=some d∧d.dim=c.dim - 1:=by
 obtain ⟨d,hd,a⟩:=(h.form c hc).found x b;obtain ⟨e,f⟩:=aC hd;exact⟨d,e,f,hd,a⟩
theorem Gw:((l.map<|aR k t).map Cl.id).Nodup:=by
 rw[zi6,List.Nodup,zk5];refine List.Pairwise.imp_of_mem ?_ h.asc;intro a b c hb d e;have:=hn.inj a c b hb e;subst this;omega
theorem vw:((aa<|l.map<|aR k t).map Cl.id).Nodup:=by
 have a:=Gw h hn t;have b:((aa<|l.map<|aR k t).map Cl.id).Perm<|(l.map<|aR k t).map Cl.id:=by
  rw[s5];exact (eO _).map _
 exact b.symm.nodup a
omit h hn in
theorem Gv (hc:c∈l):cH (aR k t c)∈aa (l.map<|aR k t) :=
 zf3.2 ⟨_,(er _ _).2<|zf3.2 ⟨c,hc,rfl⟩,rfl⟩
omit h hn in
theorem th {b:Cl}(hc:b∈aa (l.map<|aR k t)):∃ c∈l,b=cH (aR k t c):=by
 obtain ⟨d,hd,rfl⟩:=zf3.1 hc;obtain ⟨c,a,rfl⟩:=zf3.1<|(er _ _).1 hd;exact⟨c,a,I⟩
theorem ot (hc:c∈l):ah (aa<|l.map<|aR k t) (e8 c.id k)=some (cH<|aR k t c) :=
 tW (x:=cH<|aR k t c) (vw h hn t) (Gv t hc)
omit h hn in
theorem fx (c:Cl):(cH<|aR k t c).sides.Perm<|c.sides.map<|br k t c:=eO _
omit hn in
theorem om (hc:c∈l){x:ak}(d:x∈c.sides):(br k t c x).sign=sgn (jy t c x.cell) * (sgn (jM t c) * x.sign)∧((br k t c x).sign=1∨(br k t c x).sign = -1):=by
 have a:=vA (jM t c)<|(h.form c hc).sg x d;have b:=vA (jy t c x.cell) a.2;exact⟨by rw[← a.1];exact b.1,b.2⟩
theorem zL (hc:c∈l):Fm (aa<|l.map<|aR k t)<|cH<|aR k t c:=by
 have r:=h.form c hc;have n:(cH<|aR k t c).sides.length=c.sides.length:=by rw[(fx t c).length_eq,ze7]
 have f:∀ i,i∈(cH<|aR k t c).sides↔∃ x∈c.sides,br k t c x=i:=fun i=>by rw[(fx t c).mem_iff,zf3]
 refine⟨r.dim,?_,fun i j=>?_,?_,fun i j=>?_,fun hd=>?_⟩
 ·have:=r.cnt;unfold aY at this ⊢;rw[n];exact this
 ·obtain ⟨x,o,rfl⟩:=(f i).1 j;obtain ⟨d,hd,m,_,u⟩:=ij h c hc o;have:=ot h hn t hd;rw[m] at this;exact⟨_,this,u⟩
 ·have s:(cH<|aR k t c).sides.Pairwise fun a b=>a.cell≤b.cell:=c8 _;have p:((cH<|aR k t c).sides.map ak.cell).Nodup:=by
   refine ((fx t c).map ak.cell).symm.nodup ?_;rw[zi6,List.Nodup,zk5];refine List.Pairwise.imp_of_mem ?_ r.asc;intro a b y hb z e;obtain ⟨d,hd,m,_⟩:=ij h c hc y;obtain ⟨A,v,q,_⟩:=ij h c hc hb;have e:e8 a.cell k=e8 b.cell k:=e;rw[← m,← q] at e;have:=hn.inj d hd A v e;subst this;omega
  rw[List.Nodup,zk5] at p;exact (s.and p).imp fun ⟨w,B⟩=>by omega
 ·obtain ⟨x,o,rfl⟩:=(f i).1 j;exact (om h t hc o).2
 ·have hd:c.dim=1:=hd;have s:=r.one hd;unfold nG at s ⊢;rw[pd<|(fx t c).map ak.sign,zi6];rw[mE (g:=ak.sign) (K:=sgn<|jM t c) fun x o=>?_,s,Int.mul_zero];have p:=(om (k:=k) h t hc o).1;have w:jy t c x.cell=false:=by unfold jy;simp[hd]
  rw[w] at p;show (br k t c x).sign=_;rw[p];unfold sgn;simp
theorem tH (hc:c∈l){x:ak}(m:x∈c.sides){e:Cl}(i:e∈l):lg (aa<|l.map<|aR k t) (br k t c x) (e8 e.id k)=lg l x e.id:=by
 obtain ⟨d,hd,b,f,_⟩:=ij h c hc m;unfold lg az;rw[f,show (br k t c x).cell=e8 d.id k by rw[b];rfl,ot h hn t hd];show ((cH<|aR k t d).sides.filter _).length=_;rw[((fx t d).filter _).length_eq,List.filter_map,ze7];congr 1;refine List.filter_congr fun q hq=>?_;obtain ⟨u,j,g,_⟩:=ij h d hd hq;show decide (e8 q.cell k=e8 e.id k)=decide (q.cell=e.id);rw[decide_eq_decide,← g];by_cases a:u=e
 ·subst a;simp
 ·have n:¬ e8 u.id k=e8 e.id k:=fun e'=>a<|hn.inj u j e i e';have o:¬ u.id=e.id:=fun e'=>a (by have a1:=h.find j;have a2:=h.find i;rw[e',a2] at a1;injection a1 with a1;exact a1.symm);simp[n,o]
theorem qz (hc:c∈l){x:ak}(g:x∈c.sides){r:Int}(hr:∀ e∈l,e8 e.id k≠r):lg (aa<|l.map<|aR k t) (br k t c x) r=0:=by
 obtain ⟨d,hd,a,i,_⟩:=ij h c hc g;unfold lg az;rw[show (br k t c x).cell=e8 d.id k by rw[a];rfl,ot h hn t hd];show ((cH<|aR k t d).sides.filter _).length=_;rw[((fx t d).filter _).length_eq,List.length_eq_zero_iff,List.filter_eq_nil_iff];intro q' b;obtain ⟨q,hq,rfl⟩:=zf3.1 b;obtain ⟨u,j,f,_⟩:=ij h d hd hq;have:=hr u j;rw[f] at this;show ¬ decide (e8 q.cell k=r)=true;simpa using this
theorem Df (hc:c∈l)(g:c.dim>1){x:ak}(r:x∈c.sides){e:Cl}(s:e∈l) :
  inner (aa<|l.map<|aR k t) (br k t c x) (e8 e.id k)=sgn (jM t c) * sgn ((decide (t>1)&&decide (c.dim - 1>1))&&decide (e.id.tmod t=1)) * inner l x e.id:=by
 obtain ⟨d,hd,f,i,j⟩:=ij h c hc r;have m:=(om (k:=k) h t hc r).1;unfold inner az;rw[i,show (br k t c x).cell=e8 d.id k by rw[f];rfl,ot h hn t hd];show ((cH<|aR k t d).sides.map _).sum=_;rw[pd<|(fx t d).map _,zi6];show _=_ * (d.sides.map _).sum;refine mE fun q hq=>?_;obtain ⟨u,v,a,_⟩:=ij h d hd hq;have n:=(om (k:=k) h t hd hq).1;simp only[Function.comp_def];show (if e8 q.cell k=e8 e.id k then (br k t c x).sign * (br k t d q).sign else 0)=_;by_cases b:u=e
 ·subst b;rw[a,zg2 rfl,zg2 rfl,m,n];have o:jy t c x.cell=jM t d:=by
   unfold jy jM;rw[f];simp[g]
  have p:jy t d q.cell=((decide (t>1)&&decide (c.dim - 1>1))&&decide (q.cell.tmod t=1)):=by
   unfold jy;rw[j]
  rw[o,p];generalize jM t d=b1;generalize jM t c=b2;generalize ((decide (t>1)&&decide (c.dim - 1>1))&&decide (q.cell.tmod t=1))=b3;cases b1 <;> cases b2 <;> cases b3 <;> simp[sgn,Int.neg_mul,Int.mul_neg]
 ·have o:¬ e8 q.cell k=e8 e.id k:=fun e'=>b<|hn.inj u v e s (by rw[a];exact e');have p:¬ q.cell=e.id:=fun e'=>b (by have a1:=h.find v;have a2:=h.find s;rw[a,e',a2] at a1;injection a1 with a1;exact a1.symm);rw[zg1 o,zg1 p,Int.mul_zero]
omit h hn in
theorem E3 {x:ak}{r:Int}(c:lg tl x r=0):inner tl x r=0:=by
 unfold lg at c;rw[List.length_eq_zero_iff,List.filter_eq_nil_iff] at c;unfold inner;have:((az tl x).map fun q=>if q.cell=r then x.sign * q.sign else 0)=(az tl x).map fun _=>(0:Int):=zc9 fun q hq=>zg1 (by simpa using c q hq);rw[this];generalize az tl x=m;induction m with
 | nil=>rfl
 | cons a b ih=>simpa using ih
theorem AW (hc:c∈l)(o:c.dim>1):bM (aa<|l.map<|aR k t) (cH<|aR k t c)=0:=by
 have J:=h.form c hc;have z:=zL h hn t hc;have p:0<c.sides.length:=by
  have:=J.cnt;simp[aY] at this;have:=this.2 o;omega
 have s:(cH<|aR k t c).sides.length=c.sides.length:=by rw[(fx t c).length_eq,ze7]
 have nd:∀ {c:Cl},(c.sides.Pairwise fun a b=>a.cell<b.cell)→(c.sides.map ak.cell).Nodup:=fun h=>by
  rw[List.Nodup,zk5];exact h.imp fun h=>by omega
 obtain ⟨N,a2,a3⟩:=(kZ p<|nd J.asc).1<|h.around c hc o;refine (kZ (by rw[s];exact p)<|nd z.asc).2 ⟨fun r=>?_,fun r=>?_,fun w A O B=>?_⟩
 ·rw[C0<|fx t c,kU,zi6];simp only[Function.comp_def];by_cases hr:∃ e∈l,e8 e.id k=r
  ·obtain ⟨e,d,rfl⟩:=hr;have n:=N e.id;rw[kU] at n;rw[mE (g:=fun x=>inner l x e.id) (K:=sgn (jM t c) * sgn ((decide (t>1)&&decide (c.dim - 1>1))&&decide (e.id.tmod t=1))) fun x i=>Df h hn t hc o i d,n,Int.mul_zero]
  ·have hr:∀ e∈l,e8 e.id k≠r:=fun e d e'=>hr ⟨e,d,e'⟩;rw[mE (g:=fun _=>(0:Int)) (K:=0) fun x i=>by
    rw[E3<|qz h hn t hc i hr];rfl,Int.zero_mul]
 ·rw[DU<|fx t c];unfold cntR;rw[zi6];simp only[Function.comp_def];by_cases hr:∃ e∈l,e8 e.id k=r
  ·obtain ⟨e,d,rfl⟩:=hr;have n:=a2 e.id;unfold cntR at n;rw[zc9 (g:=fun x=>lg l x e.id) fun x i=>tH h hn t hc i d];exact n
  ·have hr:∀ e∈l,e8 e.id k≠r:=fun e d e'=>hr ⟨e,d,e'⟩;left;rw[zc9 (g:=fun _=>0) fun x i=>qz h hn t hc i hr];generalize c.sides=m;induction m with
   | nil=>rfl
   | cons a b ih=>simpa using ih
 ·have j:∀ w,w∈(cH<|aR k t c).sides↔w∈c.sides.map (br k t c):=fun w=>(fx t c).mem_iff;obtain ⟨x,i,rfl⟩:=zf3.1<|(j w).1 A;obtain ⟨y,P,rfl⟩:=zf3.1<|(j O).1 B;have hm:∀ x∈c.sides,br k t c x∈(cH<|aR k t c).sides:=fun x i=>(j _).2<|zf3.2 ⟨x,i,rfl⟩;refine (a3 x i y P).map (f:=fun a=>e8 a k) fun a b=>?_;rintro ⟨u,C,v,L,rfl,rfl,r,n,Q⟩;obtain ⟨R,D,M,E,_⟩:=ij h c hc C;have hr:∃ e∈l,e.id=r:=by
   unfold lg az at n;rw[E] at n;obtain ⟨q,hq⟩:=List.exists_mem_of_length_pos n;obtain ⟨F,G⟩:=zh5.1 hq;obtain ⟨e,d,H,_⟩:=ij h R D (x:=q) F;exact⟨e,d,by rw[H];simpa using G⟩
  obtain ⟨e,d,rfl⟩:=hr;exact .one ⟨_,hm u C,_,hm v L,I,I,e8 e.id k,by rw[tH h hn t hc C d];exact n,by rw[tH h hn t hc L d];exact Q⟩
theorem De:Rt<|aa<|l.map<|aR k t:=by
 refine⟨by rw[ax,ze7];exact h.few,?_,fun b a=>?_,fun b a=>?_,fun b a hd=>?_⟩
 ·have d:=jL<|l.map<|aR k t;have e:=vw h hn t;rw[zk5] at d;rw[List.Nodup,zk5] at e;exact (d.and e).imp fun ⟨f,g⟩=>by omega
 ·obtain ⟨c,hc,rfl⟩:=th t a;exact hn.pos c hc
 ·obtain ⟨c,hc,rfl⟩:=th t a;exact zL h hn t hc
 ·obtain ⟨c,hc,rfl⟩:=th t a;exact AW h hn t hc hd
end
set_option maxRecDepth 100000
def Bd (l:List Cl):Prop:=∀ c∈l,c.id≤l.length
theorem Cr (ls:List<|List Int):Rt (dJ ls)∧Bd (dJ ls):=by
 have a:=i9 (l:=dJ ls) (by rw[xZ]);have b:aa (dJ ls)=dJ ls:=by
  unfold dJ;cases a8 [] ls with
  | none=>rfl
  | some all=>exact ge _
 rw[b] at a;refine⟨a,?_⟩;unfold dJ;cases h:a8 [] ls with
 | none=>intro c hc;simp at hc
 | some all =>
  obtain ⟨hg,_⟩:=iW ls [] h i4.nil dO;dsimp only;rw[hg.cells];intro c hc;obtain ⟨s,d,rfl⟩:=zf3.1 hc;have:=(zf6.1<|hg.get_lb d).1;show ixC all s≤_;unfold ixC;rw[ze7];omega
theorem FF {l:List Int}{x:Int}(h:x∈l):lbI l x<l.length:=by
 unfold lbI;induction l with
 | nil=>simp at h
 | cons a r ih =>
  rw[zi8]
  rcases zf2.1 h with rfl | h
  ·have:=zc6 (fun y=>decide<|y<x) r;simp;omega
  ·have:=ih h;split
   ·simp only[ze9];omega
   ·simp only[ze9];omega
theorem xx (a b:List Cl):Rt (dp a b)∧Bd (dp a b)∧(dp a b).length≤a.length * b.length:=by
 rw[EL];unfold FY;split
 ·exact⟨⟨by simp,List.Pairwise.nil,by simp,by simp,by simp⟩,fun c hc=>by simp at hc,by simp⟩
 ·rename_i f;split
  ·rename_i g;have e:(aa<|ef a b).length=a.length * b.length:=by
    rw[ax];unfold ef;rw[jD,ax,ax]
   refine⟨i9 g,fun c hc=>?_,by rw[e];exact dm _⟩;rw[e];obtain ⟨i,j,_⟩:=A4 (by simpa using f);have ta:=bH (dN<|mq i).1;have tb:=bH (dN<|mq j).1;obtain ⟨d,hd,rfl⟩:=zf3.1 hc;have hd:=(er _ _).1 hd;unfold ef at hd;rw[ta,tb] at hd;obtain ⟨x,k,hd⟩:=List.mem_flatMap.1 hd;obtain ⟨y,l,rfl⟩:=zf3.1 hd;have l1:=FF (zf3.2 ⟨x,k,rfl⟩:x.id∈(aa a).map Cl.id);have l2:=FF (zf3.2 ⟨y,l,rfl⟩:y.id∈(aa b).map Cl.id);rw[ze7,ax] at l1 l2;show bc (aa a) (aa b) x.id y.id≤_;unfold bc;rw[ax];have m:(lbI ((aa a).map Cl.id) x.id+1) * b.length≤a.length * b.length:=Nat.mul_le_mul_right _ l1;rw[Nat.succ_mul] at m;have n:((lbI ((aa a).map Cl.id) x.id * b.length:Nat):Int)=(lbI ((aa a).map Cl.id) x.id:Int) * (b.length:Int):=Iw _ _;rw[← n];omega
  ·exact⟨⟨by simp,List.Pairwise.nil,by simp,by simp,by simp⟩,fun c hc=>by simp at hc,by simp⟩
theorem A5:∀ n,n<7→2≤n→(aq<|yr n).2=0∧∀ c∈yr n,c.id≤90:=by decide +kernel
theorem lD:∀ (ls acc:List<|List Int) {all:List<|List Int},a8 acc ls=some all→(∀ x∈ls,x.length≤2)→all.length≤acc.length+3 * ls.length
 | [],acc,all,h,_=>by cases h;simp
 | s::r,acc,all,h,hl=>by
  have b:=hl s dO;have c:(dM s).length≤s.length:=by
   unfold dM;exact zk8 (lx _ _) (by rw[gN];exact dm _)
  simp only[ze9];unfold a8 at h;split at h
  ·have:=lD r acc h fun x a=>hl x (by simp[a]);omega
  ·split at h
   ·cases h
   ·have d:=lD r _ h fun x a=>hl x (by simp[a]);have e:(e7 acc<|dM s).length≤acc.length+3:=by
     unfold e7;refine zk8 (lx _ _) ?_;rw[(jh _).length_eq,ze6];have:2 ^ (dM s).length≤2 ^ 2:=Nat.pow_le_pow_right dC oM;simp[bU];omega
    omega
theorem s3:(dJ [[0,1],[1,2],[0,2]]).length≤9:=by
 unfold dJ;cases h:a8 [] [[0,1],[1,2],[0,2]] with
 | none=>simp
 | some all =>
  have:=lD _ _ h dC;dsimp only;rw[ax,bT];simpa using this
theorem xy (m:Int)(ls:List<|List Int)(y:Int):Rt (ry<|o5 m ls y)∧∀ c∈ry (o5 m ls y),c.id≤90:=by
 have key:∀ l:List Cl,Rt l→(l.length≤45→∀ c∈l,c.id≤90)→Rt (ry l)∧∀ c∈ry l,c.id≤90:=by
  intro l k n;unfold ry;split
  ·have d:=xx (dJ [[0,1],[1,2],[0,2]])<|dJ [[0,1],[1,2],[0,2]];refine⟨d.1,fun c hc=>?_⟩;have o:=d.2.1 c hc;have i:=d.2.2;have e:rf.length≤9 * 9:=zk8 i<|Nat.mul_le_mul s3 s3;have f:c.id≤rf.length:=o;omega
  ·exact⟨k,n oM⟩
 have g:∀ ls,Rt (ry<|dJ ls)∧∀ c∈ry (dJ ls),c.id≤90:=fun ls=>key _ (Cr ls).1 fun hl c hc=>by have:=(Cr ls).2 c hc;omega
 have j:∀ a b,Rt (ry<|dp a b)∧∀ c∈ry (dp a b),c.id≤90:=fun a b=>key _ (xx a b).1 fun hl c hc=>by have:=(xx a b).2.1 c hc;omega
 have i:=dS y 5 dC dC;unfold o5
 repeat' split
 ·exact g _
 ·exact j _ _
 ·have e:=A5 (2+ci y 5).toNat oM oM;have f:=i9 e.1;rw[show aa (yr (2+ci y 5).toNat)=yr (2+ci y 5).toNat from ge _] at f;exact key _ f fun _=>e.2
 ·exact j _ _
 ·exact g _
 ·exact g _
theorem GD:∀ k∈[1,3,5],∀ a,a<91→∀ b,b<91→e8 (a:Nat) k=e8 (b:Nat) k→a=b:=by decide +kernel
theorem GC:∀ k∈[1,3,5],∀ a,a<91→0<a→0<e8 (a:Nat) k:=by decide +kernel
theorem sk (i:Int)(ls:List<|List Int)(y:Int):Rt<|ke i ls y:=by
 obtain ⟨c,f⟩:=xy (ci i 8) ls y;have j:BU y∈[(1:Int),3,5]:=by
  have:=dS (IntKind.i64.wrap<|y.tdiv 7) 3 dC dC;unfold BU;generalize ci (IntKind.i64.wrap<|y.tdiv 7) 3=q at *
  rcases (by omega:q=0∨q=1∨q=2) with rfl | rfl | rfl <;> decide
 refine De c ⟨fun a d b hb e=>?_,fun a d=>?_⟩ _
 ·have p1:=c.pos a d;have p2:=c.pos b hb;have q1:=f a d;have q2:=f b hb;have e1:((a.id.toNat:Nat):Int)=a.id:=Int.toNat_of_nonneg oM;have e2:((b.id.toNat:Nat):Int)=b.id:=Int.toNat_of_nonneg oM;have:=GD _ j a.id.toNat oM b.id.toNat oM (by rw[e1,e2];exact e);have g:a.id=b.id:=oM;have f1:=c.find d;have f2:=c.find hb;rw[g,f2] at f1;injection f1 with f1
  exact f1.symm
 ·have p1:=c.pos a d;have q1:=f a d;have e1:((a.id.toNat:Nat):Int)=a.id:=Int.toNat_of_nonneg oM;have:=GC _ j a.id.toNat oM oM;rw[e1] at this;exact this
theorem Hl:∀ k∈[1,3,5],∀ a,a<91→e8 (a:Nat) k≤300:=by decide +kernel
theorem zX (b:Int)(ls:List<|List Int)(y:Int):∀ c∈ke b ls y,bh c.id:=by
 intro c hc;have e:=(sk b ls y).pos c hc;obtain ⟨f,g⟩:=xy (ci b 8) ls y;have i:BU y∈[(1:Int),3,5]:=by
  have:=dS (IntKind.i64.wrap<|y.tdiv 7) 3 dC dC;unfold BU;generalize ci (IntKind.i64.wrap<|y.tdiv 7) 3=q at *
  rcases (by omega:q=0∨q=1∨q=2) with rfl | rfl | rfl <;> decide
 obtain ⟨a,d,rfl⟩:=th (GQ y) hc;have p1:=f.pos a d;have q1:=g a d;have e1:((a.id.toNat:Nat):Int)=a.id:=Int.toNat_of_nonneg oM;have:=Hl _ i a.id.toNat oM;rw[e1] at this;have j:(cH<|aR (BU y) (GQ y) a).id=e8 a.id (BU y):=rfl;rw[j] at e ⊢;unfold bh;omega
theorem EY (a:Int)(ls:List<|List Int)(y:Int):(ke a ls y).length≤90:=by
 obtain ⟨d,e⟩:=xy (ci a 8) ls y;have hl:(ke a ls y).length=(ry<|o5 (ci a 8) ls y).length:=by
  unfold ke Hc;rw[ax,ze7]
 rw[hl];generalize ry (o5 (ci a 8) ls y)=B at *;have b:(B.map Cl.id).Nodup:=by
  rw[List.nodup_iff_pairwise_ne,zk5];exact d.asc.imp fun h=>by omega
 have:=tI b (m:=(List.range 90).map fun k=>((k:Nat):Int)+1) (fun x f=>by
  obtain ⟨c,hc,rfl⟩:=zf3.1 f;have p1:=d.pos c hc;have p2:=e c hc;exact zf3.2 ⟨(c.id - 1).toNat,List.mem_range.2 oM,oM⟩)
 simpa using this
def part (l:List Cl)(p:Int→Bool):List Cl:=l.filter fun c=>p c.id
def ez (l:List Cl)(p:Int→Bool):Prop:=∀ c∈l,p c.id=true→∀ x∈c.sides,p x.cell=true
theorem vz {id:Int}(hp:p id=true):ah (part l p) id=ah l id:=by
 unfold ah part;induction l with
 | nil=>rfl
 | cons c r ih =>
  rw[zi8];by_cases hc:c.id=id
  ·rw[zg2<|by rw[hc];exact hp];simp[hc]
  ·split
   ·simp only[zi7,hc,decide_false];exact ih
   ·simp only[zi7,hc,decide_false];exact ih
theorem Dj {id:Int}(hp:p id=false):ah (part l p) id=none:=by
 unfold ah part;rw[List.find?_eq_none];intro c hc;have:=(zh5.1 hc).2;simp;intro e;rw[e,hp] at this;cases this
theorem iu (h:Rt l)(hp:ez l p):Rt<|part l p:=by
 have a:(part l p).Sublist l:=List.filter_sublist;refine⟨zk8 a.length_le h.few,h.asc.sublist a,fun x e=>h.pos x<|a.subset e,fun c hc=>?_,fun c hc hd=>?_⟩
 ·obtain ⟨b,d⟩:=zh5.1 hc;have f:=h.form c b;exact⟨f.dim,f.cnt,fun x e=>by rw[vz<|hp c b d x e];exact f.found x e,f.asc,f.sg,f.one⟩
 ·obtain ⟨b,d⟩:=zh5.1 hc;rw[← h.around c b hd,pY,pY];congr 1;unfold o0;refine zc9 fun x e=>?_;unfold az;rw[vz<|hp c b d x e]
theorem A9 {F:List Cl}(hF:Rt F)(hp:l.Perm F):aa l=F:=by
 have hc:=hF.canon;have g:sortBy Cl.id l=F:=by
  refine (bl (hF.asc.imp fun h=>by omega) ⟨hp.length_eq.symm,fun k=>?_⟩).symm;have c:(l.filter fun a=>a.id == k).Perm (F.filter fun a=>a.id == k):=hp.filter _;have e:(F.filter fun a=>a.id == k).Pairwise fun a b=>a.id<b.id:=hF.asc.sublist List.filter_sublist;have d:∀ a∈F.filter (fun a=>a.id == k),a.id=k:=fun a i=>by simpa using (zh5.1 i).2
  generalize F.filter (fun a=>a.id == k)=m at *
  match m,c,e,d with
  | [],c,_,_=>exact (List.perm_nil.1 c).symm
  | [a],c,_,_=>exact (List.perm_singleton.1 c).symm
  | a::b::r,_,e,d =>
   have j:=(zk4.1 e).1 b dO;have n:=d a dO;have o:=d b dO;omega
 unfold aa at hc ⊢;rw[g];have f:sortBy Cl.id F=F:=(bl (key:=Cl.id) (hF.asc.imp fun h=>by omega)<|aN.refl F).symm;rw[f] at hc;exact hc
theorem Rt.nodup (h:Rt l):l.Nodup:=h.asc.imp fun h e=>by subst e;omega
theorem Rt.same (h:Rt l){a b:Cl}(c:a∈l)(hb:b∈l)(e:a.id=b.id):a=b:=by
 have f1:=h.find c;have f2:=h.find hb;rw[e,f2] at f1;injection f1 with f1
 exact f1.symm
section
variable (h:Rt l){q:Int→Bool}(hp:ez l p)(hq:ez l q)
include h hp hq
end
set_option maxHeartbeats 1000000
theorem ay.set {α β:Type}{R:α→β→Prop}{a:α}{b:β}(h:R a b):∀ {l:List α} {m:List β} (k:Nat),ay R l m→ay R (l.set k a) (m.set k b)
 | [],[],_,_=>trivial
 | _::_,_::_,0,c=>⟨h,c.2⟩
 | _::_,_::_,k+1,c=>⟨c.1,ay.set h k c.2⟩
 | [],_::_,_,c=>c.elim
 | _::_,[],_,c=>c.elim
def ShC (a b:Cl):Prop:=a.id=b.id∧a.dim=b.dim∧a.sides.Perm b.sides
def ShL (l m:List Cl):Prop:=∃ l1:List Cl,l1.Perm l∧ay ShC l1 m
theorem ShL.fits {m:List Cl}(h:ShL l m)(b:aM l):aM m:=by
 obtain ⟨g,e,f⟩:=h;refine⟨by rw[← f.length,e.length_eq];exact b.1,fun c hc=>?_⟩;have:∀ {l m:List Cl},ay ShC l m→∀ c∈m,∃ d∈l,ShC d c:=by
  intro l;induction l with
  | nil=>intro m h c hc;cases m with | nil=>cases hc | cons _ _=>exact h.elim
  | cons x t ih =>
   intro m h c hc;cases m with
   | nil=>cases hc
   | cons y m =>
    rcases zf2.1 hc with rfl | hc
    ·exact⟨x,by simp,h.1⟩
    ·obtain ⟨d,hd,a⟩:=ih h.2 c hc;exact⟨d,by simp[hd],a⟩
 obtain ⟨d,hd,a⟩:=this f c hc;rw[← a.2.2.length_eq];exact b.2 d<|e.mem_iff.1 hd
end Go.Proofs.YtpmoadbbfobbcaaGreatDoor
namespace Go.Sy
open Go
structure Md where
 ro:Option Nat
 ds:List Deferred
def wf (ro:Option Nat):Fence:={ fn:=fun _=>True,depth:=none,alive:=false,round:=ro }
def jW (a:Act):Act:={ a with defers:=[] }
theorem pP (a:Act):(jW a).eval=a.eval:=by funext x;cases x <;> rfl
theorem Fi (a:Act)(d:Option Tmp)(v:Value):jW (a.put d v)=(jW a).put d v:=by cases d <;> rfl
theorem se (a:Act)(d:Option Tmp)(v:Value):(a.put d v).defers=a.defers:=by cases d <;> rfl
def Okd (ds:List Deferred)(N:Nat)(f:Fr)(a:Act):Prop:=a.defers=ds∧Ok N f (jW a)
variable {l:List Oper}{ty:TypeId}{pos:String}{af:Array Edge}{d N id i b:Nat}{op:Op}{y c:Code}{gd:Option<|Nat×Bool}{P:Program}{Q:Exit→Act→World→Prop}{K R:Value→PH→Own→Prop}{M:Md}{E w:World}{f:Fr}{g:PH}{s:Own}{a:Act}{v:Value}{e:Exit}{ops:Array Oper}{dst:Option Tmp}{fn:Func}{ro:Option Nat}
section
variable {f':Fr}{g':PH}{s':Own}
theorem Okd.put {ds:List Deferred}(h:Okd ds N f a)(b:d<N)(v:Value):Okd ds N ((d,v)::f)<|a.put (some d) v:=⟨h.1,by rw[Fi];exact h.2.put b v⟩
theorem Okd.sub {ds:List Deferred}(h:Okd ds N f a)(b:Sub f' f):Okd ds N f' a:=⟨h.1,h.2.sub b⟩
theorem Okd.ev {ds:List Deferred}(h:Okd ds N f a){x:Operand}(b:Sy.ev f x=some v):a.eval x=v:=by rw[← pP];exact h.2.ev b
def XC (P:Program)(M:Md)(N:Nat)(E:World)(c:Code)(Q:Exit→Act→World→Prop)(f:Fr)(g:PH)(s:Own):Prop:=∀ a w,Okd M.ds N f a→At E g s w→c.wpIn (wf M.ro) 0 P Q a w
def XT (M:Md)(N:Nat)(E:World)(Q:Exit→Act→World→Prop)(e:Exit)(f:Fr)(g:PH)(s:Own):Prop:=∀ a w,Okd M.ds N f a→At E g s w→Q e a w
def XL (P:Program)(M:Md)(N:Nat)(E:World)(ops:Array Oper)(Q:Exit→Act→World→Prop)(l:List Oper)(f:Fr)(g:PH)(s:Own):Prop:=∀ a w,Okd M.ds N f a→At E g s w→wpListIn (wf M.ro) 0 P ops Q l a w
def XO (P:Program)(M:Md)(N:Nat)(E:World)(o:Oper)(f:Fr)(g:PH)(s:Own)(K:Value→PH→Own→Prop):Prop :=
 ∀ a w,Okd M.ds N f a→At E g s w→∀ (Q:Exit→Act→World→Prop) (next:Act→World→Prop),
  (∀ v g' s' w',K v g' s'→At E g' s' w'→next (a.put o.dst v) w')→o.wpIn (wf M.ro) 0 P a w next Q
theorem XC.to (h:∀ w,At E g s w→At E g' s' w)(hc:XC P M N E c Q f g' s'):XC P M N E c Q f g s:=fun a w b d=>hc a w b<|h w d
theorem XT.drop (b:s'.Sublist s)(h:XT M N E Q e f g s'):XT M N E Q e f g s:=fun a w c d=>h a w c<|d.sublist b
theorem XT.to (h:∀ w,At E g s w→At E g' s' w)(hc:XT M N E Q e f g' s'):XT M N E Q e f g s:=fun a w b c=>hc a w b<|h w c
theorem XL.to (h:∀ w,At E g s w→At E g' s' w)(hc:XL P M N E ops Q l f g' s'):XL P M N E ops Q l f g s:=fun a w b c=>hc a w b<|h w c
theorem XC.facts (h:(∃ w,At E g s w)→XC P M N E c Q f g s):XC P M N E c Q f g s:=fun a w d b=>h ⟨w,b⟩ a w d b
theorem XL.facts (h:(∃ w,At E g s w)→XL P M N E ops Q l f g s):XL P M N E ops Q l f g s:=fun a w c b=>h ⟨w,b⟩ a w c b
theorem XT.facts (h:(∃ w,At E g s w)→XT M N E Q e f g s):XT M N E Q e f g s:=fun a w c b=>h ⟨w,b⟩ a w c b
theorem XC.skip (h:XT M N E Q .normal f g s):XC P M N E .skip Q f g s:=fun a w b c=>wpIn_skip<|h a w b c
theorem XC.ret (h:XT M N E Q .ret f g s):XC P M N E .ret Q f g s:=fun a w b c=>wpIn_ret<|h a w b c
theorem XC.exit (h:XT M N E Q (.exit id) f g s):XC P M N E (.exit id) Q f g s:=fun a w b c=>wpIn_exit<|h a w b c
theorem XC.label {l:Nat}(h:XT M N E Q .normal f g s):XC P M N E (.label l) Q f g s:=fun a w b c=>wpIn_label<|h a w b c
theorem XC.seq {x:Code}(h:XC P M N E x (Exit.then (y.wpIn (wf M.ro) 0 P Q) Q) f g s):XC P M N E (.seq x y) Q f g s:=fun a w b c=>wpIn_seq<|h a w b c
theorem XC.block (h:XC P M N E c (Exit.inBlock id Q) f g s):XC P M N E (.block id c) Q f g s:=fun a w b d=>wpIn_block<|h a w b d
theorem XC.cond {c:Operand}{x:Code}{t:Bool}(hc:ev f c=some (.bool t))(h:XC P M N E (if t then x else y) Q f g s):XC P M N E (.cond c x y) Q f g s :=
 fun a w b d=>wpIn_cond (b.ev hc)<|h a w b d
theorem XC.condT {c:Operand}{x:Code}(hc:ev f c=some (.bool true))(h:XC P M N E x Q f g s):XC P M N E (.cond c x y) Q f g s:=XC.cond hc h
theorem XC.condF {c:Operand}{x:Code}(hc:ev f c=some (.bool false))(h:XC P M N E y Q f g s):XC P M N E (.cond c x y) Q f g s:=XC.cond hc h
theorem XC.ifB {c:Operand}{x:Code}{t:Bool}(hc:ev f c=some (.bool t))(a:t=true→XC P M N E x Q f g s)(b:t=false→XC P M N E y Q f g s) :
  XC P M N E (.cond c x y) Q f g s:=by
 cases t
 ·exact XC.condF hc<|b I
 ·exact XC.condT hc<|a I
theorem XC.ifP {c:Operand}{x:Code}{p:Prop}[Decidable p](hc:ev f c=some (.bool<|decide p))(a:p→XC P M N E x Q f g s)(b:¬ p→XC P M N E y Q f g s) :
  XC P M N E (.cond c x y) Q f g s :=
 XC.ifB hc (fun h=>a<|zg4 h) fun h=>b<|of_decide_eq_false h
theorem XT.thenN (h:XC P M N E c Q f g s):XT M N E (Exit.then (c.wpIn (wf M.ro) 0 P Q) Q) .normal f g s:=h
theorem XT.thenX {K:Act→World→Prop}(h:XT M N E Q (.exit id) f g s):XT M N E (Exit.then K Q) (.exit id) f g s:=h
theorem XT.thenR {K:Act→World→Prop}(h:XT M N E Q .ret f g s):XT M N E (Exit.then K Q) .ret f g s:=h
theorem XT.blockN (h:XT M N E Q .normal f g s):XT M N E (Exit.inBlock id Q) .normal f g s:=h
theorem XT.blockX (h:XT M N E Q .normal f g s):XT M N E (Exit.inBlock id Q) (.exit id) f g s:=fun a w b c=>by simpa [Exit.inBlock] using h a w b c
theorem XT.blockO {j:Nat}(b:j≠id)(h:XT M N E Q (.exit j) f g s):XT M N E (Exit.inBlock id Q) (.exit j) f g s:=fun a w c d=>by
 simpa [Exit.inBlock,b] using h a w c d
def HZ {ι:Type}(ds:List Deferred)(N:Nat)(E:World)(F:ι→Fr)(G:ι→PH)(S:ι→Own)(J:ι→Prop)(a:Act)(w:World):Prop:=∃ i,Okd ds N (F i) a∧At E (G i) (S i) w∧J i
theorem XC.cut {ι:Type}{x:Code}(F:ι→Fr)(G:ι→PH)(S:ι→Own)(J:ι→Prop)(b:XC P M N E x (Exit.then (HZ M.ds N E F G S J) Q) f g s)
  (c:∀ i,J i→XC P M N E y Q (F i) (G i) (S i)):XC P M N E (.seq x y) Q f g s:=by
 refine XC.seq fun a w d j=>Code.wpIn_mono (fun e k w' h=>?_)<|b a w d j;cases e <;> first | exact h | (obtain ⟨i,l,m,n⟩:=h;exact c i n k w' l m)
theorem XT.mid {ι:Type}{F:ι→Fr}{G:ι→PH}{S:ι→Own}{J:ι→Prop}(i:ι)(a:Sub (F i) f)(hg:G i=g)(b:S i=s)(c:J i) :
  XT M N E (Exit.then (HZ M.ds N E F G S J) Q) .normal f g s:=fun _ _ d e=>⟨i,d.sub a,by rw[hg,b];exact e,c⟩
def FO {ι:Type}(ds:List Deferred)(N:Nat)(E:World)(F:ι→Fr)(G:ι→PH)(S:ι→Own)(J:ι→Prop)(μ:ι→Nat)(i:ι)(a:Act)(w:World):Prop :=
 ∃ j,Okd ds N (F j) a∧At E (G j) (S j) w∧J j∧μ j<μ i
theorem XT.again {ι:Type}{F:ι→Fr}{G:ι→PH}{S:ι→Own}{J:ι→Prop}{μ:ι→Nat}{i:ι}(j:ι)(a:Sub (F j) f)(hg:G j=g)(b:S j=s)(c:J j)(d:μ j<μ i) :
  XT M N E (Exit.then (FO M.ds N E F G S J μ i) Q) .normal f g s:=fun _ _ e k=>⟨j,e.sub a,by rw[hg,b];exact k,c,d⟩
theorem XC.loop {ι:Type}(F:ι→Fr)(G:ι→PH)(S:ι→Own)(J:ι→Prop)(μ:ι→Nat)(i:ι)(B:Sub (F i) f)(hg:G i=g)(C:S i=s)(D:J i)
  (round:∀ i,J i→XC P M N E c (Exit.then (FO M.ds N E F G S J μ i) Q) (F i) (G i) (S i)):XC P M N E (.loop c) Q f g s:=by
 intro a w t H;have key:∀ n,∀ (i:ι) (a:Act) (w:World),μ i=n→Okd M.ds N (F i) a→At E (G i) (S i) w→J i→∀ (b:Frame) (k:List Item) (cs:List Frame),b.roundOf=(wf M.ro).round→(wf M.ro).fn b.fn→(wf M.ro).room (cs.length+1+0) →
   ∃ e r w',Q e r w'∧ArrivesIn (Machine.fenced P<|wf M.ro) P (lone (b.atR a<|.code c :: .inLoop c::k) cs w) b k cs e r w':=by
  intro n;induction n using Nat.strongRecOn with
  | _ n ih =>
   intro i a w hn t K L b k cs m hb hr;obtain ⟨e,p,q,hq,d⟩:=round i L a w t K b (.inLoop c::k) cs m hb hr;cases e with
   | normal =>
    obtain ⟨j,u,v,y,z⟩:=hq;obtain ⟨O,R,T,A,o⟩:=ih (μ j) (hn ▸ z) j p q rfl u v y b k cs m hb hr;exact⟨O,R,T,A,.of_steps (StepsIn.trans d<|.one (fenced_calm hb hr I) stepR_inLoop) o⟩
   | exit id=>exact⟨_,p,q,hq,.pass (x:=.inLoop c) rfl (fun _ _=>.inl<|by simp) d⟩
   | goto l=>exact⟨_,p,q,hq,.pass (x:=.inLoop c) rfl (fun _ _=>.inl<|by simp) d⟩
   | ret=>exact⟨_,p,q,hq,.pass (x:=.inLoop c) rfl (fun _ _=>.inl<|by simp) d⟩
   | panic ch=>exact⟨_,p,q,hq,.pass (x:=.inLoop c) rfl (fun _ _=>.inl<|by simp) d⟩
   | outgrown=>exact⟨_,p,q,hq,.pass (x:=.inLoop c) rfl (fun _ _=>.inl<|by simp) d⟩
 intro b k cs m hb hr;obtain ⟨e,r,w',hq,d⟩:=key _ i a w rfl (t.sub B) (by rw[hg,C];exact H) D b k cs m hb hr;exact⟨e,r,w',hq,.of_steps (.one (fenced_calm hb hr I) stepR_loop) d⟩
theorem XC.region (h:XL P M N E ops Q ops.toList f g s):XC P M N E (.region id ops false) Q f g s:=fun a w b c=>wpIn_region_list<|h a w b c
theorem XL.nil (h:XT M N E Q .normal f g s):XL P M N E ops Q [] f g s:=fun a w b c=>h a w b c
theorem SO.xo {o:Oper}(m:∀ c,o.op ≠ .defer c)(h:SO P N E o f g s K):XO P M N E o f g s K:=by
 intro a w t u Q next hn;refine⟨fun _ _=>trivial,?_⟩;rw[Oper.semAt_eq _ _ _ m];have b:=h (jW a) w t.2 u (fun _ _ _=>False) (fun q w'=>q.defers=[]∧∃ v g' s',q=(jW a).put o.dst v∧K v g' s'∧At E g' s' w') fun v g' s' w' p i=>⟨se _ _ _,v,g',s',rfl,p,i⟩;unfold Oper.wp at b;rw[pP] at b;have key:∀ v w',(((jW a).put o.dst v).defers=[]∧∃ v' g' s',(jW a).put o.dst v=(jW a).put o.dst v'∧K v' g' s'∧At E g' s' w')→next (a.put o.dst v) w':=by
  rintro v w' ⟨_,v',g',s',j,p,i⟩;have:a.put o.dst v=a.put o.dst v':=by
   cases hd:o.dst with
   | none=>rfl
   | some d =>
    rw[hd] at j;have l:=ze3 Act.tmps j;cases a;simp only[Act.put,jW] at l ⊢;rw[l]
  rw[this];exact hn v' g' s' w' p i
 generalize (execOp a.eval o).run P w=r at b;cases r with
 | ok n w' =>
  cases n <;> simp only[Oper.upon] at b <;> first | exact b.elim | skip
  ·exact key _ _ b
  ·exact key _ _ b
  ·rename_i f' args;exact⟨fun h=>(by cases h),(CallsIn.more (n:=0) ((callsIn_wide (n:=0)).2<|Calls.mono b (fun e k j=>by cases e with | returned v=>exact key _ _ j | panicked c=>exact j.elim | outgrown=>obtain ⟨_,_,l⟩:=j;exact l.elim))<|zf7 _)⟩
  ·exact absurd b.1 (by rw[se];simp)
  ·exact⟨fun h=>(by cases h),fun c cs _=>let ⟨v,k,r,st⟩:=b c cs;⟨v,k,key _ _ r,stepsIn_wide.2 st⟩⟩
 | halt x w'=>cases x <;> simp only[Oper.upon] at b <;> exact b.elim
theorem XL.step {o:Oper}(hg:Gd N ops f o true)(i:XO P M N E o f g s K)
  (h:∀ v g' s' a,K v g' s'→Okd M.ds N f a→∃ f',Okd M.ds N f' (a.put o.dst v)∧XL P M N E ops Q l f' g' s'):XL P M N E ops Q (o::l) f g s:=by
 intro a w b j;unfold wpListIn;have c:Region.wanted o (yielded ops a.tmps)=true:=hg (jW a) b.2;rw[zg2 c];refine i a w b j Q _ fun v g' s' w' k d=>?_;obtain ⟨f',e,hn⟩:=h v g' s' a k b;exact hn _ _ e d
theorem XL.x (a:XO P M N E ⟨some d,op,ty,pos,af,none⟩ f g s K)(hd:d<N)
  (h:∀ v g' s',K v g' s'→XL P M N E ops Q l ((d,v)::f) g' s'):XL P M N E ops Q (⟨some d,op,ty,pos,af,none⟩::l) f g s :=
 XL.step (IX rfl) a fun v g' s' _ b c=>⟨_,c.put hd v,h v g' s' b⟩
theorem XL.go (hg:Gd N ops f ⟨some d,op,ty,pos,af,gd⟩ true)(b:SO P N E ⟨some d,op,ty,pos,af,gd⟩ f g s K)(hd:d<N)
  (h:∀ v g' s',K v g' s'→XL P M N E ops Q l ((d,v)::f) g' s') (a:∀ c,op ≠ .defer c:=by intro _ h;cases h):XL P M N E ops Q (⟨some d,op,ty,pos,af,gd⟩::l) f g s :=
 XL.step hg (b.xo a) fun v g' s' _ e i=>⟨_,i.put hd v,h v g' s' e⟩
theorem XL.o (b:SO P N E ⟨some d,op,ty,pos,af,none⟩ f g s K)(hd:d<N)
  (h:∀ v g' s',K v g' s'→XL P M N E ops Q l ((d,v)::f) g' s') (a:∀ c,op ≠ .defer c:=by intro _ h;cases h):XL P M N E ops Q (⟨some d,op,ty,pos,af,none⟩::l) f g s :=
 XL.go (IX rfl) b hd h a
theorem XL.on (b:SO P N E ⟨none,op,ty,pos,af,none⟩ f g s K)
  (h:∀ v g' s',K v g' s'→XL P M N E ops Q l f g' s') (a:∀ c,op ≠ .defer c:=by intro _ h;cases h):XL P M N E ops Q (⟨none,op,ty,pos,af,none⟩::l) f g s :=
 XL.step (IX rfl) (b.xo a) fun v g' s' _ d e=>⟨f,e,h v g' s' d⟩
theorem XL.gq (hg:Gd N ops f ⟨some d,op,ty,pos,af,gd⟩ true)(hq:SQ P N E ⟨some d,op,ty,pos,af,gd⟩ f g s v)(hd:d<N)
  (h:XL P M N E ops Q l ((d,v)::f) g s) (a:∀ c,op ≠ .defer c:=by intro _ h;cases h):XL P M N E ops Q (⟨some d,op,ty,pos,af,gd⟩::l) f g s :=
 XL.go hg hq.so hd (fun v' g' s' ⟨b,e,e3⟩=>by subst b;subst e;subst e3;exact h) a
theorem XL.q (hq:SQ P N E ⟨some d,op,ty,pos,af,none⟩ f g s v)(hd:d<N)
  (h:XL P M N E ops Q l ((d,v)::f) g s) (a:∀ c,op ≠ .defer c:=by intro _ h;cases h):XL P M N E ops Q (⟨some d,op,ty,pos,af,none⟩::l) f g s:=XL.gq (IX rfl) hq hd h a
theorem XL.gu (hg:Gd N ops f ⟨some d,op,ty,pos,af,gd⟩ true)(hq:SU P N ⟨some d,op,ty,pos,af,gd⟩ f v)(hd:d<N)
  (h:XL P M N E ops Q l ((d,v)::f) g s) (a:∀ c,op ≠ .defer c:=by intro _ h;cases h):XL P M N E ops Q (⟨some d,op,ty,pos,af,gd⟩::l) f g s:=XL.gq hg hq.sq hd h a
theorem XL.u (hq:SU P N ⟨some d,op,ty,pos,af,none⟩ f v)(hd:d<N)
  (h:XL P M N E ops Q l ((d,v)::f) g s) (a:∀ c,op ≠ .defer c:=by intro _ h;cases h):XL P M N E ops Q (⟨some d,op,ty,pos,af,none⟩::l) f g s:=XL.q hq.sq hd h a
theorem XL.off (hg:Gd N ops f ⟨some d,op,ty,pos,af,gd⟩ false)(hd:d<N)
  (h:XL P M N E ops Q l ((d,undef)::f) g s):XL P M N E ops Q (⟨some d,op,ty,pos,af,gd⟩::l) f g s:=by
 intro a w c e;unfold wpListIn;have b:Region.wanted (⟨some d,op,ty,pos,af,gd⟩:Oper) (yielded ops a.tmps)=false:=hg (jW a) c.2;rw[zg1<|by rw[b];simp];exact⟨fun _ _=>trivial,h _ _ (c.put hd undef) e⟩
theorem At.obj {o o':Obj}(h:At E g s w)(c:s[i]?=some (pt b o)):At E g (s.set i<|pt b o')<|w.putObj b o':=by
 have d:=h.fresh _ (zg3 c) b rfl;refine h.turn c I ⟨I,dm _⟩ I (by simp[World.putObj]) (fun k _ f=>World.putObj_heap_other<|fun e=>f<|by simp[pt,e]) ?_ (fun j a=>?_)
 ·simp only[pt,Option.bind_some];exact World.putObj_heap_same d.2
 ·simp only[pt,zg8] at a;subst a;exact⟨by simpa [World.putObj] using d.2,.inl I⟩
theorem At.here {o:Obj}(h:At E g s w)(a:s[i]?=some (pt b o)):w.heap[b]?=some o:=by
 have:=h.own _<|zg3 a;simpa [pt] using this
end
def xN (P:Program)(E:World)(l:Nat)(args:Array Value)(g:PH)(s:Own)(R:Value→PH→Own→Prop):Prop :=
 ∀ w,At E g s w→YieldAt Fence.wide 0 P l args w fun e w'=>∃ v g' s',e = .returned v∧At E g' s' w'∧R v g' s'
def G8 (P:Program)(E:World)(gf:FuncId)(lb:List Value){α:Type}(encs:α→List Value)(xs:List α)(g0:PH):Prop :=
 ∀ (l:Nat) (ι:Type) (G:ι→PH) (S:ι→Own) (J:List α→ι→Prop) (i0:ι),J [] i0→(∀ pre i,J pre i→Le g0 (G i)) →
  (∀ pre x suf i sx,xs=pre++x::suf→J pre i→xN P E l (encs x).toArray (G i) (S i++sx) (fun v g' s'=>v = .bool true∧∃ j,J (pre++[x]) j∧g'=G j∧s'=S j++sx)) →
  ∀ sx,Ctr P E gf (.func (.yield l) #[] #[]::lb).toArray (G i0) (S i0++sx) (fun _ g' s'=>∃ j,J xs j∧g'=G j∧s'=S j++sx)
theorem XO.yield {x:Operand}{l:List Operand}{b:Array TypeId}{vs:List Value}{k:Nat}(j:ev f x=some (.func (.yield k) #[] #[]))(hl:evs f l=some vs)(m:xN P E k vs.toArray g s R) :
  XO P M N E ⟨dst,.call ⟨.value x,l.toArray,b⟩,ty,pos,af,gd⟩ f g s R:=by
 intro a w i n Q next hn;refine⟨fun _ _=>trivial,?_⟩;rw[Oper.semAt_eq _ _ _ fun _ h=>by cases h];obtain ⟨fn,tmps,assign,body,o,p⟩:=m w n;have q:a.eval x = .func (.yield k) #[] #[]:=i.ev j;have r:l.map a.eval=vs:=by have:=i.2.evs hl;rwa [pP] at this
 have t:(execOp a.eval ⟨dst,.call ⟨.value x,l.toArray,b⟩,ty,pos,af,gd⟩).run P w = .ok (.round k fn tmps assign body) w:=by
  simp only[execOp,resolve,q,List.map_toArray,r];simp[Deferred.ofValue,Sem.run_bind,invoke,o]
 rw[t];refine⟨fun h=>(by cases h),RoundIn.mono p fun e w' u=>?_⟩;obtain ⟨v,g',s',rfl,c,d⟩:=u;exact hn v g' s' w' d c
theorem Ctr.ofX {n:FuncId}{args:List Value}
  (d:P.funcs[n]?=some fn) (hb:fn.body=some c) (e:fn.ntmps=N) (f:args.length≤N)
  (h:XC P ⟨none,[]⟩ N E c (bodyPostM (wf none) 0 P fn<|nI E R) (m9 0 args) g s):Ctr P E n args.toArray g s R:=by
 intro w i;refine (callsIn_wide (n:=0)).1<|callsIn_of_wp_marks (F:=wf none) d hb trivial (h _ w ⟨I,⟨I,?_,fun t v j=>?_⟩⟩ i) I
 ·simp[jW,e];omega
 ·obtain ⟨_,a⟩:=kM args 0 t v j;have b:t<args.length:=(zf6.1<|by simpa using a).1;simp only[Nat.sub_zero] at a;obtain ⟨_,k⟩:=zf6.1 a;simp[jW,Array.getElem?_append,b,k]
theorem XT.leave0 (c:e = .ret∨e = .normal)(h:ST N E (bodyPost P fn<|nI E R) e f g s):XT ⟨none,[]⟩ N E (bodyPostM (wf none) 0 P fn<|nI E R) e f g s:=by
 intro a w b d;have i:=h (jW a) w b.2 d
 rcases c with rfl | rfl
 all_goals
  obtain ⟨_,v,j,k⟩:=i;show LeavesInM _ _ _ _ _ _ a.defers _ _;rw[b.1];exact⟨v,j,k⟩
theorem XT.leave1 {D:Nat}(j:e = .ret∨e = .normal)(h:ST N E (bodyPost P fn<|nI E R) e f g s) :
  XT ⟨none,[⟨.collected D,#[]⟩]⟩ N E (bodyPostM (wf none) 0 P fn<|nI E R) e f g<|pt D (.deferred<|some [])::s:=by
 intro a w c d;have k:w.heap[D]?=some (.deferred<|some []):=At.here (i:=0) d rfl;have b:=(At.obj (i:=0) (o':=.deferred none) d rfl).sublist<|zj2 _ _;have l:=h (jW a) _ c.2 b
 rcases j with rfl | rfl
 all_goals
  obtain ⟨_,v,m,n⟩:=l;show LeavesInM _ _ _ _ _ _ a.defers _ _;rw[c.1];exact⟨by simp,.inl ⟨D,_,I,run_takeDeferred k,v,m,n⟩⟩
theorem tg {t:Nat}{u:Value}(h:Ok N f<|jW a)(b:t<N):Ok N ((t,u)::f) { tmps:=((#[t]:Array Tmp).zip [u].toArray).foldl (fun t (p,v)=>t.setIfInBounds p v) a.tmps,defers:=[] }:=by
 have:=h.put b u;simpa [Act.put,jW] using this
theorem GA {t:Nat}{u c:Value}(h:Ok N f<|jW a)(e:t<N)(d:b<N):Ok N ((b,c)::(t,u)::f) { tmps:=((#[t,b]:Array Tmp).zip [u,c].toArray).foldl (fun t (p,v)=>t.setIfInBounds p v) a.tmps,defers:=[] }:=by
 have:=(h.put e u).put d c;simpa [Act.put,jW] using this
def AB {α ι:Type}(E:World)(G:ι→PH)(S:ι→Own)(J:List α→ι→Prop)(pre:List α)(x:α)(sx:Own):Exit→Act→World→Prop:=fun e _ w'=>e = .normal∧∃ j,At E (G j) (S j++sx) w'∧J (pre++[x]) j
def ww (E:World)(g:PH)(s:Own)(fb:Fr):Exit→Act→World→Prop:=fun e a' w'=>e = .normal∧Okd [] N fb a'∧At E g s w'
theorem XT.roundEnd {α ι:Type}{G:ι→PH}{S:ι→Own}{J:List α→ι→Prop}{pre:List α}{x:α}{a:Own}(j:ι)(hg:G j=g)(b:S j++a=s)(c:J (pre++[x]) j):XT M N E (AB E G S J pre x a) .normal f g s:=fun _ _ _ d=>⟨rfl,j,by rw[hg,b];exact d,c⟩
theorem XT.assignEnd {a:Fr}(b:Sub a f):XT ⟨ro,[]⟩ N E (ww (N:=N) E g s a) .normal f g s:=fun _ _ c d=>⟨rfl,c.sub b,d⟩
theorem XC.rangeFunc {α ι:Type}{q:Operand}{ps:Array Tmp}{assign body:Code}{y:FuncId}{z:List Value}{encs:α→List Value}{xs:List α}{g0:PH}(G:ι→PH)(S:ι→Own)(J:List α→ι→Prop)(i0:ι)(c:Own)(fa:α→Fr)(fb:List α→α→ι→Fr)
  (a0:M.ro=none) (hg:ev f q=some (.func (.func y) #[] z.toArray)) (eg:∀ args w,(callFunc y args).run P w = .ok (.enter y args) w) (a2:∀ x,(encs x).length=ps.size)
  (hG:G i0=g) (hS:S i0++c=s) (U:G8 P E y z encs xs g0) (A:∀ pre i,J pre i→Le g0 (G i)) (h0:J [] i0)
  (a4:∀ x a,Ok N f (jW a)→Ok N (fa x) { tmps:=(ps.zip (encs x).toArray).foldl (fun t (p,v)=>t.setIfInBounds p v) a.tmps,defers:=[] })
  (m:∀ l pre x i B,J pre i→XC P ⟨some l,[]⟩ N E assign (ww (N:=N) E (G i) (S i++B)<|fb pre x i) (fa x) (G i) (S i++B))
  (C:∀ l pre x F i B,xs=pre++x::F→J pre i→XC P ⟨some l,[]⟩ N E body (AB E G S J pre x B) (fb pre x i) (G i) (S i++B))
  (H:∀ D j,J xs j→XT ⟨none,⟨.collected D,#[]⟩::M.ds⟩ N E Q .normal f (G j) (pt D (.deferred<|some [])::(S j++c))):XC P M N E (.rangeFunc q ps assign body) Q f g s:=by
 subst hG hS;intro a w ha hw;rw[a0];refine wpIn_rangeFunc ?_;intro fn _;obtain ⟨rec,b⟩:∃ rec:LoopState→Option Code→Loop,rec=fun st pe=>{ state:=st,pending:=pe,fn,tmps:=a.tmps,params:=ps,assign,body,defers:=w.heap.size }:=⟨_,rfl⟩;obtain ⟨L,hL⟩:∃ L,L=w.heap.size+1:=⟨_,rfl⟩;obtain ⟨D,hD⟩:∃ D,D=w.heap.size:=⟨_,rfl⟩;obtain ⟨W1,V⟩:∃ W1,(w.alloc<|.deferred<|some []).alloc (.loop<|rec .ready none)=W1:=⟨_,rfl⟩;have hA:At E (G i0) (pt L (.loop<|rec .ready none)::pt D (.deferred<|some [])::(S i0++c)) W1:=by
  rw[← V,hL,hD];have K:At E (G i0) (pt w.heap.size (.deferred<|some [])::(S i0++c))<|w.alloc<|.deferred<|some []:=hw.alloc (e:=pt w.heap.size<|.deferred<|some []) rfl rfl;have O:=K.alloc (e:=pt (w.alloc<|.deferred<|some []).heap.size<|.loop<|rec .ready none) rfl rfl;rw[World.size_alloc] at O;exact O
 obtain ⟨S2,o⟩:∃ S2:ι→Own,S2=fun i=>S i++(pt L (.loop<|rec .ready none)::pt D (.deferred<|some [])::c):=⟨_,rfl⟩;have a5:At E (G i0) (S2 i0++[]) W1:=by
  rw[o,zc7];dsimp only;refine hA.perm ?_;have K:(pt L (.loop<|rec .ready none)::pt D (.deferred<|some [])::(S i0++c))=[pt L<|.loop<|rec .ready none,pt D<|.deferred<|some []]++(S i0++c):=rfl;have O:S i0++(pt L (.loop<|rec .ready none)::pt D (.deferred<|some [])::c)=S i0++([pt L<|.loop<|rec .ready none,pt D<|.deferred<|some []]++c):=rfl;rw[K,O,← zg9,← zg9];exact List.perm_append_comm.append_right _
 refine⟨L,[{ target:=.collected D,args:=#[] }],W1,{ target:=.fn (.func y) z.toArray,args:=#[.func (.yield L) #[] #[]] },W1,y,(.func (.yield L) #[] #[]::z).toArray,W1,?_,?_,fun _ _=>trivial,?_,fun h=>(by cases h),?_⟩
 ·rw[← V,b,hL,hD];exact run_enterLoop_outer _ _ _ _ _
 ·have K:a.eval q = .func (.func y) #[] z.toArray:=ha.ev hg;simp only[resolve,K];simp[go_sem]
 ·have:(#[.func (.yield L) #[] #[]]++z.toArray:Array Value)=(.func (.yield L) #[] #[]::z).toArray:=by simp
  simp[invoke,go_sem,eg]
 ·refine (callsIn_wide (n:=0 - 1)).2<|(U L ι G S2 J i0 h0 A ?_ [] W1 a5).mono ?_
  ·intro pre x F i B a9 hJ W hW;rw[o] at hW;simp only[zg9,List.cons_append] at hW;have b5:(S i).length=(S i).length:=rfl;have gl:∀ (i:ι) (u k:Ent) (r:Own),(S i++u::k::r)[(S i).length]?=some u:=fun i u k r=>by simp
   have hl:=hW.here<|gl i _ _ _;have hy:=run_yield (P:=P) (args:=(encs x).toArray) hl (by rw[b];simpa using a2 x);rw[b] at hy;refine⟨fn,_,assign,body,hy,roundIn_of_wpIn trivial ?_⟩;refine Code.wpIn_mono (fun e a1 w1 K=>?_)<|m L pre x i _ hJ { tmps:=(ps.zip (encs x).toArray).foldl (fun t (p,v)=>t.setIfInBounds p v) a.tmps,defers:=[] } W ⟨I,a4 x a ha.2⟩ hW;obtain ⟨rfl,b0,X⟩:=K;have b1:=X.here<|gl i _ _ _;refine⟨_,run_beginRound b1<|by rw[b],?_⟩;have d:∀ (i:ι) (u k v:Ent) (r:Own),(S i++u::k::r).set (S i).length v=S i++v::k::r:=fun i u k v r=>by simp
   have Y:=X.obj (o':=.loop { rec .ready none with state:=.busy })<|gl i _ _ _;rw[d] at Y;refine Code.wpIn_mono (fun e a3 w3 h3=>?_)<|C L pre x F i _ a9 hJ a1 _ b0 Y;obtain ⟨rfl,j,Z,b2⟩:=h3;have b3:=Z.here<|gl j _ _ _;have he:=run_endRound (P:=P) none b3;have R:=Z.obj (o':=.loop { (rec .ready none) with state:=.ready,pending:=none })<|gl j _ _ _;rw[d] at R;refine⟨_,_,he,.bool true,G j,S2 j++B,I,?_,I,j,b2,I,I⟩;rw[o];simp only[zg9,List.cons_append];rw[b] at R ⊢;exact R
  ·rintro e W2 ⟨v,g',s',rfl,T,j,hJ,rfl,rfl⟩;rw[o,zc7] at T;have gl:∀ (i:ι) (u k:Ent) (r:Own),(S i++u::k::r)[(S i).length]?=some u:=fun i u k r=>by simp
   have hl:=T.here<|gl j _ _ _;have he:=run_endLoop (P:=P) hl (by rw[b];simp);have O:=T.obj (o':=.loop { (rec .ready none) with state:=.exhausted })<|gl j _ _ _;have d:∀ (i:ι) (u k v:Ent) (r:Own),(S i++u::k::r).set (S i).length v=S i++v::k::r:=fun i u k v r=>by simp
   rw[d] at O;have b4:(rec .ready none).pending=none:=by rw[b]
   refine⟨none,_,he.trans<|ze3 (fun p=>Result.ok p _) b4,?_⟩;refine H D j hJ _ _ ⟨by rw[← ha.1];rfl,ha.2⟩ ?_;have h3:=(O.sublist (s':=S j++pt D (.deferred<|some [])::c)<|by exact (zc4 _).append<|zj2 _ _).perm List.perm_middle;exact h3
def ID:=@XL.on
def IF:=@XC.condT
def II:=@XT.leave1
def IP:=@XT.thenX
def IY:=@XT.drop
def Ia:=@XL.q
def Ib:=@XL.o
def Ip:=@XC.skip
def Iy:=@XC.condF
def JE:=@XC.exit
def JI:=@XT.again
def JK:=@XL.gu
def Jd:=@XL.off
def Jg:=@XC.ret
def Jh:=@XL.facts
def Jj:=@Ctr.ofX
def Jn:=@XT.blockX
def Js:=@XT.mid
def Jv:=@XC.facts
def Jw:=@XC.to
def Jx:=@XL.gq
def Jy:=@XT.facts
def cu:=@XC.region
def dr:=@XT.thenN
def hX:=@XC.seq
def iF:=@XL.nil
def ka:=@XL.u
def uu:=@XC.block
def wc:=@XT.blockN
def nE {κ:Type}(E:World)(g:PH)(s:Own)(fb:κ→Fr)(X:κ→Own):Exit→Act→World→Prop:=fun e a' w'=>e = .normal∧∃ q,Okd [] N (fb q) a'∧At E g (X q++s) w'
theorem XT.assignEndA {κ:Type}{a:κ→Fr}{X:κ→Own}{s0:Own}(q:κ)(b:Sub (a q) f)(c:X q++s0=s):XT ⟨ro,[]⟩ N E (nE (N:=N) E g s0 a X) .normal f g s:=fun _ _ d e=>⟨rfl,q,d.sub b,by rw[c];exact e⟩
def I1:=@XT.assignEndA
def ext (ds:List Deferred)(b:Act):Act:={ b with defers:=b.defers++ds }
theorem m8 (ds:List Deferred)(b:Act)(d:Option Tmp)(v:Value):ext ds (b.put d v)=(ext ds b).put d v:=by cases d <;> rfl
theorem Fc (ds:List Deferred)(b:Act):(ext ds b).eval=b.eval:=by funext x;cases x <;> rfl
def oO (ops:Array Oper):Bool:=ops.toList.all fun o=>match o.op with | .defer _=>false | _=>true
theorem Bc (h:oO ops=true){o:Oper}(a:ops[i]?=some o):∀ c,o.op ≠ .defer c:=by
 intro c hc;unfold oO at h;rw[zk1] at h;have hm:o∈ops.toList:=by
  rw[Array.getElem?_eq_some_iff] at a;obtain ⟨b,rfl⟩:=a;simp
 have:=h o hm;rw[hc] at this;exact absurd this dO
section
variable {ds:List Deferred}{Q0:Exit→Act→World→Prop}
theorem AH {o:Oper}{b:Act}{K0 K:Act→World→Prop}(i:∀ c,o.op ≠ .defer c)(d:∀ e b w,Q0 e b w→e = .normal)(f:∀ k w',K0 k w'→K (ext ds k) w')
  (a:o.wp P b w K0 Q0):o.wpIn (wf ro) 0 P (ext ds b) w K Q:=by
 refine⟨fun _ _=>trivial,?_⟩;rw[Oper.semAt_eq _ _ _ i,Fc];unfold Oper.wp at a;generalize (execOp b.eval o).run P w=r at a;cases r with
 | ok n w' =>
  cases n <;> simp only[Oper.upon] at a <;> first | exact a.elim | skip
  ·have:=f _ _ a;rw[m8] at this;exact this
  ·have:=f _ _ a;rw[m8] at this;exact this
  ·refine⟨fun h=>(by cases h),(CallsIn.more (n:=0) ((callsIn_wide (n:=0)).2<|Calls.mono a<|fun e g j=>?_)<|zf7 _)⟩;cases e with
   | returned v =>
    have:=f _ _ j;rw[m8] at this;exact this
   | panicked c=>exact absurd (d _ _ _ j) dO
   | outgrown =>
    obtain ⟨_,_,l⟩:=j;exact absurd (d _ _ _ l) dO
  ·have:=f _ _ a;rw[m8] at this;exact this
  ·exact⟨fun h=>(by cases h),fun c cs _=>let ⟨v,g,r,st⟩:=a c cs;⟨v,g,(by have:=f _ _ r;rw[m8] at this;exact this),stepsIn_wide.2 st⟩⟩
 | halt x w' =>
  cases x <;> simp only[Oper.upon] at a <;> first | exact a.elim | exact absurd (d _ _ _ a) dO
theorem rz {b:Act}{K0 K:Act→World→Prop}(d:oO ops=true)(c:∀ e b w,Q0 e b w→e = .normal)(f:∀ k w',K0 k w'→K (ext ds k) w')
  (a:wpOp P ops Q0 i K0 b w):wpOpIn (wf ro) 0 P ops Q i K (ext ds b) w:=by
 unfold wpOp at a;unfold wpOpIn;cases g:ops[i]? with
 | none =>
  rw[g] at a;exact f _ _ a
 | some o =>
  rw[g] at a;dsimp only at a ⊢;have l:(ext ds b).tmps=b.tmps:=rfl;rw[l];split at a
  ·rename_i j;rw[zg2 j]
   rcases a with a | ⟨_,n,w',m⟩
   ·exact AH (Bc d g) c f a
   ·exact absurd (c _ _ _ m) dO
  ·rename_i j;rw[zg1 j];refine⟨fun _ _=>trivial,?_⟩;have:=f _ _ a;rw[m8] at this;exact this
theorem jT (c:oO ops=true)(a:∀ e b w,Q0 e b w→e = .normal∧Q .normal (ext ds b) w):∀ (fuel:Nat) (L:Array Bool) (b:Act) (w:World),wpAny P .any ops Q0 fuel L b w→wpAnyIn (wf ro) 0 P .any ops Q fuel L (ext ds b) w
 | 0,_,_,_,h=>⟨h.1,(a _ _ _ h.2).2⟩
 | fuel+1,L,b,w,h=>⟨fun hr=>(a _ _ _<|h.1 hr).2,fun i d=>rz c (fun e b w h=>(a e b w h).1) (fun f w' hb=>jT c a fuel _ f w' hb)<|h.2 i d⟩
end
def Qx (ds:List Deferred)(Q:Exit→Act→World→Prop):Exit→Act→World→Prop:=fun e b w=>e = .normal∧Q .normal (ext ds b) w
instance (ds:List Deferred):Quiet<|Qx ds Q:=⟨fun _ _ _ _ _ h=>absurd h.1 dO⟩
theorem ST.ofXT (h:XT M N E Q .normal f g s):ST N E (Qx M.ds Q) .normal f g s:=fun a w b c=>⟨rfl,h _ _ ⟨by simp[ext,b.defers],by
 have:jW (ext M.ds a)=a:=by
  obtain ⟨t,d⟩:=a;have hd:d=[]:=b.defers;subst hd;rfl
 rw[this];exact b⟩ c⟩
def Jc:=@ST.ofXT
end Go.Sy
namespace Go.Proofs.YtpmoadbbfobbcaaGreatDoor
open _root_.Go.Proofs.Tryz _root_.Go.Proofs.YtpmoadbbfobbcaaGreatDoor.Tryz
open Go Go.Sy Go.Pl Go.Proofs
set_option maxRecDepth 100000
set_option maxHeartbeats 1000000
theorem pH {α β:Type}{l:List α}{k:Nat}(h:k<l.length)(p:α→Bool)(f:α→β):((l.take<|k+1).filter p).map f=((l.take k).filter p).map f++(if p l[k] then [f l[k]] else []):=by
 rw[tS h,zh7,zg6];congr 1;simp only[zi8,List.filter_nil];split <;> rfl
theorem xB {α β:Type}(l:List α)(k:Nat)(p:α→Bool)(f:α→β):(((l.take k).filter p).map f).length≤k:=by
 rw[ze7];refine zk8 (zc6 _ _) ?_;rw[ze5];omega
theorem Tryz.buildE61 (w:World):(Instr.build 61 #[]).run Tryz.prog w = .ok (.agg #[vi 0,vi 0,.slice none 0 0]) w:=by
 simp[Instr.build,Instr.fill];rfl
def Eg (l:List Cl)(d:Int):List Int:=((am l).filter fun c=>decide<|c.dim=d).map Cl.id
theorem SU.maxI {P:Program}{N:Nat}{f:Fr}{dst:Option Tmp}{ty:TypeId}{pos:String}{af:Array Edge}{gd:Option<|Nat×Bool}{x y:Operand}{T U:TypeId}{m n:Int}(c:ev f x=some (vi m))(d:ev f y=some (vi n)) :
  SU P N ⟨dst,.call ⟨.builtin .max,#[x,y],#[T,U]⟩,ty,pos,af,gd⟩ f<|vi<|max m n:=fun a w b=>by
 have h:=run_max_int2 (P:=P) (w:=w) #[T,U] ty .i64 .i64 m n;have e:(if m<n then n else m)=max m n:=by split <;> omega
 rw[e] at h;simp[execOp,resolve,invoke,builtin,b.ev c,b.ev d,h]
variable (E:World)(g:PH)(s:Own)
theorem qA (v:Value)(l:List Cl)(d:Int)(K:ai g v l)(L:aM l) :
  Ctr Tryz.prog E 119 #[.agg #[v],vi d] g s fun r g' s'=>s=s'∧Le g g'∧dA g' r (Eg l d):=by
 have n:=bG L;have O:=n.1;obtain ⟨p,c,rfl⟩:=K.form;refine zb2 (args:=[.agg #[.slice p l.length c],vi d]) func119 I ntmps119 (bE I)<|rZ (bW (bO I) fun C=>?_);refine aT I<|rZ<|aT I<|rZ<|lK (qV 0 aj ae I I I)<|lW (bt call41 I<|bA E g _ _ l K L) ?_;rintro v9 g1 _ ⟨rfl,D,hc⟩;obtain ⟨rs,b,j⟩:=hc;obtain ⟨q,P,rfl⟩:=b.form;refine aT I<|sQ<|rZ<|aT I<|bK ?_;have Q:=j.length;unfold Eg;generalize am l=A at *;refine zb6 3 1<|oP (ι:=Value×Nat) (fun i=>[(1,vi d),(5,i.1),(6,.slice q rs.length P),(7,vi i.2)]) (fun _=>g1) (fun i=>rowA encInt 3 i.1 (((A.take i.2).filter fun c=>decide<|c.dim=d).map Cl.id)::pt C (bY #[.slice p l.length c] 29)::s)
  (fun i=>i.2≤A.length) (fun i=>A.length - i.2) (.slice none 0 0,0) sB rfl rfl (zf7 _) ?_
 rintro ⟨M,k⟩ R;dsimp only at R ⊢;refine sQ<|sW I<|lM I<|lU (eN aB I)<|yL I<|tZ<|iP I (fun F=>?_) (fun F=>?_)
 ·have m:k<A.length:=oM;have t:k<rs.length:=oM;have f:=b.based oM;have y:=j.get (bd m)<|bd t;have z:rs[((k:Nat):Int).toNat]?=some rs[k]:=bd t;have a:=pH m (fun c=>decide<|c.dim=d) Cl.id;have N:=xB A k (fun c=>decide<|c.dim=d) Cl.id;have S:=n.2 _<|gM m;generalize A[k]=x at *;generalize rs[k]=r at *;refine kP<|tN<|sQ<|bK<|sW I<|lM I<|lU (iA aB ar I I f oM sL)<|lU (fC ap I zT3 I f)<|lK (aZ (e:=encCell) (o:=1) (u:=vi x.dim) iT3 I b.rd z<|by rw[← y.2.1];rfl) ?_;refine lM I<|yE I<|tZ<|iP I (fun hd=>?_) (fun hd=>?_)
  ·refine rG<|lM I<|lM I<|lM I<|lU (iA aB ar I I f oM sL)<|lU (fC ap I zT3 I f)<|lK (aZ (e:=encCell) (o:=0) (u:=vi x.id) iT3 I b.rd z<|by rw[← y.1];rfl) ?_;refine lW (bS sty43 I I I (ab sB) dC) ?_;rintro _ _ _ ⟨T,rfl,rfl,rfl⟩;refine lW (aP (e:=encInt) 0 x.id sty43 I I I I I oM oM) ?_;rintro ov' _ _ ⟨rfl,rfl⟩;refine lA I<|cp<|bN<|tN<|rG<|lM I<|yD I<|lA I<|cp ?_;refine ST.to (fun w G=>?_) (g':=g1) (s':=rowA encInt 3 ov' (((A.take<|k+1).filter fun c=>decide<|c.dim=d).map Cl.id)::pt C (bY #[.slice p l.length c] 29)::s) ?_
   ·rw[a,zg2<|zf9 hd];exact G
   exact ct (ov',k+1) sB I I (by dsimp only;omega) lN
  ·refine kP<|bN<|tN<|rG<|lM I<|yD I<|lA I<|cp ?_;refine ST.to (fun w G=>?_) (g':=g1) (s':=rowA encInt 3 M (((A.take<|k+1).filter fun c=>decide<|c.dim=d).map Cl.id)::pt C (bY #[.slice p l.length c] 29)::s) ?_
   ·rw[a,zg1<|by rw[zf8 hd];simp,zc7];exact G
   exact ct (M,k+1) sB I I (by dsimp only;omega) lN
 ·have H:A.take k=A:=tL oM;rw[H];refine xI (tX<|tX<|bX<|tN<|sW I<|aT I<|rE<|fT fun g2 B J=>?_);exact dR (s':=s) uR<|za8 (.inl I) results119 I ⟨I,D.trans B,J⟩
theorem ym (c:Cl)(r:Rc)(id:Int)(hc:an g c r)(hl:c.sides.length<1099511627776) :
  Ctr Tryz.prog E 207 #[rcv r,vi id] g s fun x g' s'=>x=vb (oG c id)∧g=g'∧s=s':=by
 obtain ⟨t,rd,⟨d,w,rc⟩⟩:=r;have j:SlA encSide g (.slice d w rc) c.sides:=hc.2.2;have hn:w=c.sides.length:=zc2 j;subst hn;refine zb2 (args:=[rcv ⟨t,rd,⟨d,c.sides.length,rc⟩⟩,vi id]) func207 I ntmps207 (bE I)<|rZ (bW (bO I) fun y=>?_);refine aT I<|sQ<|rZ<|aT I<|bK<|oP (ι:=Nat) (fun k=>[(1,vi id),(2,pp y 0),(5,vi k)]) (fun _=>g) (fun _=>pt y (bY #[vi t,vi rd,.slice d c.sides.length rc] 61)::s)
  (fun k=>k≤c.sides.length∧(c.sides.take k).any (fun x=>decide<|x.cell=id)=false) (fun k=>c.sides.length - k) 0 sB rfl rfl ⟨zf7 _,rfl⟩ ?_
 rintro k ⟨z,a⟩;refine sQ<|sW I<|lU (bj ap I aI I)<|lK (qL (v:=.slice d c.sides.length rc) bg I<|cO 0 I I)<|lU (eN aW I)<|yL I<|tZ<|iP I (fun l=>?_) (fun l=>?_)
 ·have b:k<c.sides.length:=oM;have f:=j.based oM;have m:c.sides[((k:Nat):Int).toNat]?=some c.sides[k]:=bd b;have n:(c.sides.take<|k+1).any (fun x=>decide<|x.cell=id)=((c.sides.take k).any (fun x=>decide<|x.cell=id)||decide (c.sides[k].cell=id)):=by
   rw[tS b,List.any_append];simp
  have i:c.sides[k]∈c.sides:=gM b;generalize c.sides[k]=x at *;refine kP<|tN<|sQ<|bK<|rZ<|lU (bj ap I aI I)<|lK (qL (v:=.slice d c.sides.length rc) bg I<|cO 0 I I)<|lM I<|lU (iA aW aV I I f oM sL)<|lU (fC dh I zT3 I f)<|lK (aZ (e:=encSide) (o:=0) (u:=vi x.cell) iT3 I j.rd m I)<|lM I<|yE I<|tZ<|iP I (fun p=>?_) (fun p=>?_)
  ·exact rZ<|aT I<|rE<|bR<|tR<|tR<|bR<|tR<|dR (s':=s) uR<|za8 (.inl I) results207 I ⟨by rw[show oG c id=true from zj9.2 ⟨x,i,zf9 p⟩],I,I⟩
  ·exact kP<|bN<|tN<|rG<|lM I<|yD I<|lA I<|cp<|ct (k+1) sB I I ⟨oM,by rw[n,a,zf8 p];rfl⟩ oM
 ·have q:c.sides.take k=c.sides:=tL oM;rw[q] at a;exact xI<|tX<|tX<|bX<|tN<|rZ<|aT I<|rE<|dR (s':=s) uR<|za8 (.inl I) results207 I ⟨by rw[show oG c id=false from a],I,I⟩
theorem dH (v:Value)(l:List Cl)(id:Int)(K:ai g v l)(L:aM l) :
  Ctr Tryz.prog E 179 #[.agg #[v],vi id] g s fun r g' s'=>s=s'∧Le g g'∧dA g' r (aG l id):=by
 have m:=bG L;have O:=m.1;obtain ⟨p,c,rfl⟩:=K.form;refine zb2 (args:=[.agg #[.slice p l.length c],vi id]) func179 I ntmps179 (bE I)<|rZ (bW (bO I) fun B=>?_);refine aT I<|rZ<|aT I<|rZ<|lK (qV 0 aj ae I I I)<|lW (bt call41 I<|bA E g _ _ l K L) ?_;rintro v9 g1 _ ⟨rfl,C,hc⟩;obtain ⟨rs,b,d⟩:=hc;obtain ⟨q,P,rfl⟩:=b.form;refine aT I<|sQ<|rZ<|aT I<|bK ?_;have Q:=d.length;unfold aG;generalize am l=A at *;refine zb6 3 1<|oP (ι:=Value×Nat) (fun i=>[(1,vi id),(5,i.1),(6,.slice q rs.length P),(7,vi i.2)]) (fun _=>g1) (fun i=>rowA encInt 3 i.1 (((A.take i.2).filter fun c=>oG c id).map Cl.id)::pt B (bY #[.slice p l.length c] 29)::s)
  (fun i=>i.2≤A.length) (fun i=>A.length - i.2) (.slice none 0 0,0) sB rfl rfl (zf7 _) ?_
 rintro ⟨M,k⟩ R;dsimp only at R ⊢;refine sQ<|sW I<|lM I<|lU (eN aB I)<|yL I<|tZ<|iP I (fun D=>?_) (fun D=>?_)
 ·have f:k<A.length:=oM;have n:k<rs.length:=oM;have j:=b.based oM;have t:=d.get (bd f)<|bd n;have y:rs[((k:Nat):Int).toNat]?=some rs[k]:=bd n;have a:=pH f (fun c=>oG c id) Cl.id;have N:=xB A k (fun c=>oG c id) Cl.id;have F:=m.2 _<|gM f;generalize A[k]=x at *;generalize rs[k]=r at *;refine kP<|tN<|sQ<|bK<|sW I<|lM I<|lU (iA aB ar I I j oM sL)<|lK (iN dT ar I b.rd y)<|lM I<|lW (bt call207 I<|ym E g1 _ x r id t F) ?_;rintro _ _ _ ⟨rfl,rfl,rfl⟩;refine tZ<|iQ I (fun hd=>?_) (fun hd=>?_)
  ·refine rG<|lM I<|lM I<|lM I<|lU (iA aB ar I I j oM sL)<|lU (fC ap I zT3 I j)<|lK (aZ (e:=encCell) (o:=0) (u:=vi x.id) iT3 I b.rd y<|by rw[← t.1];rfl) ?_;refine lW (bS sty43 I I I (ab sB) dC) ?_;rintro _ _ _ ⟨S,rfl,rfl,rfl⟩;refine lW (aP (e:=encInt) 0 x.id sty43 I I I I I oM oM) ?_;rintro ov' _ _ ⟨rfl,rfl⟩;refine lA I<|cp<|bN<|tN<|rG<|lM I<|yD I<|lA I<|cp ?_;refine ST.to (fun w G=>?_) (g':=g1) (s':=rowA encInt 3 ov' (((A.take<|k+1).filter fun c=>oG c id).map Cl.id)::pt B (bY #[.slice p l.length c] 29)::s) ?_
   ·rw[a,zg2<|hd];exact G
   exact ct (ov',k+1) sB I I (by dsimp only;omega) lN
  ·refine kP<|bN<|tN<|rG<|lM I<|yD I<|lA I<|cp ?_;refine ST.to (fun w G=>?_) (g':=g1) (s':=rowA encInt 3 M (((A.take<|k+1).filter fun c=>oG c id).map Cl.id)::pt B (bY #[.slice p l.length c] 29)::s) ?_
   ·rw[a,zg1<|by rw[hd];simp,zc7];exact G
   exact ct (M,k+1) sB I I (by dsimp only;omega) lN
 ·have H:A.take k=A:=tL oM;rw[H];refine xI (tX<|tX<|bX<|tN<|sW I<|aT I<|rE<|fT fun g2 z J=>?_);exact dR (s':=s) uR<|za8 (.inl I) results179 I ⟨I,C.trans z,J⟩
theorem aK (v:Value)(l:List Cl)(id:Int)(F:ai g v l)(G:aM l) :
  Ctr Tryz.prog E 42 #[.agg #[v],vi id] g s fun r g' s'=>s=s'∧Le g g'∧∃ x,r = .tuple #[rcv x,vb (findC l id).isSome]∧an g' ((findC l id).getD aJ) x:=by
 have u:=bG G;have w:=u.1;obtain ⟨p,c,rfl⟩:=F.form;have e:=eL l;have H:=iq l;refine zb2 (args:=[.agg #[.slice p l.length c],vi id]) func42 I ntmps42 (bE I)<|rZ (bW (bO I) fun O=>?_);refine bW (aL zl6) fun P=>aT I<|rZ<|lK (qV 1 aj ae I I I)<|lW (bt call41 I<|bA E g _ _ l F G) ?_;rintro v9 g1 _ ⟨rfl,j,hc⟩;obtain ⟨rs,d,a⟩:=hc;have y:ai g1 _<|am l:=⟨rs,d,a⟩;obtain ⟨q,Q,rfl⟩:=d.form;refine aT I<|sW I<|lM I<|lW (bt call93 I<|fp E g1 _ _ (am l) id y w e) ?_;rintro _ _ _ ⟨rfl,rfl,rfl⟩;refine aT I<|sQ<|sW I<|yL I<|tZ ?_;have J:=a.length;unfold findC;generalize am l=A at *;have m:=na e id;refine iP I (fun b=>?_) (fun b=>?_)
 ·rcases m with ⟨n,i⟩ | ⟨x,k,n,i,z⟩
  ·have o:(A.find? fun c=>decide<|c.id=id)=none:=n;exact rZ<|lU (za3 I<|buildE61)<|oZ (sK 0 ar I I I I I sB)<|aT I<|rE<|tR<|I8 0 s (.inl I) results42 I I dT ar I I uR ⟨I,j,BQ,by rw[o];rfl,by rw[o];exact iw g1⟩
  ·rw[i] at b;omega
 ·rcases m with ⟨n,i⟩ | ⟨x,k,n,i,z⟩
  ·rw[i] at b;omega
  ·have f:(A.find? fun c=>decide<|c.id=id)=some x:=n;rw[i];have K:k<A.length:=(zf6.1 z).1;have t:k<rs.length:=oM;have B:=d.based oM;have C:=a.get z<|bd t;have D:rs[((k:Nat):Int).toNat]?=some rs[k]:=bd t;generalize rs[k]=r at *;obtain ⟨L,rd,⟨M,N,rc⟩⟩:=r;exact kP<|tN<|sW I<|lM I<|lU (iA aB ar I I B oM sL)<|lK (iN dT ar I d.rd D)<|oZ (sK 0 ar I I I I I sB)<|aT I<|rE<|I8 0 s (.inl I) results42 I I dT ar I I uR ⟨I,j,⟨L,rd,⟨M,N,rc⟩⟩,by rw[f];rfl,by rw[f];exact C⟩
end Go.Proofs.YtpmoadbbfobbcaaGreatDoor
namespace Go.Sy
open Go
variable {x:Operand}
section
variable {α:Type}{k:Nat}{P:Program}{N:Nat}{E:World}{f:Fr}{g:PH}{s:Own}{dst:Option Tmp}{ty:TypeId}{pos:String}{af:Array Edge}{gd:Option<|Nat×Bool}
theorem SO.makeC {y:Operand}{t T:TypeId}{bytes n:Nat}{z:Value}(e:Enc α k)(p:STy P t T k bytes z)(B:ev f x=some (vi 0))(C:ev f y=some (vi n))(hb:n * bytes≤140737488355328)(q:n≤4611686018427387904) :
  SO P N E ⟨dst,.makeSlice t x y,ty,pos,af,gd⟩ f g s fun v' g' s'=>g=g'∧s'=rowA e T v' []::s :=
 IH fun ac w r u=>by
  obtain ⟨v,b,c,d,i⟩:=p.info;have j:(v.bytes:Int) * ((n:Nat):Int)≤281474976710656:=by
   rw[i,← Iw,Nat.mul_comm];omega
  have l:=run_make (P:=P) w t T v z p.und b c .i64 .i64 0 n oM oM j oM;simp only[Int.toNat_natCast] at l;rw[d] at l;have a:(execOp ac.eval ⟨dst,.makeSlice t x y,ty,pos,af,gd⟩).run P w = .ok (.value<|.slice (some ⟨w.heap.size,0,none⟩) 0 n) (w.alloc<|.cells (madeCells z.cells<|n * k) T):=by
   simp[execOp,r.ev B,r.ev C,l]
  have A:(w.alloc<|.cells (madeCells z.cells<|n * k) T).heap[w.heap.size]?=some (.cells (madeCells z.cells<|n * k) T (0,0)):=heap_alloc_new w _;refine⟨_,_,g,_,a,?_,I,I⟩;cases n with
  | zero =>
   have D:=u.emptyRow T k<|some ⟨w.heap.size,0,none⟩;have F:=D.alloc (e:=pt w.heap.size<|.cells (madeCells z.cells<|0 * k) T (0,0)) (o:=.cells (madeCells z.cells<|0 * k) T (0,0)) rfl rfl;exact F.sublist<|zj2 _ _
  | succ n =>
   have m:(madeCells z.cells<|(n+1) * k).size=(n+1) * k:=by simp[madeCells]
   exact u.alloc (e:=rowA e T (.slice (some ⟨w.heap.size,0,none⟩) 0<|n+1) []) (o:=.cells (madeCells z.cells<|(n+1) * k) T (0,0)) I ⟨by simp,.inr ⟨_,n,_,I,I,by simp,by unfold maxLen;omega,m,by simp⟩⟩
def us:Enc Int 1:=⟨fun n=>[.int .u8 n],fun _=>rfl,fun _ u hu=>by simp at hu;subst hu;rfl,by decide⟩
def GS:Enc Int 1:=⟨fun n=>[.int .u64 n],fun _=>rfl,fun _ u hu=>by simp at hu;subst hu;rfl,by decide⟩
def byt (l:List Int):List UInt8:=l.map fun n=>UInt8.ofNat n.toNat
def txt (l:List UInt8):Value:=.string ⟨l.toArray⟩
theorem DM (l:List Int):∀ s:ByteArray,l.foldl (fun r n=>r.push<|UInt8.ofNat n.toNat) s=⟨s.data++(byt l).toArray⟩:=by
 induction l with
 | nil=>intro s;simp[byt]
 | cons a t ih =>
  intro s;simp only[zi9];rw[ih];simp[byt,ByteArray.push]
theorem Br (l:List Int):l.flatMap us.enc=l.map (Value.int .u8):=by
 induction l with
 | nil=>rfl
 | cons a t ih=>simp only[zh6,zg5,ih];rfl
theorem SQ.bytesText {S D e:TypeId}{p:Option Addr}{c:Nat}{l:List Int}(B:P.underlying S=some (.slice e))(C:P.underlying e=some (.int .u8))(hd:P.underlying D=some .string)
  (F:ev f x=some (.slice p l.length c)) (hr:Rd g s (.slice p l.length c)<|l.flatMap us.enc) :
  SQ P N E ⟨dst,.convert S D x,ty,pos,af,gd⟩ f g s<|txt<|byt l:=fun a w G v=>by
 have H:(convert S D<|.slice p l.length c).run P w = .ok (txt<|byt l) w:=by
  rw[run_convert_bytes_string w S D e p l.length c B C hd];rw[Br] at hr;cases l with
  | nil =>
   cases p with
   | none=>simp[Conv.bytesToString,txt,byt];rfl
   | some a =>
    have m:=run_bytesToString (P:=P) w a 0 c [] (by simp[loadCells];exact dy (P:=P) (w:=w) (b:=a.block) (o:=a.off) 0 0 [] #[] I (fun j y r=>by simp at r));rw[zc5,m];rfl
  | cons n t =>
   obtain ⟨q,M,O,i,k,J⟩:=hr E w v 0 (.int .u8 n) rfl;injection i with i K L
   subst i;obtain ⟨z,A,Q⟩:=q;dsimp only at k;subst k;have m:=run_bytesToString (P:=P) w ⟨z,A,none⟩ (n::t).length c (n::t) (by
    have:=dy (P:=P) (w:=w) (b:=z) (o:=A) (n::t).length 0 ((n::t).map<|Value.int .u8) #[] dO (fun j y r=>by
     obtain ⟨R,T,c2,d,_,u⟩:=hr E w v j y r;injection d with d
     injection d with d
     subst d;simpa using u)
    simpa [loadCells] using this)
   rw[m,DM];simp[txt]
 simp[execOp,G.ev F,H]
theorem zx (l:List UInt8):(⟨l.toArray⟩:ByteArray).toList=l:=by rw[ByteArray.toList_eq]
theorem SU.neqT {y:Operand}{T U:TypeId}{l m:List UInt8}(b:ev f x=some (txt l))(c:ev f y=some (txt m)) :
  SU P N ⟨dst,.binOp .neq T x y U,ty,pos,af,gd⟩ f<|.bool<|decide<|l≠m:=fun ac w a=>by
 have hg:(eqGuard .neq T x y (txt l)<|txt m).run P w = .ok () w:=by simp[eqGuard,txt]
 have hb:(binOp .neq T (txt l)<|txt m).run P w = .ok (.bool<|decide<|l≠m) w:=by
  unfold txt;rw[binOp_string_neq,zx,zx];by_cases h:l=m <;> simp[h,bne] <;> rfl
 simp only[execOp,a.ev b,a.ev c,Sem.run_bind,hg,zd2,hb];rfl
end
section
variable {P:Program}{N:Nat}{f:Fr}{dst:Option Tmp}{ty:TypeId}{pos:String}{af:Array Edge}{gd:Option<|Nat×Bool}
end
end Go.Sy
namespace Go.Proofs.YtpmoadbbfobbcaaGreatDoor
open _root_.Go.Proofs.Tryz _root_.Go.Proofs.YtpmoadbbfobbcaaGreatDoor.Tryz
open Go Go.Sy Go.Pl Go.Proofs Go.Shelf
set_option maxRecDepth 100000
set_option maxHeartbeats 1000000
theorem G2 {f:Fr}{t:Nat}{a b:Int}(h:aU f t=some (vi a))(e:a=b):aU f t=some (vi b):=e ▸ h
theorem Tryz.sty238:STy Tryz.prog 238 179 1 8<|.int .u64 0:=⟨underlying238,⟨t179,by kernel_rfl,by kernel_rfl,by kernel_rfl,by kernel_rfl⟩,rfl,by decide⟩
theorem Tryz.sty249:STy Tryz.prog 249 5 1 1<|.int .u8 0:=⟨underlying249,⟨t5,by kernel_rfl,by kernel_rfl,by kernel_rfl,by kernel_rfl⟩,rfl,by decide⟩
def gV (l:List Int):List Int:=(l.reverse.dropWhile (· == 0)).reverse
theorem rU {m:List Int}(h:0<m.length)(b:m.getD (m.length - 1) 1=0):gV (m.take<|m.length - 1)=gV m:=by
 rcases List.eq_nil_or_concat m with rfl | ⟨a,x,rfl⟩
 ·simp at h
 ·have c:x=0:=by simpa [zh2] using b
  subst c;simp[gV]
theorem rT {m:List Int}(h:(decide ((m.length:Int)>0)&&decide (m.getD (m.length - 1) 1=0))=false):gV m=m:=by
 rcases List.eq_nil_or_concat m with rfl | ⟨a,x,rfl⟩
 ·rfl
 ·have b:x≠0:=by simpa [zh2] using h
  simp[gV,b]
variable (E:World)(g:PH)(s:Own)
theorem Dn (v:Value)(l:List Int)(q:SlA GS g v l)(hl:l.length<1099511627776) :
  Ctr Tryz.prog E 234 #[v] g s fun r g' s'=>g=g'∧s=s'∧SlA GS g r (gV l):=by
 refine zb2 (args:=[v]) func234 I ntmps234 (bE I)<|rZ<|aT I<|sQ<|bK<|oP (ι:=Value×List Int) (fun i=>[(0,i.1)]) (fun _=>g) (fun _=>s) (fun i=>SlA GS g i.1 i.2∧gV i.2=gV l∧i.2.length≤l.length) (fun i=>i.2.length) (v,l) ⟨I,trivial⟩ I I ⟨q,I,dm _⟩ ?_;rintro ⟨v1,m⟩ ⟨hm,a,e⟩;dsimp only at hm a e ⊢;obtain ⟨p,c,rfl⟩:=za4 hm;have n:=(IK hm).2;have f1:(m.length:Int)>0→(decide ((m.length:Int)>0)&&decide (m.getD (m.length - 1) 1=0))=decide (m.getD (m.length - 1) 1=0):=fun h=>by rw[zf9 h,Bool.true_and]
 have f2:¬ (m.length:Int)>0→(decide ((m.length:Int)>0)&&decide (m.getD (m.length - 1) 1=0))=false:=fun h=>by simp only[h,decide_false,Bool.false_and]
 have f:(m.length:Int)>0→m[((m.length:Int) - 1).toNat]?=some (m.getD (m.length - 1) 1):=fun h=>by
  have j:((m.length:Int) - 1).toNat=m.length - 1:=oM;have t:m.length - 1<m.length:=oM;rw[j,zh2,bd t];rfl
 have k:(m.length:Int)>0→based (.slice p m.length c)=true:=fun h=>za6 hm oM;refine sQ<|BY 14 ((decide ((m.length:Int)>0)&&decide (m.getD (m.length - 1) 1=0))) ?_ ?_
 ·refine rG<|lM I<|lU (eN uk I)<|lU (gR I I)<|lM I<|sP ?_ ?_
  ·intro d;exact yC I<|yC I<|lY I I I (eN uk I)<|lY I I I (sU I I oM)<|lY I I I (iA uk sizeOf179 I I (k d) oM sL)<|lR (gT I I I dC) (eB isAgg179 I (za7 hm) (f d) I) dC<|lY I I I (eQ I I)<|yP I<|cp<|zb1 (by (rw[f1 d];rfl)) mI
  ·intro d;exact yA I<|yA I<|yA I<|yA I<|yA I<|yA I<|yA I<|yF I<|cp<|zb1 (by (rw[f2 d];rfl)) mI
 refine iQ I (fun hc=>?_) (fun hc=>?_)
 ·rw[zj4,zj7,zj7] at hc;obtain ⟨o,b⟩:=hc;have j:((m.length:Int) - 1).toNat=m.length - 1:=oM;refine kP<|tN<|bK<|rG<|lM I<|lM I<|lU (eN uk I)<|lU (sU I I oM)<|lU (Il uk sizeOf179 I I oM oM)<|lA I<|cp<|bN<|ct (sliced p 0 ((m.length:Int) - 1).toNat c 1,m.take<|m.length - 1) ⟨I,trivial⟩ I I ⟨?_,?_,?_⟩ (by dsimp only;rw[ze5];omega)
  ·have:=IC hm (l:=0) (m:=m.length - 1) (zf7 _) oM;dsimp only;rw[j];simpa using this
  ·dsimp only;rw[rU oM b];exact a
  ·dsimp only;rw[ze5];omega
 ·exact xI<|tX<|tX<|bX<|tN<|sW I<|aT I<|rE<|za8 (.inl I) results234 I ⟨I,I,by rw[← a,rT hc];exact hm⟩
theorem wM (v:Value)(l:List Int)(q:SlA encInt g v l)(hl:l.length<1099511627776) :
  Ctr Tryz.prog E 240 #[v] g s fun r g' s'=>g=g'∧s=s'∧SlA encInt g r (gV l):=by
 refine zb2 (args:=[v]) func240 I ntmps240 (bE I)<|rZ<|aT I<|sQ<|bK<|oP (ι:=Value×List Int) (fun i=>[(0,i.1)]) (fun _=>g) (fun _=>s) (fun i=>SlA encInt g i.1 i.2∧gV i.2=gV l∧i.2.length≤l.length) (fun i=>i.2.length) (v,l) ⟨I,trivial⟩ I I ⟨q,I,dm _⟩ ?_;rintro ⟨v1,m⟩ ⟨hm,a,e⟩;dsimp only at hm a e ⊢;obtain ⟨p,c,rfl⟩:=za4 hm;have n:=(IK hm).2;have f1:(m.length:Int)>0→(decide ((m.length:Int)>0)&&decide (m.getD (m.length - 1) 1=0))=decide (m.getD (m.length - 1) 1=0):=fun h=>by rw[zf9 h,Bool.true_and]
 have f2:¬ (m.length:Int)>0→(decide ((m.length:Int)>0)&&decide (m.getD (m.length - 1) 1=0))=false:=fun h=>by simp only[h,decide_false,Bool.false_and]
 have f:(m.length:Int)>0→m[((m.length:Int) - 1).toNat]?=some (m.getD (m.length - 1) 1):=fun h=>by
  have j:((m.length:Int) - 1).toNat=m.length - 1:=oM;have t:m.length - 1<m.length:=oM;rw[j,zh2,bd t];rfl
 have k:(m.length:Int)>0→based (.slice p m.length c)=true:=fun h=>za6 hm oM;refine sQ<|BY 14 ((decide ((m.length:Int)>0)&&decide (m.getD (m.length - 1) 1=0))) ?_ ?_
 ·refine rG<|lM I<|lU (eN aA I)<|lU (gR I I)<|lM I<|sP ?_ ?_
  ·intro d;exact yC I<|yC I<|lY I I I (eN aA I)<|lY I I I (sU I I oM)<|lY I I I (iA aA zT3 I I (k d) oM sL)<|lR (gT I I I dC) (eB iT3 I (za7 hm) (f d) I) dC<|lY I I I (eQ I I)<|yP I<|cp<|zb1 (by (rw[f1 d];rfl)) mI
  ·intro d;exact yA I<|yA I<|yA I<|yA I<|yA I<|yA I<|yA I<|yF I<|cp<|zb1 (by (rw[f2 d];rfl)) mI
 refine iQ I (fun hc=>?_) (fun hc=>?_)
 ·rw[zj4,zj7,zj7] at hc;obtain ⟨o,b⟩:=hc;have j:((m.length:Int) - 1).toNat=m.length - 1:=oM;refine kP<|tN<|bK<|rG<|lM I<|lM I<|lU (eN aA I)<|lU (sU I I oM)<|lU (Il aA zT3 I I oM oM)<|lA I<|cp<|bN<|ct (sliced p 0 ((m.length:Int) - 1).toNat c 1,m.take<|m.length - 1) ⟨I,trivial⟩ I I ⟨?_,?_,?_⟩ (by dsimp only;rw[ze5];omega)
  ·have:=IC hm (l:=0) (m:=m.length - 1) (zf7 _) oM;dsimp only;rw[j];simpa using this
  ·dsimp only;rw[rU oM b];exact a
  ·dsimp only;rw[ze5];omega
 ·exact xI<|tX<|tX<|bX<|tN<|sW I<|aT I<|rE<|za8 (.inl I) results240 I ⟨I,I,by rw[← a,rT hc];exact hm⟩
theorem uX (v:Value)(c:v.cells = #[v]) :
  Ctr Tryz.prog E 235 #[v] g s fun r g' s'=>s=s'∧Le g g'∧∃ b,r = .func (.func 249) #[] #[pp b 0]∧g' b=some (bY #[v] 238):=by
 refine zb2 (args:=[v]) func235 I ntmps235 (bE I)<|rZ (bW (bO I) fun d=>?_);refine aT I<|rZ<|lU (Ih I)<|aT I<|rE ?_;rw[c];refine I6 fun g1 a hb=>?_;exact za8 (.inl I) results235 I ⟨I,a,_,I,hb⟩
def vf (l:List Int):List<|Nat×Int:=(l.zipIdx.map fun p=>(p.2,p.1)).reverse
theorem qy (l:List Int):(vf l).length=l.length:=by simp[vf]
theorem EI {l:List Int}{k:Nat}(h:k<l.length):(vf l)[l.length - 1 - k]?=some (k,l[k]):=by
 unfold vf;rw[List.getElem?_reverse (by simp;omega)];simp only[ze7,List.length_zipIdx];rw[show l.length - 1 - (l.length - 1 - k)=k by omega];simp[h]
theorem rQ (E:World)(g0:PH)(b:Nat)(v:Value)(l:List Int)(hb:g0 b=some (bY #[v] 238))(D:SlA GS g0 v l)(hl:l.length<1099511627776) :
  G8 Tryz.prog E 249 [pp b 0] (fun x:Nat×Int=>[vi x.1,.int .u64 x.2]) (vf l) g0:=by
 intro k ι G S J i0 F a K sx;obtain ⟨p,c,rfl⟩:=za4 D;refine Ctr.ofX (args:=[.func (.yield k) #[] #[],pp b 0]) func249 I ntmps249 (bE I)<|XC.seq<|XC.region<|XL.q (qL (v:=.slice p l.length c) isAgg238 I<|ao.known (a _ _ F _ _ hb) I) dC<|XL.u (eN uk I) dC<|XL.u (sU I I oM) dC<|XL.u (aS I) dC<|XL.nil<|XT.thenN<|XC.block<|XC.loop (ι:=ι×Nat) (fun i=>[(0,.func (.yield k) #[] #[]),(1,pp b 0),(3,vi<|(i.2:Int) - 1)]) (fun i=>G i.1) (fun i=>S i.1++sx) (fun i=>i.2≤l.length∧J ((vf l).take<|l.length - i.2) i.1) (fun i=>i.2) (i0,l.length)
  sB rfl rfl ⟨dm _,by simpa using F⟩ ?_
 rintro ⟨j,n⟩ ⟨hn,m⟩;dsimp only at hn m ⊢;have e:=a _ _ m;refine XC.seq<|XC.seq<|XC.region<|XL.u (mV I) dC<|XL.u (gQ I I) dC<|XL.nil<|XT.thenN<|XC.ifP I (fun o=>?_) (fun o=>?_)
 ·have f:n - 1<l.length:=oM;have g:=za5 D e;have r:=za6 g oM;have s:l[((n:Int) - 1).toNat]?=some l[n - 1]:=by rw[show ((n:Int) - 1).toNat=n - 1 by omega];exact bd f
  have d:=EI f;rw[show l.length - 1 - (n - 1)=l.length - n by omega] at d;have t:vf l=(vf l).take (l.length - n)++(n - 1,l[n - 1])::(vf l).drop (l.length - n+1):=by
   obtain ⟨H,w⟩:=zf6.1 d;rw[← w,List.getElem_cons_drop,zj3]
  have y:=K _ _ _ j sx t m;have z:(vf l).take (l.length - (n - 1))=(vf l).take (l.length - n)++[(n - 1,l[n - 1])]:=by
   obtain ⟨H,w⟩:=zf6.1 d;rw[show l.length - (n - 1)=l.length - n+1 by omega,tS H,w]
  generalize l[n - 1]=x at *;have A:vi ((n - 1:Nat):Int)=vi ((n:Int) - 1):=ze3 vi oM;dsimp only at y;rw[A] at y;refine XC.skip<|XT.thenN<|XC.seq<|XC.block<|XC.seq<|XC.region<|XL.u (mV I) dC<|XL.u (mV I) dC<|XL.q (qL (v:=.slice p l.length c) isAgg238 I<|ao.known (e _ _ hb) I) dC<|XL.u (mV I) dC<|XL.u (iA uk sizeOf179 I I r oM sL) dC<|XL.q (eB isAgg179 I (za7 g) s I) dC<|XL.x (XO.yield I I y) dC ?_;rintro _ _ _ ⟨rfl,L,B,rfl,rfl⟩;exact XL.u (oF I) dC<|XL.nil<|XT.thenN<|XC.condF I<|XC.skip<|XT.blockN<|XT.thenN<|XC.region<|XL.u (mV I) dC<|XL.u (sU I I oM) dC<|XL.u (aS I) dC<|XL.nil<|XT.again (L,n - 1) ⟨I,I,G2 I oM,trivial⟩ I I ⟨by dsimp only;omega,by dsimp only;rw[z];exact B⟩ (by dsimp only;omega)
 ·have C:n=0:=oM;subst C;exact XC.exit<|XT.thenX<|XT.thenX<|XT.blockX<|XT.leave0 (.inr I)<|Iv (.inr I) results249 ⟨j,by have:=m;rwa [tL<|by rw[qy];omega] at this,I,I⟩
end Go.Proofs.YtpmoadbbfobbcaaGreatDoor
