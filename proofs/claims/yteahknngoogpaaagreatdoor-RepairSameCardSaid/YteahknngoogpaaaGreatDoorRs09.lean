/- Aro2 Ren1 Ren2 Ren3 Par0 Shu SyX SyY SyU RefA SyW -/
import Derived.Test.YteahknngoogpaaaGreatDoorRs08
import Derived.Test.YteahknngoogpaaaGreatDoorRs07
import Derived.Test.YteahknngoogpaaaGreatDoorRs04
import Derived.RangeFuncLeaves
import Derived.RangeFuncRecord
import Derived.RangeFuncSeq
import Derived.OrdersIn
import Derived.TacticsIn
import Derived.Test.YteahknngoogpaaaGreatDoorRs06
import Derived.Test.YteahknngoogpaaaGreatDoorRs05
import Derived.Laws.BytesString
import Derived.Laws.Strings
set_option linter.unusedSimpArgs false
set_option linter.unusedVariables false
namespace Go.Proofs.YteahknngoogpaaaGreatDoor
open _root_.Go.Proofs.Tryz _root_.Go.Proofs.YteahknngoogpaaaGreatDoor.Tryz
open Go Go.Sy Go.Pl Go.Proofs
def sumR (tl:List Cl)(l:List Side)(r:Int):Int:=(l.flatMap fun x=>(sidesOf tl x).map fun q=>if q.cell=r then x.sign * q.sign else 0).sum
def hits (tl:List Cl)(x:Side)(r:Int):Nat:=((sidesOf tl x).filter fun q=>decide (q.cell=r)).length
def cntR (tl:List Cl)(l:List Side)(r:Int):Nat:=(l.map fun x=>hits tl x r).sum
def share (tl:List Cl)(l:List Side)(a b:Int):Prop:=∃ x∈l,∃ y∈l,x.cell=a∧y.cell=b∧∃ r,0<hits tl x r∧0<hits tl y r
theorem getZ_addZ (zl:List (Int×Int))(k x r:Int):getZ (addZ zl k x) r=getZ zl r+if r=k then x else 0:=by
 induction zl with
 | nil =>
  simp only[addZ,getZ];split <;> simp
 | cons p q ih =>
  obtain ⟨a,z⟩:=p;simp only[addZ];by_cases h:k=a
  ·subst h;simp only[if_true,getZ];split <;> simp
  ·rw[if_neg h];simp only[getZ,ih];by_cases hr:r=a
   ·subst hr;rw[if_pos rfl,if_pos rfl,if_neg fun e=>h e.symm];omega
   ·rw[if_neg hr,if_neg hr]
theorem getZ_inner (x:Side)(r:Int):∀ (l:List Side) (zl:List (Int×Int)),getZ (l.foldl (stepZ x) zl) r=getZ zl r+(l.map fun q=>if q.cell=r then x.sign * q.sign else 0).sum
 | [],zl=>by simp
 | q::l,zl=>by
  simp only[List.foldl_cons,List.map_cons,List.sum_cons];rw[getZ_inner x r l,stepZ,getZ_addZ];by_cases h:r=q.cell
  ·rw[if_pos h,if_pos h.symm]; omega
  ·rw[if_neg h,if_neg fun e=>h e.symm]; omega
theorem getZ_sums (tl:List Cl)(l:List Side)(r:Int):getZ (sumsC tl l) r=sumR tl l r:=by
 have:∀ (l:List Side) (zl:List (Int×Int)),getZ (l.foldl (fun zl x=>(sidesOf tl x).foldl (stepZ x) zl) zl) r=getZ zl r+sumR tl l r:=by
  intro l;induction l with
  | nil=>intro zl; simp[sumR]
  | cons x q ih =>
   intro zl;simp only[List.foldl_cons];rw[ih,getZ_inner];simp only[sumR,List.flatMap_cons,List.sum_append];omega
 have h:=this l [];simpa [sumsC,getZ] using h
theorem addZ_keys (ml:List (Int×Int))(k x:Int):(addZ ml k x).map Prod.fst=if ml.any (fun p=>decide (p.1=k)) then ml.map Prod.fst else ml.map Prod.fst++[k]:=by
 induction ml with
 | nil=>simp[addZ]
 | cons p r ih =>
  obtain ⟨a,l⟩:=p;simp only[addZ];by_cases h:k=a
  ·subst h;simp
  ·have h2:¬ a=k:=fun e=>h e.symm;rw[if_neg h];simp only[List.map_cons,ih,List.any_cons,h2,decide_false,Bool.false_or];split <;> simp
theorem addZ_nodup {ml:List (Int×Int)}(h:(ml.map Prod.fst).Nodup)(k x:Int):((addZ ml k x).map Prod.fst).Nodup:=by
 rw[addZ_keys];split
 ·exact h
 ·rename_i hk;rw[List.nodup_append];refine⟨h,by simp,fun a ha b hb e=>hk ?_⟩;simp at hb;subst hb;obtain ⟨p,hp,hpe⟩:=List.mem_map.1 ha;rw[List.any_eq_true];exact⟨p,hp,by simp[hpe,e]⟩
theorem sumsC_nodup (tl:List Cl)(l:List Side):((sumsC tl l).map Prod.fst).Nodup:=by
 have h1:∀ (x:Side) (q:List Side) (zl:List (Int×Int)),(zl.map Prod.fst).Nodup→((q.foldl (stepZ x) zl).map Prod.fst).Nodup:=by
  intro x q;induction q with
  | nil=>intro zl h; exact h
  | cons r t ih=>intro zl h; exact ih _ (addZ_nodup h _ _)
 have h2:∀ (q:List Side) (zl:List (Int×Int)),(zl.map Prod.fst).Nodup→((q.foldl (fun zl x=>(sidesOf tl x).foldl (stepZ x) zl) zl).map Prod.fst).Nodup:=by
  intro q;induction q with
  | nil=>intro zl h; exact h
  | cons x t ih=>intro zl h; exact ih _ (h1 _ _ _ h)
 exact h2 _ _ (by simp)
theorem getZ_mem:∀ {zl:List (Int×Int)},(zl.map Prod.fst).Nodup→∀ p∈zl,getZ zl p.1=p.2
 | [],_,p,hp=>by simp at hp
 | (a,z)::r,h,p,hp=>by
  simp only[List.map_cons,List.nodup_cons] at h
  rcases List.mem_cons.1 hp with rfl | hp
  ·simp[getZ]
  ·simp only[getZ];rw[if_neg fun e=>h.1 (List.mem_map.2 ⟨p,hp,e⟩)];exact getZ_mem h.2 p hp
theorem getZ_some:∀ {zl:List (Int×Int)} {k:Int},getZ zl k≠0→∃ p∈zl,p.1=k∧p.2=getZ zl k
 | [],_,h=>by simp[getZ] at h
 | (a,z)::r,k,h=>by
  simp only[getZ] at h ⊢;split
  ·rename_i e;exact⟨(a,z),by simp,e.symm,I⟩
  ·rename_i e;rw[if_neg e] at h;obtain ⟨p,hp,h1,h2⟩:=getZ_some h;exact⟨p,by simp[hp],h1,h2⟩
theorem sums_none (tl:List Cl)(l:List Side):(sumsC tl l).any (fun p=>decide (p.2≠0))=false↔∀ r,sumR tl l r=0:=by
 rw[List.any_eq_false];constructor
 ·intro h r;rw[← getZ_sums];refine Decidable.of_not_not fun hne=>?_;obtain ⟨p,hp,_,h2⟩:=getZ_some hne;exact h p hp (by simpa [h2] using hne)
 ·intro h p hp;have:=getZ_mem (sumsC_nodup tl l) p hp;rw[getZ_sums,h] at this;simp[← this]
theorem getL_inner (i r:Int):∀ (l:List Side) (ml:List (Int×List Int)),getL (l.foldl (stepL i) ml) r=getL ml r++List.replicate (l.filter fun q=>decide (q.cell=r)).length i
 | [],ml=>by simp
 | q::l,ml=>by
  simp only[List.foldl_cons];rw[getL_inner i r l,stepL,getL_addL,List.filter_cons];by_cases h:r=q.cell
  ·rw[if_pos h,if_pos (by simp[h])];simp[List.replicate_succ]
  ·rw[if_neg h,if_neg (by simp; exact fun e=>h e.symm)]
theorem getL_met (tl:List Cl)(l:List Side)(r:Int):getL (metC tl l) r=l.zipIdx.flatMap fun p=>List.replicate (hits tl p.1 r) (p.2:Int):=by
 have:∀ (q:List (Side×Nat)) (ml:List (Int×List Int)),getL (q.foldl (fun ml p=>(sidesOf tl p.1).foldl (stepL p.2) ml) ml) r=getL ml r++q.flatMap fun p=>List.replicate (hits tl p.1 r) (p.2:Int):=by
  intro q;induction q with
  | nil=>intro ml; simp
  | cons p t ih =>
   intro ml;simp only[List.foldl_cons];rw[ih,getL_inner];simp[hits]
 have h:=this l.zipIdx [];simpa [metC,getL] using h
theorem met_len (tl:List Cl)(l:List Side)(r:Int):(getL (metC tl l) r).length=cntR tl l r:=by
 rw[getL_met];have:∀ (l:List Side) (k:Nat),((l.zipIdx k).flatMap fun p=>List.replicate (hits tl p.1 r) (p.2:Int)).length=cntR tl l r:=by
  intro l;induction l with
  | nil=>intro k; rfl
  | cons x q ih=>intro k; simp only[List.zipIdx_cons,List.flatMap_cons,List.length_append,List.length_replicate,ih,cntR,List.map_cons,List.sum_cons]
 exact this l 0
theorem met_mem (tl:List Cl)(l:List Side)(r i:Int):i∈getL (metC tl l) r↔∃ k:Nat,i=k∧∃ x,l[k]?=some x∧0<hits tl x r:=by
 rw[getL_met,List.mem_flatMap];constructor
 ·rintro ⟨⟨x,k⟩,hp,hi⟩;obtain ⟨h1,rfl⟩:=List.mem_replicate.1 hi;refine⟨k,I,x,?_,Nat.pos_of_ne_zero h1⟩;simpa using List.mem_zipIdx_iff_getElem?.1 hp
 ·rintro ⟨k,rfl,x,hx,hh⟩;exact⟨(x,k),List.mem_zipIdx_iff_getElem?.2 (by simpa using hx),List.mem_replicate.2 ⟨Nat.ne_of_gt hh,I⟩⟩
theorem getL_mem:∀ {ml:List (Int×List Int)},(ml.map Prod.fst).Nodup→∀ p∈ml,getL ml p.1=p.2
 | [],_,p,hp=>by simp at hp
 | (a,z)::r,h,p,hp=>by
  simp only[List.map_cons,List.nodup_cons] at h
  rcases List.mem_cons.1 hp with rfl | hp
  ·simp[getL]
  ·simp only[getL];rw[if_neg fun e=>h.1 (List.mem_map.2 ⟨p,hp,e⟩)];exact getL_mem h.2 p hp
theorem getL_some:∀ {ml:List (Int×List Int)} {k:Int},getL ml k≠[]→∃ p∈ml,p.1=k∧p.2=getL ml k
 | [],_,h=>by simp[getL] at h
 | (a,z)::r,k,h=>by
  simp only[getL] at h ⊢;split
  ·rename_i e;exact⟨(a,z),by simp,e.symm,I⟩
  ·rename_i e;rw[if_neg e] at h;obtain ⟨p,hp,h1,h2⟩:=getL_some h;exact⟨p,by simp[hp],h1,h2⟩
theorem addL_ne:∀ {ml:List (Int×List Int)} {k x:Int},(∀ p∈ml,p.2≠[])→∀ p∈addL ml k x,p.2≠[]
 | [],_,_,_,p,hp=>by simp[addL] at hp; subst hp; simp
 | (a,l)::r,k,x,h,p,hp=>by
  unfold addL at hp;split at hp
  ·rcases List.mem_cons.1 hp with rfl | hp
   ·simp
   ·exact h p (by simp[hp])
  ·rcases List.mem_cons.1 hp with rfl | hp
   ·exact h _ (by simp)
   ·exact addL_ne (fun q hq=>h q (by simp[hq])) p hp
theorem met_ne (tl:List Cl)(l:List Side):∀ p∈metC tl l,p.2≠[]:=by
 have h1:∀ (i:Int) (q:List Side) (ml:List (Int×List Int)),(∀ p∈ml,p.2≠[])→∀ p∈q.foldl (stepL i) ml,p.2≠[]:=by
  intro i q;induction q with
  | nil=>intro ml h; exact h
  | cons r t ih=>intro ml h; exact ih _ (addL_ne h)
 have h2:∀ (q:List (Side×Nat)) (ml:List (Int×List Int)),(∀ p∈ml,p.2≠[])→∀ p∈q.foldl (fun ml p=>(sidesOf tl p.1).foldl (stepL p.2) ml) ml,p.2≠[]:=by
  intro q;induction q with
  | nil=>intro ml h; exact h
  | cons x t ih=>intro ml h; exact ih _ (h1 _ _ _ h)
 exact h2 _ _ (by simp)
theorem met_none (tl:List Cl)(l:List Side):(metC tl l).any (fun p=>decide ((p.2.length:Int)≠2))=false↔∀ r,cntR tl l r=0∨cntR tl l r=2:=by
 rw[List.any_eq_false];constructor
 ·intro h r;rw[← met_len];by_cases hne:getL (metC tl l) r=[]
  ·left; rw[hne]; rfl
  ·right;obtain ⟨p,hp,_,h2⟩:=getL_some hne;have:=h p hp;rw[h2] at this;simp at this;omega
 ·intro h p hp;have h1:=getL_mem (metC_nodup tl l) p hp;have h2:=h p.1;rw[← met_len,h1] at h2;have h3:=List.length_pos_iff.2 (met_ne tl l p hp);simp;omega
theorem met_in (tl:List Cl)(l:List Side):∀ p∈metC tl l,∀ x∈p.2,0≤x∧x<(l.length:Int):=fun p hp x hx=>by
 rw[← getL_mem (metC_nodup tl l) p hp] at hx;obtain ⟨k,rfl,y,hy,_⟩:=(met_mem tl l p.1 x).1 hx;have:=(List.getElem?_eq_some_iff.1 hy).1;omega
theorem seen_all {ml:List (Int×List Int)}{n:Nat}(h2:∀ p∈ml,p.2.length=2)(hb:∀ p∈ml,∀ x∈p.2,0≤x∧x<(n:Int))(h0:0<n):(seenC (joinC ml)).length=n↔∀ a:Nat,a<n→Cn (linked ml) 0 a:=by
 have hmem:∀ x:Int,x∈seenC (joinC ml)↔Rch (adjJ (joinC ml)) 0 x:=fun x=>mem_dfs (cnt:=cntK (joinC ml)) (fun v v' h=>cntK_mono h) (cntK_strict _) (Nat.lt_succ_of_le (List.length_filter_le _ _)) (by simp[adjJ]) x;have hnd:(seenC (joinC ml)).Nodup:=dfs_nodup _ _ _ _ (by simp);have hin:∀ x∈seenC (joinC ml),0≤x∧x<(n:Int):=fun x hx=>by
  have hr:=(rch_cn h2 0 x).1 ((hmem x).1 hx);have:∀ a b,Cn (linked ml) a b→(0≤a∧a<(n:Int))→(0≤b∧b<(n:Int)):=by
   intro a b h;induction h with
   | refl _=>exact fun h=>h
   | step e _ ih =>
    intro _
    rcases e with e | e
    ·exact ih (linked_in hb e).2
    ·exact ih (linked_in hb e).1
  exact this 0 x hr oM
 generalize seenC (joinC ml)=seen at *;constructor
 ·intro hl a ha;refine Classical.byContradiction fun hne=>?_;have hna:(a:Int) ∉ seen:=fun h=>hne ((rch_cn h2 0 a).1 ((hmem a).1 h));have:=nodup_leI (l:=(a:Int)::seen) (n:=n) (List.nodup_cons.2 ⟨hna,hnd⟩) fun x hx=>by
   rcases List.mem_cons.1 hx with rfl | hx
   ·omega
   ·exact hin x hx
  simp at this;omega
 ·intro hall;refine Nat.le_antisymm (nodup_leI hnd hin) ?_;have h3:=length_le_of_nodup (m:=List.range n) (l:=seen.map Int.toNat) List.nodup_range (nodup_nat hnd fun x hx=>(hin x hx).1) fun i hi=>by
   have hi:=List.mem_range.1 hi;exact List.mem_map.2 ⟨(i:Int),(hmem i).2 ((rch_cn h2 0 i).2 (hall i hi)),by simp⟩
  simpa using h3
theorem Cn.map {E E':Int→Int→Prop}{f:Int→Int}(h:∀ a b,E a b→Cn E' (f a) (f b)){a b:Int}(hc:Cn E a b):Cn E' (f a) (f b):=by
 induction hc with
 | refl _=>exact .refl _
 | step e _ ih =>
  rcases e with e | e
  ·exact (h _ _ e).trans ih
  ·exact (h _ _ e).symm.trans ih
theorem around_iff {tl:List Cl}{c:Cl}(h0:0<c.sides.length)(hnd:(c.sides.map Side.cell).Nodup) :
  aroundC tl c=0↔(∀ r,sumR tl c.sides r=0)∧(∀ r,cntR tl c.sides r=0∨cntR tl c.sides r=2)∧∀ x∈c.sides,∀ y∈c.sides,Cn (share tl c.sides) x.cell y.cell:=by
 unfold aroundC;generalize c.sides=l at *;by_cases hs:(sumsC tl l).any (fun p=>decide (p.2≠0))=false
 ·rw[if_neg (by rw[hs]; simp)];by_cases hm:(metC tl l).any (fun p=>decide ((p.2.length:Int)≠2))=false
  ·rw[if_neg (by rw[hm]; simp)];have h2:∀ p∈metC tl l,p.2.length=2:=fun p hp=>by
    have:=List.any_eq_false.1 hm p hp;simp at this;omega
   have hsa:=seen_all h2 (met_in tl l) h0;have hinj:∀ {i j:Nat} {x y:Side},l[i]?=some x→l[j]?=some y→x.cell=y.cell→i=j:=fun {i j x y} hi hj e=>by
    obtain ⟨i1,e1⟩:=List.getElem?_eq_some_iff.1 hi;obtain ⟨i2,e2⟩:=List.getElem?_eq_some_iff.1 hj;have key:∀ {a b:Nat} (ha:a<l.length) (hb:b<l.length),a<b→l[a].cell≠l[b].cell:=fun {a b} ha hb h=>by
     have:=List.pairwise_iff_getElem.1 hnd a b (by simpa using ha) (by simpa using hb) h;simpa using this
    rcases Nat.lt_trichotomy i j with h | h | h
    ·exact absurd (by rw[e1,e2]; exact e) (key i1 i2 h)
    ·exact h
    ·exact absurd (by rw[e1,e2]; exact e.symm) (key i2 i1 h)
   have hconn:(∀ a:Nat,a<l.length→Cn (linked (metC tl l)) 0 a)↔∀ x∈l,∀ y∈l,Cn (share tl l) x.cell y.cell:=by
    constructor
    ·intro hall x hx y hy;obtain ⟨i,hi,rfl⟩:=List.getElem_of_mem hx;obtain ⟨j,hj,rfl⟩:=List.getElem_of_mem hy;have hc:=(hall i hi).symm.trans (hall j hj);have:=hc.map (f:=fun a=>(l.getD a.toNat ⟨0,0⟩).cell) (E':=share tl l) fun a b hl=>by
      obtain ⟨p,hp,h3,h4⟩:=hl;rw[← getL_mem (metC_nodup tl l) p hp] at h3 h4;obtain ⟨k,rfl,x,hx,hh⟩:=(met_mem tl l p.1 a).1 (List.mem_of_head? h3);obtain ⟨m,rfl,y,hy,hh2⟩:=(met_mem tl l p.1 b).1 h4;refine .one ⟨x,List.mem_of_getElem? hx,y,List.mem_of_getElem? hy,?_,?_,p.1,hh,hh2⟩
      ·simp[List.getD_eq_getElem?_getD,hx]
      ·simp[List.getD_eq_getElem?_getD,hy]
     simpa [List.getD_eq_getElem?_getD,hi,hj] using this
    ·intro hall;have key:∀ a b,Cn (share tl l) a b→∀ (i:Nat) (x:Side),l[i]?=some x→x.cell=a→∀ (j:Nat) (y:Side),l[j]?=some y→y.cell=b→Cn (linked (metC tl l)) (i:Int) (j:Int):=by
      have one:∀ {a b:Int},share tl l a b→∀ (i:Nat) (x:Side),l[i]?=some x→x.cell=a→∃ (j:Nat) (y:Side),l[j]?=some y∧y.cell=b∧Cn (linked (metC tl l)) (i:Int) (j:Int):=by
       rintro a b ⟨x',hx',y,hy,rfl,rfl,r,h3,h4⟩ i x hi he;obtain ⟨i',hi',rfl⟩:=List.getElem_of_mem hx';obtain ⟨j,hj,rfl⟩:=List.getElem_of_mem hy;have hii:=hinj hi (gE hi') he;subst hii;refine⟨j,l[j],gE hj,I,?_⟩;have m1:=(met_mem tl l r i).2 ⟨i,rfl,l[i],gE hi',h3⟩;have m2:=(met_mem tl l r j).2 ⟨j,rfl,l[j],gE hj,h4⟩;obtain ⟨p,hp,_,hp2⟩:=getL_some (ml:=metC tl l) (k:=r) fun e=>by rw[e] at m1; simp at m1
       rw[← hp2] at m1 m2;cases hh:p.2 with
       | nil=>rw[hh] at m1; simp at m1
       | cons u q =>
        have hu:∀ v∈p.2,linked (metC tl l) u v:=fun v hv=>⟨p,hp,by rw[hh]; rfl,hv⟩;exact (Cn.one (hu _ m1)).symm.trans (Cn.one (hu _ m2))
      intro a b hc;induction hc with
      | refl a =>
       intro i x hi he j y hj he2;have:=hinj hi hj (he.trans he2.symm);subst this;exact .refl _
      | step e _ ih =>
       intro i x hi he j y hj he2;have e':share tl l _ _:=e.elim (fun e=>e) fun ⟨x,hx,y,hy,h1,h2,r,h3,h4⟩=>⟨y,hy,x,hx,h2,h1,r,h4,h3⟩;obtain ⟨k,z,hk,hz,hc⟩:=one e' i x hi he;exact hc.trans (ih k z hk hz j y hj he2)
     intro a ha;exact key _ _ (hall _ (gM h0) _ (gM ha)) 0 _ (gE h0) I a _ (gE ha) I
   rw[← hconn,← hsa];constructor
   ·intro h;refine⟨(sums_none tl l).1 hs,(met_none tl l).1 hm,?_⟩;refine Decidable.of_not_not fun hne=>?_;rw[if_pos oM] at h;exact absurd h dC
   ·rintro ⟨_,_,h⟩;rw[if_neg oM]
  ·have hm':(metC tl l).any (fun p=>decide ((p.2.length:Int)≠2))=true:=by simpa using hm
   rw[if_pos hm'];exact⟨fun h=>absurd h dC,fun h=>absurd ((met_none tl l).2 h.2.1) hm⟩
 ·have hs':(sumsC tl l).any (fun p=>decide (p.2≠0))=true:=by simpa using hs
  rw[if_pos hs'];exact⟨fun h=>absurd h dC,fun h=>absurd ((sums_none tl l).2 h.1) hs⟩
structure Fm (tl:List Cl)(c:Cl):Prop where
 dim:0≤c.dim∧c.dim≤8
 cnt:cntBad c=false
 found:∀ x∈c.sides,∃ d,findT tl x.cell=some d∧d.dim=c.dim - 1
 asc:c.sides.Pairwise fun a b=>a.cell<b.cell
 sg:∀ x∈c.sides,x.sign=1∨x.sign = -1
 one:c.dim=1→sumS c.sides=0
theorem Fm.ok {tl:List Cl}{c:Cl}(h:Fm tl c):formC tl c=0:=form_of h.dim h.cnt h.found h.asc h.sg h.one
theorem asc_of {l:List Side}(hs:l.Pairwise fun a b=>a.cell≤b.cell)(hd:∀ i x y,l[i]?=some x→l[i+1]?=some y→x.cell≠y.cell):l.Pairwise fun a b=>a.cell<b.cell:=by
 induction l with
 | nil=>exact List.Pairwise.nil
 | cons a r ih =>
  obtain ⟨h1,h2⟩:=List.pairwise_cons.1 hs;have hr:=ih h2 fun i x y hx hy=>hd (i+1) x y (by simpa using hx) (by simpa using hy);refine List.pairwise_cons.2 ⟨fun b hb=>?_,hr⟩;cases r with
  | nil=>simp at hb
  | cons z q =>
   have hz:a.cell<z.cell:=by
    have:=h1 z (by simp);have:=hd 0 a z rfl rfl;omega
   rcases List.mem_cons.1 hb with rfl | hb
   ·exact hz
   ·have:=(List.pairwise_cons.1 hr).1 b hb;omega
theorem fm_of {tl:List Cl}{c:Cl}(h:formC tl c=0)(hs:c.sides.Pairwise fun a b=>a.cell≤b.cell):Fm tl c:=by
 unfold formC at h;split at h
 ·cases h
 ·rename_i h1;split at h
  ·cases h
  ·rename_i h2;split at h
   ·cases h
   ·rename_i h3;split at h
    ·cases h
    ·rename_i h4;split at h
     ·cases h
     ·rename_i h5;have hbad:∀ i x,c.sides[i]?=some x→badSide tl c i x=false:=fun i x hx=>by
       have hi:=(List.getElem?_eq_some_iff.1 hx).1;have:=List.any_eq_false.1 ((Bool.not_eq_true _).mp h3) i (List.mem_range.2 hi);unfold badAt at this;rw[hx] at this;simpa using this
      refine⟨?_,by simpa using h2,fun x hx=>?_,asc_of hs fun i x y hx hy e=>?_,fun x hx=>?_,fun hd=>?_⟩
      ·simp[dimBad] at h1; omega
      ·obtain ⟨i,hi,rfl⟩:=List.getElem_of_mem hx;have:=hbad i _ (gE hi);unfold badSide at this;simp only[Bool.or_eq_false_iff,Bool.not_eq_false',decide_eq_false_iff_not,ne_eq,Decidable.not_not] at this;obtain ⟨⟨g1,g2⟩,_⟩:=this;obtain ⟨d,hd⟩:=Option.isSome_iff_exists.1 g1;rw[hd] at g2;exact⟨d,hd,g2⟩
      ·have:=hbad (i+1) y hy;unfold badSide at this;rw[show i+1 - 1=i by omega,hx] at this;simp[e] at this
      ·have:=List.any_eq_false.1 ((Bool.not_eq_true _).mp h4) x hx;simp[signBad] at this;by_cases h6:x.sign=1
       ·exact .inl h6
       ·exact .inr (this h6)
      ·simpa [hd] using h5
structure Rt (l:List Cl):Prop where
 few:l.length≤4000
 asc:l.Pairwise fun a b=>a.id<b.id
 pos:∀ x∈l,0<x.id
 form:∀ x∈l,Fm l x
 around:∀ x∈l,x.dim>1→aroundC l x=0
theorem Rt.canon {l:List Cl}(h:Rt l):canonC l=l:=by
 unfold canonC;rw[(eq_sortBy (key:=Cl.id) (h.asc.imp fun h=>by omega) (Stab.refl l)).symm];have:∀ c∈l,normC c=c:=fun c hc=>by
  unfold normC;rw[(eq_sortBy (key:=Side.cell) ((h.form c hc).asc.imp fun h=>by omega) (Stab.refl c.sides)).symm]
 rw[List.map_congr_left this];simp
theorem Rt.tab {l:List Cl}(h:Rt l):tabC l=l:=by rw[tabC_strict (by rw[h.canon]; exact h.asc),h.canon]
theorem Rt.check {l:List Cl}(h:Rt l):checkC l=(0,0):=by
 refine check_ok h.few ?_ ?_ ?_ ?_ <;> rw[h.canon]
 ·exact h.pos
 ·exact h.asc
 ·exact fun x hx=>(h.form x hx).ok
 ·exact h.around
theorem Rt.find {l:List Cl}(h:Rt l){c:Cl}(hc:c∈l):findT l c.id=some c:=by
 refine find_mem ?_ hc;rw[List.Nodup,List.pairwise_map];exact h.asc.imp fun h=>by omega
theorem chk2_none_form {tl:List Cl}:∀ {l:List Cl},chk2 tl l=none→∀ x∈l,x.dim>1→aroundC tl x=0
 | [],_,x,hx,_=>by simp at hx
 | y::r,h,x,hx,hd=>by
  unfold chk2 at h;split at h
  ·cases h
  ·rename_i hn
   rcases List.mem_cons.1 hx with rfl | hx
   ·exact Decidable.of_not_not fun h=>hn ⟨hd,h⟩
   ·exact chk2_none_form h x hx hd
theorem chk2_some {tl:List Cl}:∀ {l:List Cl} {p:Int×Int},chk2 tl l=some p→p.2≠0
 | [],_,h=>by cases h
 | y::r,p,h=>by
  unfold chk2 at h;split at h
  ·rename_i hn; cases h; exact hn.2
  ·exact chk2_some h
theorem canon_sides (l:List Cl):∀ c∈canonC l,c.sides.Pairwise fun a b=>a.cell≤b.cell:=fun c hc=>by
 obtain ⟨d,_,rfl⟩:=List.mem_map.1 hc;exact sortBy_srt d.sides
theorem rt_of {l:List Cl}(h:(checkC l).2=0):Rt (canonC l):=by
 have h1:=check_ne h;obtain ⟨h2,h3,h4⟩:=chk1_none_form h1;have ht:=tabC_strict h2;have h5:l.length≤4000:=check_len h;refine⟨by rw[canonC_length]; exact h5,h2,h3,fun x hx=>fm_of (by rw[← ht]; exact h4 x hx) (canon_sides l x hx),?_⟩;have h6:chk2 (tabC l) (canonC l)=none:=by
  unfold checkC at h;rw[if_neg oM,h1] at h;cases hc:chk2 (tabC l) (canonC l) with
  | none=>rfl
  | some p =>
   rw[hc] at h;exact absurd h (chk2_some hc)
 rw[ht] at h6;exact chk2_none_form h6
theorem perm_sumI {l m:List Int}(h:l.Perm m):l.sum=m.sum:=by
 induction h with
 | nil=>rfl
 | cons x _ ih=>simp[ih]
 | swap x y l=>simp; omega
 | trans _ _ ih1 ih2=>exact ih1.trans ih2
theorem perm_sumN {l m:List Nat}(h:l.Perm m):l.sum=m.sum:=by
 induction h with
 | nil=>rfl
 | cons x _ ih=>simp[ih]
 | swap x y l=>simp; omega
 | trans _ _ ih1 ih2=>exact ih1.trans ih2
theorem sortBy_perm {α:Type}{key:α→Int}(l:List α):(sortBy key l).Perm l:=by
 have hi:∀ (x:α) (l:List α),(ins key x l).Perm (x::l):=by
  intro x l;induction l with
  | nil=>exact .refl _
  | cons y r ih =>
   unfold ins;split
   ·exact .refl _
   ·exact (ih.cons y).trans (.swap x y r)
 induction l with
 | nil=>exact .refl _
 | cons x r ih=>exact (hi x _).trans (ih.cons x)
def inner (tl:List Cl)(x:Side)(r:Int):Int:=((sidesOf tl x).map fun q=>if q.cell=r then x.sign * q.sign else 0).sum
theorem sumR_inner (tl:List Cl)(l:List Side)(r:Int):sumR tl l r=(l.map fun x=>inner tl x r).sum:=by
 unfold sumR;induction l with
 | nil=>rfl
 | cons x q ih=>simp only[List.flatMap_cons,List.sum_append,List.map_cons,List.sum_cons,ih]; rfl
theorem sumR_perm {tl:List Cl}{l m:List Side}(h:l.Perm m)(r:Int):sumR tl l r=sumR tl m r:=by
 rw[sumR_inner,sumR_inner];exact perm_sumI (h.map _)
theorem cntR_perm {tl:List Cl}{l m:List Side}(h:l.Perm m)(r:Int):cntR tl l r=cntR tl m r:=perm_sumN (h.map _)
theorem share_perm {tl:List Cl}{l m:List Side}(h:∀ x,x∈l↔x∈m)(a b:Int):share tl l a b→share tl m a b:=fun ⟨x,hx,y,hy,r⟩=>⟨x,(h x).1 hx,y,(h y).1 hy,r⟩
def sgn (b:Bool):Int:=if b then -1 else 1
theorem sgn_sq (b:Bool):sgn b * sgn b=1:=by cases b <;> rfl
theorem negIf_sgn (b:Bool){a:Int}(h:a=1∨a = -1):negIf b a=sgn b * a∧(negIf b a=1∨negIf b a = -1):=by
 rcases h with rfl | rfl <;> cases b <;> exact⟨by decide,by decide⟩
theorem sum_const {α:Type}{l:List α}{f g:α→Int}{K:Int}(h:∀ x∈l,f x=K * g x):(l.map f).sum=K * (l.map g).sum:=by
 induction l with
 | nil=>simp
 | cons x r ih =>
  simp only[List.map_cons,List.sum_cons];rw[h x (by simp),ih fun y hy=>h y (by simp[hy]),Int.mul_add]
structure Nm (l:List Cl)(k:Int):Prop where
 inj:∀ a∈l,∀ b∈l,mixC a.id k=mixC b.id k→a=b
 pos:∀ a∈l,0<mixC a.id k
section
variable {l:List Cl}(h:Rt l){k:Int}(hn:Nm l k)(t:Int)
include h hn
omit hn in
theorem ren_sub (c:Cl)(hc:c∈l){x:Side}(hx:x∈c.sides):∃ d∈l,d.id=x.cell∧findT l x.cell=some d∧d.dim=c.dim - 1:=by
 obtain ⟨d,hd,hdd⟩:=(h.form c hc).found x hx;obtain ⟨h1,h2⟩:=findT_mem hd;exact⟨d,h1,h2,hd,hdd⟩
theorem ren_ids:((l.map (renCell k t)).map Cl.id).Nodup:=by
 rw[List.map_map,List.Nodup,List.pairwise_map];refine List.Pairwise.imp_of_mem ?_ h.asc;intro a b ha hb hlt e;have:=hn.inj a ha b hb e;subst this;omega
theorem ren_nodup:((canonC (l.map (renCell k t))).map Cl.id).Nodup:=by
 have h1:=ren_ids h hn t;have h2:((canonC (l.map (renCell k t))).map Cl.id).Perm ((l.map (renCell k t)).map Cl.id):=by
  rw[canonC_ids];exact (sortBy_perm _).map _
 exact h2.symm.nodup h1
omit h hn in
theorem ren_mem {c:Cl}(hc:c∈l):normC (renCell k t c)∈canonC (l.map (renCell k t)) :=
 List.mem_map.2 ⟨_,(sortBy_mem _ _).2 (List.mem_map.2 ⟨c,hc,rfl⟩),rfl⟩
omit h hn in
theorem mem_ren {c':Cl}(hc:c'∈canonC (l.map (renCell k t))):∃ c∈l,c'=normC (renCell k t c):=by
 obtain ⟨d,hd,rfl⟩:=List.mem_map.1 hc;obtain ⟨c,hc',rfl⟩:=List.mem_map.1 ((sortBy_mem _ _).1 hd);exact⟨c,hc',I⟩
theorem ren_find {c:Cl}(hc:c∈l):findT (canonC (l.map (renCell k t))) (mixC c.id k)=some (normC (renCell k t c)) :=
 find_mem (x:=normC (renCell k t c)) (ren_nodup h hn t) (ren_mem t hc)
omit h hn in
theorem ren_perm (c:Cl):(normC (renCell k t c)).sides.Perm (c.sides.map (renSide k t c)):=sortBy_perm _
omit hn in
theorem ren_sign {c:Cl}(hc:c∈l){x:Side}(hx:x∈c.sides):(renSide k t c x).sign=sgn (turn2 t c x.cell) * (sgn (turn1 t c) * x.sign)∧((renSide k t c x).sign=1∨(renSide k t c x).sign = -1):=by
 have h1:=negIf_sgn (turn1 t c) ((h.form c hc).sg x hx);have h2:=negIf_sgn (turn2 t c x.cell) h1.2;exact⟨by rw[← h1.1]; exact h2.1,h2.2⟩
theorem ren_form {c:Cl}(hc:c∈l):Fm (canonC (l.map (renCell k t))) (normC (renCell k t c)):=by
 have hf:=h.form c hc;have hlen:(normC (renCell k t c)).sides.length=c.sides.length:=by rw[(ren_perm t c).length_eq,List.length_map]
 have hmem:∀ x',x'∈(normC (renCell k t c)).sides↔∃ x∈c.sides,renSide k t c x=x':=fun x'=>by rw[(ren_perm t c).mem_iff,List.mem_map]
 refine⟨hf.dim,?_,fun x' hx'=>?_,?_,fun x' hx'=>?_,fun hd=>?_⟩
 ·have:=hf.cnt;unfold cntBad at this ⊢;rw[hlen];exact this
 ·obtain ⟨x,hx,rfl⟩:=(hmem x').1 hx';obtain ⟨d,hd,hid,_,hdd⟩:=ren_sub h c hc hx;have:=ren_find h hn t hd;rw[hid] at this;exact⟨_,this,hdd⟩
 ·have h1:(normC (renCell k t c)).sides.Pairwise fun a b=>a.cell≤b.cell:=sortBy_srt _;have h2:((normC (renCell k t c)).sides.map Side.cell).Nodup:=by
   refine ((ren_perm t c).map Side.cell).symm.nodup ?_;rw[List.map_map,List.Nodup,List.pairwise_map];refine List.Pairwise.imp_of_mem ?_ hf.asc;intro a b ha hb hlt e;obtain ⟨d,hd,hid,_⟩:=ren_sub h c hc ha;obtain ⟨d',hd',hid',_⟩:=ren_sub h c hc hb;have e:mixC a.cell k=mixC b.cell k:=e;rw[← hid,← hid'] at e;have:=hn.inj d hd d' hd' e;subst this;omega
  rw[List.Nodup,List.pairwise_map] at h2;exact (h1.and h2).imp fun ⟨h3,h4⟩=>by omega
 ·obtain ⟨x,hx,rfl⟩:=(hmem x').1 hx';exact (ren_sign h t hc hx).2
 ·have hd:c.dim=1:=hd;have h1:=hf.one hd;unfold sumS at h1 ⊢;rw[perm_sumI ((ren_perm t c).map Side.sign),List.map_map];rw[sum_const (g:=Side.sign) (K:=sgn (turn1 t c)) fun x hx=>?_,h1,Int.mul_zero];have h2:=(ren_sign (k:=k) h t hc hx).1;have h3:turn2 t c x.cell=false:=by unfold turn2; simp[hd]
  rw[h3] at h2;show (renSide k t c x).sign=_;rw[h2];unfold sgn;simp
theorem ren_hits {c:Cl}(hc:c∈l){x:Side}(hx:x∈c.sides){e:Cl}(he:e∈l):hits (canonC (l.map (renCell k t))) (renSide k t c x) (mixC e.id k)=hits l x e.id:=by
 obtain ⟨d,hd,hid,hfd,_⟩:=ren_sub h c hc hx;unfold hits sidesOf;rw[hfd,show (renSide k t c x).cell=mixC d.id k by rw[hid]; rfl,ren_find h hn t hd];show ((normC (renCell k t d)).sides.filter _).length=_;rw[((ren_perm t d).filter _).length_eq,List.filter_map,List.length_map];congr 1;refine List.filter_congr fun q hq=>?_;obtain ⟨u,hu,hui,_⟩:=ren_sub h d hd hq;show decide (mixC q.cell k=mixC e.id k)=decide (q.cell=e.id);rw[decide_eq_decide,← hui];by_cases hue:u=e
 ·subst hue; simp
 ·have h1:¬ mixC u.id k=mixC e.id k:=fun e'=>hue (hn.inj u hu e he e');have h2:¬ u.id=e.id:=fun e'=>hue (by have a1:=h.find hu; have a2:=h.find he; rw[e',a2] at a1; injection a1 with a1; exact a1.symm);simp[h1,h2]
theorem ren_hits_no {c:Cl}(hc:c∈l){x:Side}(hx:x∈c.sides){r:Int}(hr:∀ e∈l,mixC e.id k≠r):hits (canonC (l.map (renCell k t))) (renSide k t c x) r=0:=by
 obtain ⟨d,hd,hid,hfd,_⟩:=ren_sub h c hc hx;unfold hits sidesOf;rw[show (renSide k t c x).cell=mixC d.id k by rw[hid]; rfl,ren_find h hn t hd];show ((normC (renCell k t d)).sides.filter _).length=_;rw[((ren_perm t d).filter _).length_eq,List.length_eq_zero_iff,List.filter_eq_nil_iff];intro q' hq';obtain ⟨q,hq,rfl⟩:=List.mem_map.1 hq';obtain ⟨u,hu,hui,_⟩:=ren_sub h d hd hq;have:=hr u hu;rw[hui] at this;show ¬ decide (mixC q.cell k=r)=true;simpa using this
theorem ren_inner {c:Cl}(hc:c∈l)(hd1:c.dim>1){x:Side}(hx:x∈c.sides){e:Cl}(he:e∈l) :
  inner (canonC (l.map (renCell k t))) (renSide k t c x) (mixC e.id k)=sgn (turn1 t c) * sgn ((decide (t>1)&&decide (c.dim - 1>1))&&decide (e.id.tmod t=1)) * inner l x e.id:=by
 obtain ⟨d,hd,hid,hfd,hdd⟩:=ren_sub h c hc hx;have hsx:=(ren_sign (k:=k) h t hc hx).1;unfold inner sidesOf;rw[hfd,show (renSide k t c x).cell=mixC d.id k by rw[hid]; rfl,ren_find h hn t hd];show ((normC (renCell k t d)).sides.map _).sum=_;rw[perm_sumI ((ren_perm t d).map _),List.map_map];show _=_ * (d.sides.map _).sum;refine sum_const fun q hq=>?_;obtain ⟨u,hu,hui,_⟩:=ren_sub h d hd hq;have hsq:=(ren_sign (k:=k) h t hd hq).1;simp only[Function.comp_def];show (if mixC q.cell k=mixC e.id k then (renSide k t c x).sign * (renSide k t d q).sign else 0)=_;by_cases hue:u=e
 ·subst hue;rw[hui,if_pos rfl,if_pos rfl,hsx,hsq];have h1:turn2 t c x.cell=turn1 t d:=by
   unfold turn2 turn1;rw[hid];simp[hd1]
  have h2:turn2 t d q.cell=((decide (t>1)&&decide (c.dim - 1>1))&&decide (q.cell.tmod t=1)):=by
   unfold turn2;rw[hdd]
  rw[h1,h2];generalize turn1 t d=b1;generalize turn1 t c=b2;generalize ((decide (t>1)&&decide (c.dim - 1>1))&&decide (q.cell.tmod t=1))=b3;cases b1 <;> cases b2 <;> cases b3 <;> simp[sgn,Int.neg_mul,Int.mul_neg]
 ·have h1:¬ mixC q.cell k=mixC e.id k:=fun e'=>hue (hn.inj u hu e he (by rw[hui]; exact e'));have h2:¬ q.cell=e.id:=fun e'=>hue (by have a1:=h.find hu; have a2:=h.find he; rw[hui,e',a2] at a1; injection a1 with a1; exact a1.symm);rw[if_neg h1,if_neg h2,Int.mul_zero]
omit h hn in
theorem inner_no {tl:List Cl}{x:Side}{r:Int}(h0:hits tl x r=0):inner tl x r=0:=by
 unfold hits at h0;rw[List.length_eq_zero_iff,List.filter_eq_nil_iff] at h0;unfold inner;have:((sidesOf tl x).map fun q=>if q.cell=r then x.sign * q.sign else 0)=(sidesOf tl x).map fun _=>(0:Int):=List.map_congr_left fun q hq=>if_neg (by simpa using h0 q hq);rw[this];generalize sidesOf tl x=m;induction m with
 | nil=>rfl
 | cons a b ih=>simpa using ih
theorem ren_around {c:Cl}(hc:c∈l)(hd1:c.dim>1):aroundC (canonC (l.map (renCell k t))) (normC (renCell k t c))=0:=by
 have hf:=h.form c hc;have hf':=ren_form h hn t hc;have hn0:0<c.sides.length:=by
  have:=hf.cnt;simp[cntBad] at this;have:=this.2 hd1;omega
 have hlen:(normC (renCell k t c)).sides.length=c.sides.length:=by rw[(ren_perm t c).length_eq,List.length_map]
 have nd:∀ {c:Cl},(c.sides.Pairwise fun a b=>a.cell<b.cell)→(c.sides.map Side.cell).Nodup:=fun h=>by
  rw[List.Nodup,List.pairwise_map];exact h.imp fun h=>by omega
 obtain ⟨a1,a2,a3⟩:=(around_iff hn0 (nd hf.asc)).1 (h.around c hc hd1);refine (around_iff (by rw[hlen]; exact hn0) (nd hf'.asc)).2 ⟨fun r=>?_,fun r=>?_,fun x' hx' y' hy'=>?_⟩
 ·rw[sumR_perm (ren_perm t c),sumR_inner,List.map_map];simp only[Function.comp_def];by_cases hr:∃ e∈l,mixC e.id k=r
  ·obtain ⟨e,he,rfl⟩:=hr;have h1:=a1 e.id;rw[sumR_inner] at h1;rw[sum_const (g:=fun x=>inner l x e.id) (K:=sgn (turn1 t c) * sgn ((decide (t>1)&&decide (c.dim - 1>1))&&decide (e.id.tmod t=1))) fun x hx=>ren_inner h hn t hc hd1 hx he,h1,Int.mul_zero]
  ·have hr:∀ e∈l,mixC e.id k≠r:=fun e he e'=>hr ⟨e,he,e'⟩;rw[sum_const (g:=fun _=>(0:Int)) (K:=0) fun x hx=>by
    rw[inner_no (ren_hits_no h hn t hc hx hr)];rfl,Int.zero_mul]
 ·rw[cntR_perm (ren_perm t c)];unfold cntR;rw[List.map_map];simp only[Function.comp_def];by_cases hr:∃ e∈l,mixC e.id k=r
  ·obtain ⟨e,he,rfl⟩:=hr;have h1:=a2 e.id;unfold cntR at h1;rw[List.map_congr_left (g:=fun x=>hits l x e.id) fun x hx=>ren_hits h hn t hc hx he];exact h1
  ·have hr:∀ e∈l,mixC e.id k≠r:=fun e he e'=>hr ⟨e,he,e'⟩;left;rw[List.map_congr_left (g:=fun _=>0) fun x hx=>ren_hits_no h hn t hc hx hr];generalize c.sides=m;induction m with
   | nil=>rfl
   | cons a b ih=>simpa using ih
 ·have hmem:∀ x',x'∈(normC (renCell k t c)).sides↔x'∈c.sides.map (renSide k t c):=fun x'=>(ren_perm t c).mem_iff;obtain ⟨x,hx,rfl⟩:=List.mem_map.1 ((hmem x').1 hx');obtain ⟨y,hy,rfl⟩:=List.mem_map.1 ((hmem y').1 hy');have hm:∀ x∈c.sides,renSide k t c x∈(normC (renCell k t c)).sides:=fun x hx=>(hmem _).2 (List.mem_map.2 ⟨x,hx,rfl⟩);refine (a3 x hx y hy).map (f:=fun a=>mixC a k) fun a b=>?_;rintro ⟨u,hu,v,hv,rfl,rfl,r,h1,h2⟩;obtain ⟨du,hdu,hidu,hfu,_⟩:=ren_sub h c hc hu;have hr:∃ e∈l,e.id=r:=by
   unfold hits sidesOf at h1;rw[hfu] at h1;obtain ⟨q,hq⟩:=List.exists_mem_of_length_pos h1;obtain ⟨hq1,hq2⟩:=List.mem_filter.1 hq;obtain ⟨e,he,hei,_⟩:=ren_sub h du hdu (x:=q) hq1;exact⟨e,he,by rw[hei]; simpa using hq2⟩
  obtain ⟨e,he,rfl⟩:=hr;exact .one ⟨_,hm u hu,_,hm v hv,I,I,mixC e.id k,by rw[ren_hits h hn t hc hu he]; exact h1,by rw[ren_hits h hn t hc hv he]; exact h2⟩
theorem ren_right:Rt (canonC (l.map (renCell k t))):=by
 refine⟨by rw[canonC_length,List.length_map]; exact h.few,?_,fun x' hx'=>?_,fun x' hx'=>?_,fun x' hx' hd=>?_⟩
 ·have h1:=canonC_sorted (l.map (renCell k t));have h2:=ren_nodup h hn t;rw[List.pairwise_map] at h1;rw[List.Nodup,List.pairwise_map] at h2;exact (h1.and h2).imp fun ⟨h3,h4⟩=>by omega
 ·obtain ⟨c,hc,rfl⟩:=mem_ren t hx';exact hn.pos c hc
 ·obtain ⟨c,hc,rfl⟩:=mem_ren t hx';exact ren_form h hn t hc
 ·obtain ⟨c,hc,rfl⟩:=mem_ren t hx';exact ren_around h hn t hc hd
end
set_option maxRecDepth 100000
def Bd (l:List Cl):Prop:=∀ c∈l,c.id≤l.length
theorem rt_simp (ls:List (List Int)):Rt (simpC ls)∧Bd (simpC ls):=by
 have h1:=rt_of (l:=simpC ls) (by rw[simpC_right]);have h2:canonC (simpC ls)=simpC ls:=by
  unfold simpC;cases simpAll [] ls with
  | none=>rfl
  | some all=>exact canonC_idem _
 rw[h2] at h1;refine⟨h1,?_⟩;unfold simpC;cases h:simpAll [] ls with
 | none=>intro c hc; simp at hc
 | some all =>
  obtain ⟨hg,_⟩:=simpAll_good ls [] h Good.nil (by simp);dsimp only;rw[hg.cells];intro c hc;obtain ⟨s,hs,rfl⟩:=List.mem_map.1 hc;have:=(List.getElem?_eq_some_iff.1 (hg.get_lb hs)).1;show ixC all s≤_;unfold ixC;rw[List.length_map];omega
theorem lbI_lt {l:List Int}{x:Int}(h:x∈l):lbI l x<l.length:=by
 unfold lbI;induction l with
 | nil=>simp at h
 | cons a r ih =>
  rw[List.filter_cons]
  rcases List.mem_cons.1 h with rfl | h
  ·have:=List.length_filter_le (fun y=>decide (y<x)) r;simp;omega
  ·have:=ih h;split
   ·simp only[List.length_cons]; omega
   ·simp only[List.length_cons]; omega
theorem rt_prod (a b:List Cl):Rt (refProdC a b)∧Bd (refProdC a b)∧(refProdC a b).length≤a.length * b.length:=by
 rw[prod_ref];unfold prodC;split
 ·exact⟨⟨by simp,List.Pairwise.nil,by simp,by simp,by simp⟩,fun c hc=>by simp at hc,by simp⟩
 ·rename_i hbad;split
  ·rename_i hok;have hlen:(canonC (prodAll a b)).length=a.length * b.length:=by
    rw[canonC_length];unfold prodAll;rw[flatMap_len,canonC_length,canonC_length]
   refine⟨rt_of hok,fun c hc=>?_,by rw[hlen]; exact lR _⟩;rw[hlen];obtain ⟨h1,h2,_⟩:=prodBad_no (by simpa using hbad);have ta:=tabC_strict (chk1_none_form (check_ne h1)).1;have tb:=tabC_strict (chk1_none_form (check_ne h2)).1;obtain ⟨d,hd,rfl⟩:=List.mem_map.1 hc;have hd:=(sortBy_mem _ _).1 hd;unfold prodAll at hd;rw[ta,tb] at hd;obtain ⟨x,hx,hd⟩:=List.mem_flatMap.1 hd;obtain ⟨y,hy,rfl⟩:=List.mem_map.1 hd;have l1:=lbI_lt (List.mem_map.2 ⟨x,hx,rfl⟩:x.id∈(canonC a).map Cl.id);have l2:=lbI_lt (List.mem_map.2 ⟨y,hy,rfl⟩:y.id∈(canonC b).map Cl.id);rw[List.length_map,canonC_length] at l1 l2;show prodId (canonC a) (canonC b) x.id y.id≤_;unfold prodId;rw[canonC_length];have h3:(lbI ((canonC a).map Cl.id) x.id+1) * b.length≤a.length * b.length:=Nat.mul_le_mul_right _ l1;rw[Nat.succ_mul] at h3;have h4:((lbI ((canonC a).map Cl.id) x.id * b.length:Nat):Int)=(lbI ((canonC a).map Cl.id) x.id:Int) * (b.length:Int):=Int.natCast_mul _ _;rw[← h4];omega
  ·exact⟨⟨by simp,List.Pairwise.nil,by simp,by simp,by simp⟩,fun c hc=>by simp at hc,by simp⟩
theorem poly_check:∀ n,n<7→2≤n→(checkC (polyC n)).2=0∧∀ c∈polyC n,c.id≤90:=by decide +kernel
theorem poly_len:∀ n,n<7→(polyC n).length≤45:=by decide +kernel
theorem simpAll_two:∀ (ls acc:List (List Int)) {all:List (List Int)},simpAll acc ls=some all→(∀ x∈ls,x.length≤2)→all.length≤acc.length+3 * ls.length
 | [],acc,all,h,_=>by cases h; simp
 | s::r,acc,all,h,hl=>by
  have hs:=hl s (by simp);have h3:(setC s).length≤s.length:=by
   unfold setC;exact Nat.le_trans (uniq_length _ _) (by rw[sortI_length]; exact lR _)
  simp only[List.length_cons];unfold simpAll at h;split at h
  ·have:=simpAll_two r acc h fun x hx=>hl x (by simp[hx]);omega
  ·split at h
   ·cases h
   ·have h1:=simpAll_two r _ h fun x hx=>hl x (by simp[hx]);have h2:(addSets acc (setC s)).length≤acc.length+3:=by
     unfold addSets;refine Nat.le_trans (uniq_length _ _) ?_;rw[(sortL_perm _).length_eq,List.length_append];have:2 ^ (setC s).length≤2 ^ 2:=Nat.pow_le_pow_right dC oM;simp[subsetsC];omega
    omega
theorem circle_len:(simpC [[0,1],[1,2],[0,2]]).length≤9:=by
 unfold simpC;cases h:simpAll [] [[0,1],[1,2],[0,2]] with
 | none=>simp
 | some all =>
  have:=simpAll_two _ _ h dC;dsimp only;rw[canonC_length,simpCells_length];simpa using this
theorem rt_base (m:Int)(ls:List (List Int))(y:Int):Rt (bigC (baseM m ls y))∧∀ c∈bigC (baseM m ls y),c.id≤90:=by
 have key:∀ l:List Cl,Rt l→(l.length≤45→∀ c∈l,c.id≤90)→Rt (bigC l)∧∀ c∈bigC l,c.id≤90:=by
  intro l h1 h2;unfold bigC;split
  ·have h3:=rt_prod (simpC [[0,1],[1,2],[0,2]]) (simpC [[0,1],[1,2],[0,2]]);refine⟨h3.1,fun c hc=>?_⟩;have h4:=h3.2.1 c hc;have h5:=h3.2.2;have h6:torusC.length≤9 * 9:=Nat.le_trans h5 (Nat.mul_le_mul circle_len circle_len);have h7:c.id≤torusC.length:=h4;omega
  ·exact⟨h1,h2 oM⟩
 have hS:∀ ls,Rt (bigC (simpC ls))∧∀ c∈bigC (simpC ls),c.id≤90:=fun ls=>key _ (rt_simp ls).1 fun hl c hc=>by have:=(rt_simp ls).2 c hc; omega
 have hP:∀ a b,Rt (bigC (refProdC a b))∧∀ c∈bigC (refProdC a b),c.id≤90:=fun a b=>key _ (rt_prod a b).1 fun hl c hc=>by have:=(rt_prod a b).2.1 c hc; omega
 have h5:=modW_range y 5 dC dC;unfold baseM
 repeat' split
 ·exact hS _
 ·exact hP _ _
 ·have h6:=poly_check (2+modW y 5).toNat oM oM;have h7:=rt_of h6.1;rw[show canonC (polyC (2+modW y 5).toNat)=polyC (2+modW y 5).toNat from canonC_idem _] at h7;exact key _ h7 fun _=>h6.2
 ·exact hP _ _
 ·exact hS _
 ·exact hS _
theorem mix_inj:∀ k∈[1,3,5],∀ a,a<91→∀ b,b<91→mixC (a:Nat) k=mixC (b:Nat) k→a=b:=by decide +kernel
theorem mix_pos:∀ k∈[1,3,5],∀ a,a<91→0<a→0<mixC (a:Nat) k:=by decide +kernel
theorem made_right (kd:Int)(ls:List (List Int))(y:Int):Rt (madeC kd ls y):=by
 obtain ⟨h1,h2⟩:=rt_base (modW kd 8) ls y;have hk:renK y∈[(1:Int),3,5]:=by
  have:=modW_range (IntKind.i64.wrap (y.tdiv 7)) 3 dC dC;unfold renK;generalize modW (IntKind.i64.wrap (y.tdiv 7)) 3=q at *
  rcases (by omega:q=0∨q=1∨q=2) with rfl | rfl | rfl <;> decide
 refine ren_right h1 ⟨fun a ha b hb e=>?_,fun a ha=>?_⟩ _
 ·have p1:=h1.pos a ha;have p2:=h1.pos b hb;have q1:=h2 a ha;have q2:=h2 b hb;have e1:((a.id.toNat:Nat):Int)=a.id:=Int.toNat_of_nonneg oM;have e2:((b.id.toNat:Nat):Int)=b.id:=Int.toNat_of_nonneg oM;have:=mix_inj _ hk a.id.toNat oM b.id.toNat oM (by rw[e1,e2]; exact e);have hid:a.id=b.id:=oM;have f1:=h1.find ha;have f2:=h1.find hb;rw[hid,f2] at f1;injection f1 with f1
  exact f1.symm
 ·have p1:=h1.pos a ha;have q1:=h2 a ha;have e1:((a.id.toNat:Nat):Int)=a.id:=Int.toNat_of_nonneg oM;have:=mix_pos _ hk a.id.toNat oM oM;rw[e1] at this;exact this
def part (l:List Cl)(p:Int→Bool):List Cl:=l.filter fun c=>p c.id
def ClosedP (l:List Cl)(p:Int→Bool):Prop:=∀ c∈l,p c.id=true→∀ x∈c.sides,p x.cell=true
theorem part_find {l:List Cl}{p:Int→Bool}{id:Int}(hp:p id=true):findT (part l p) id=findT l id:=by
 unfold findT part;induction l with
 | nil=>rfl
 | cons c r ih =>
  rw[List.filter_cons];by_cases hc:c.id=id
  ·rw[if_pos (by rw[hc]; exact hp)];simp[hc]
  ·split
   ·simp only[List.find?_cons,hc,decide_false];exact ih
   ·simp only[List.find?_cons,hc,decide_false];exact ih
theorem part_none {l:List Cl}{p:Int→Bool}{id:Int}(hp:p id=false):findT (part l p) id=none:=by
 unfold findT part;rw[List.find?_eq_none];intro c hc;have:=(List.mem_filter.1 hc).2;simp;intro e;rw[e,hp] at this;cases this
theorem part_right {l:List Cl}(h:Rt l){p:Int→Bool}(hp:ClosedP l p):Rt (part l p):=by
 have hsub:(part l p).Sublist l:=List.filter_sublist;refine⟨Nat.le_trans hsub.length_le h.few,h.asc.sublist hsub,fun x hx=>h.pos x (hsub.subset hx),fun c hc=>?_,fun c hc hd=>?_⟩
 ·obtain ⟨hc1,hc2⟩:=List.mem_filter.1 hc;have hf:=h.form c hc1;exact⟨hf.dim,hf.cnt,fun x hx=>by rw[part_find (hp c hc1 hc2 x hx)]; exact hf.found x hx,hf.asc,hf.sg,hf.one⟩
 ·obtain ⟨hc1,hc2⟩:=List.mem_filter.1 hc;rw[← h.around c hc1 hd,aroundC_L,aroundC_L];congr 1;unfold lookL;refine List.map_congr_left fun x hx=>?_;unfold sidesOf;rw[part_find (hp c hc1 hc2 x hx)]
theorem perm_canon {l F:List Cl}(hF:Rt F)(hp:l.Perm F):canonC l=F:=by
 have hc:=hF.canon;have hs:sortBy Cl.id l=F:=by
  refine (eq_sortBy (hF.asc.imp fun h=>by omega) ⟨hp.length_eq.symm,fun k=>?_⟩).symm;have h1:(l.filter fun a=>a.id == k).Perm (F.filter fun a=>a.id == k):=hp.filter _;have h3:(F.filter fun a=>a.id == k).Pairwise fun a b=>a.id<b.id:=hF.asc.sublist List.filter_sublist;have h5:∀ a∈F.filter (fun a=>a.id == k),a.id=k:=fun a ha=>by simpa using (List.mem_filter.1 ha).2
  generalize F.filter (fun a=>a.id == k)=m at *
  match m,h1,h3,h5 with
  | [],h1,_,_=>exact (List.perm_nil.1 h1).symm
  | [a],h1,_,_=>exact (List.perm_singleton.1 h1).symm
  | a::b::r,_,h3,h5 =>
   have h4:=(List.pairwise_cons.1 h3).1 b (by simp);have h6:=h5 a (by simp);have h7:=h5 b (by simp);omega
 unfold canonC at hc ⊢;rw[hs];have hs2:sortBy Cl.id F=F:=(eq_sortBy (key:=Cl.id) (hF.asc.imp fun h=>by omega) (Stab.refl F)).symm;rw[hs2] at hc;exact hc
theorem Rt.nodup {l:List Cl}(h:Rt l):l.Nodup:=h.asc.imp fun h e=>by subst e; omega
theorem Rt.same {l:List Cl}(h:Rt l){a b:Cl}(ha:a∈l)(hb:b∈l)(e:a.id=b.id):a=b:=by
 have f1:=h.find ha;have f2:=h.find hb;rw[e,f2] at f1;injection f1 with f1
 exact f1.symm
set_option maxHeartbeats 1000000
def swp {α:Type}(l:List α)(i k:Nat)(hi:i<l.length)(hk:k<l.length):List α:=(l.set i l[k]).set k l[i]
theorem swp_perm {α:Type}(l:List α)(i k:Nat)(hi:i<l.length)(hk:k<l.length):(swp l i k hi hk).Perm l:=List.set_set_perm hi hk
theorem swp_length {α:Type}(l:List α)(i k:Nat)(hi:i<l.length)(hk:k<l.length):(swp l i k hi hk).length=l.length:=by simp[swp]
theorem All2.set {α β:Type}{R:α→β→Prop}{a:α}{b:β}(h:R a b):∀ {l:List α} {m:List β} (k:Nat),All2 R l m→All2 R (l.set k a) (m.set k b)
 | [],[],_,_=>trivial
 | _::_,_::_,0,h'=>⟨h,h'.2⟩
 | _::_,_::_,k+1,h'=>⟨h'.1,All2.set h k h'.2⟩
 | [],_::_,_,h'=>h'.elim
 | _::_,[],_,h'=>h'.elim
theorem all2_at {α β:Type}{R:α→β→Prop}{l:List α}{m:List β}(h:All2 R l m){i:Nat}(h1:i<l.length)(h2:i<m.length):R l[i] m[i] :=
 h.get (gE h1) (gE h2)
theorem ownS_swp {l:List Cl}{rs:List Rc}(h:l.length=rs.length)(i k:Nat)(hi:i<l.length)(hk:k<l.length):(ownS l rs).Perm (ownS (swp l i k hi hk) (swp rs i k (h ▸ hi) (h ▸ hk))):=by
 have h1:∀ j (hj:j<l.length),(ownS l rs)[j]'(by rw[ownS_length h]; exact hj)=ownC l[j] (rs[j]'(h ▸ hj)):=fun j hj=>by
  have:=ownS_get (gE hj) (gE (h ▸ hj:j<rs.length));rw[gE (by rw[ownS_length h]; exact hj)] at this;exact Option.some.inj this
 unfold swp;rw[← ownS_set _ _ (by simp[h]),← ownS_set _ _ h,← h1 i hi,← h1 k hk];exact (List.set_set_perm _ _).symm
def ShC (a b:Cl):Prop:=a.id=b.id∧a.dim=b.dim∧a.sides.Perm b.sides
def ShL (l m:List Cl):Prop:=∃ l1:List Cl,l1.Perm l∧All2 ShC l1 m
theorem ShL.fits {l m:List Cl}(h:ShL l m)(hf:Fits l):Fits m:=by
 obtain ⟨l1,h1,h2⟩:=h;refine⟨by rw[← h2.length,h1.length_eq]; exact hf.1,fun c hc=>?_⟩;have:∀ {l m:List Cl},All2 ShC l m→∀ c∈m,∃ d∈l,ShC d c:=by
  intro l;induction l with
  | nil=>intro m h c hc; cases m with | nil=>cases hc | cons _ _=>exact h.elim
  | cons x t ih =>
   intro m h c hc;cases m with
   | nil=>cases hc
   | cons y m =>
    rcases List.mem_cons.1 hc with rfl | hc
    ·exact⟨x,by simp,h.1⟩
    ·obtain ⟨d,hd,he⟩:=ih h.2 c hc;exact⟨d,by simp[hd],he⟩
 obtain ⟨d,hd,he⟩:=this h2 c hc;rw[← he.2.2.length_eq];exact hf.2 d (h1.mem_iff.1 hd)
theorem mod_some (E:World)(g:PH)(s:Own)(a:Int)(n:Nat)(h:n<1099511627776):Ctr Tryz.prog E 19 #[vi a,vi ((n:Int)+1)] g s (fun r g' s'=>∃ k:Nat,k≤n∧r=vi (k:Int)∧g=g'∧s=s'):=by
 obtain ⟨h1,h2⟩:=modW_nat a (n+1) oM oM;refine (mod_spec E g s a ((n:Int)+1) oM).mono ?_;rintro _ _ _ ⟨rfl,rfl,rfl⟩;exact⟨(modW a ((n+1:Nat):Int)).toNat,oM,by rw[← h1]; rfl,rfl,rfl⟩
end Go.Proofs.YteahknngoogpaaaGreatDoor
namespace Go.Sy
open Go
structure Md where
 ro:Option Nat
 ds:List Deferred
def wf (ro:Option Nat):Fence:={ fn:=fun _=>True,depth:=none,alive:=false,round:=ro }
theorem wf_fn (ro:Option Nat)(f:FuncId):(wf ro).fn f:=trivial
def bare (a:Act):Act:={ a with defers:=[] }
theorem bare_eval (a:Act):(bare a).eval=a.eval:=by funext x; cases x <;> rfl
theorem bare_put (a:Act)(d:Option Tmp)(v:Value):bare (a.put d v)=(bare a).put d v:=by cases d <;> rfl
theorem put_defers (a:Act)(d:Option Tmp)(v:Value):(a.put d v).defers=a.defers:=by cases d <;> rfl
theorem put_tmps (a:Act)(d:Option Tmp)(v:Value):(a.put d v).tmps=((bare a).put d v).tmps:=by cases d <;> rfl
theorem bare_self {a:Act}(h:a.defers=[]):bare a=a:=by cases a; simp[bare] at h ⊢; exact h
def Okd (ds:List Deferred)(N:Nat)(f:Fr)(a:Act):Prop:=a.defers=ds∧Ok N f (bare a)
section
variable {P:Program}{M:Md}{N:Nat}{E:World}{Q:Exit→Act→World→Prop}{f f':Fr}{g g':PH}{s s':Own}{ops:Array Oper}
theorem Okd.put {ds:List Deferred}{a:Act}(h:Okd ds N f a){d:Nat}(hlt:d<N)(v:Value):Okd ds N ((d,v)::f) (a.put (some d) v):=⟨h.1,by rw[bare_put]; exact h.2.put hlt v⟩
theorem Okd.sub {ds:List Deferred}{a:Act}(h:Okd ds N f a)(hs:Sub f' f):Okd ds N f' a:=⟨h.1,h.2.sub hs⟩
theorem Okd.ev {ds:List Deferred}{a:Act}(h:Okd ds N f a){x:Operand}{v:Value}(hx:Sy.ev f x=some v):a.eval x=v:=by rw[← bare_eval]; exact h.2.ev hx
def XC (P:Program)(M:Md)(N:Nat)(E:World)(c:Code)(Q:Exit→Act→World→Prop)(f:Fr)(g:PH)(s:Own):Prop:=∀ a w,Okd M.ds N f a→At E g s w→c.wpIn (wf M.ro) 0 P Q a w
def XT (M:Md)(N:Nat)(E:World)(Q:Exit→Act→World→Prop)(e:Exit)(f:Fr)(g:PH)(s:Own):Prop:=∀ a w,Okd M.ds N f a→At E g s w→Q e a w
def XL (P:Program)(M:Md)(N:Nat)(E:World)(ops:Array Oper)(Q:Exit→Act→World→Prop)(l:List Oper)(f:Fr)(g:PH)(s:Own):Prop:=∀ a w,Okd M.ds N f a→At E g s w→wpListIn (wf M.ro) 0 P ops Q l a w
def XO (P:Program)(M:Md)(N:Nat)(E:World)(o:Oper)(f:Fr)(g:PH)(s:Own)(K:Value→PH→Own→Prop):Prop :=
 ∀ a w,Okd M.ds N f a→At E g s w→∀ (Q:Exit→Act→World→Prop) (next:Act→World→Prop),
  (∀ v g' s' w',K v g' s'→At E g' s' w'→next (a.put o.dst v) w')→o.wpIn (wf M.ro) 0 P a w next Q
theorem XC.sub {c:Code}(hs:Sub f' f)(h:XC P M N E c Q f' g s):XC P M N E c Q f g s:=fun a w ha hw=>h a w (ha.sub hs) hw
theorem XC.drop {c:Code}(hs:s'.Sublist s)(h:XC P M N E c Q f g s'):XC P M N E c Q f g s:=fun a w ha hw=>h a w ha (hw.sublist hs)
theorem XC.to {c:Code}(h:∀ w,At E g s w→At E g' s' w)(hc:XC P M N E c Q f g' s'):XC P M N E c Q f g s:=fun a w ha hw=>hc a w ha (h w hw)
theorem XT.sub {e:Exit}(hs:Sub f' f)(h:XT M N E Q e f' g s):XT M N E Q e f g s:=fun a w ha hw=>h a w (ha.sub hs) hw
theorem XT.drop {e:Exit}(hs:s'.Sublist s)(h:XT M N E Q e f g s'):XT M N E Q e f g s:=fun a w ha hw=>h a w ha (hw.sublist hs)
theorem XT.to {e:Exit}(h:∀ w,At E g s w→At E g' s' w)(hc:XT M N E Q e f g' s'):XT M N E Q e f g s:=fun a w ha hw=>hc a w ha (h w hw)
theorem XL.to {l:List Oper}(h:∀ w,At E g s w→At E g' s' w)(hc:XL P M N E ops Q l f g' s'):XL P M N E ops Q l f g s:=fun a w ha hw=>hc a w ha (h w hw)
theorem XC.facts {c:Code}(h:(∃ w,At E g s w)→XC P M N E c Q f g s):XC P M N E c Q f g s:=fun a w ha hw=>h ⟨w,hw⟩ a w ha hw
theorem XL.facts {l:List Oper}(h:(∃ w,At E g s w)→XL P M N E ops Q l f g s):XL P M N E ops Q l f g s:=fun a w ha hw=>h ⟨w,hw⟩ a w ha hw
theorem XT.facts {e:Exit}(h:(∃ w,At E g s w)→XT M N E Q e f g s):XT M N E Q e f g s:=fun a w ha hw=>h ⟨w,hw⟩ a w ha hw
theorem XC.skip (h:XT M N E Q .normal f g s):XC P M N E .skip Q f g s:=fun a w ha hw=>wpIn_skip (h a w ha hw)
theorem XC.ret (h:XT M N E Q .ret f g s):XC P M N E .ret Q f g s:=fun a w ha hw=>wpIn_ret (h a w ha hw)
theorem XC.exit {id:Nat}(h:XT M N E Q (.exit id) f g s):XC P M N E (.exit id) Q f g s:=fun a w ha hw=>wpIn_exit (h a w ha hw)
theorem XC.label {l:Nat}(h:XT M N E Q .normal f g s):XC P M N E (.label l) Q f g s:=fun a w ha hw=>wpIn_label (h a w ha hw)
theorem XC.seq {x y:Code}(h:XC P M N E x (Exit.then (y.wpIn (wf M.ro) 0 P Q) Q) f g s):XC P M N E (.seq x y) Q f g s:=fun a w ha hw=>wpIn_seq (h a w ha hw)
theorem XC.block {id:Nat}{c:Code}(h:XC P M N E c (Exit.inBlock id Q) f g s):XC P M N E (.block id c) Q f g s:=fun a w ha hw=>wpIn_block (h a w ha hw)
theorem XC.cond {c:Operand}{x y:Code}{t:Bool}(hc:ev f c=some (.bool t))(h:XC P M N E (if t then x else y) Q f g s):XC P M N E (.cond c x y) Q f g s :=
 fun a w ha hw=>wpIn_cond (ha.ev hc) (h a w ha hw)
theorem XC.condT {c:Operand}{x y:Code}(hc:ev f c=some (.bool true))(h:XC P M N E x Q f g s):XC P M N E (.cond c x y) Q f g s:=XC.cond hc h
theorem XC.condF {c:Operand}{x y:Code}(hc:ev f c=some (.bool false))(h:XC P M N E y Q f g s):XC P M N E (.cond c x y) Q f g s:=XC.cond hc h
theorem XC.ifB {c:Operand}{x y:Code}{t:Bool}(hc:ev f c=some (.bool t))(h1:t=true→XC P M N E x Q f g s)(h2:t=false→XC P M N E y Q f g s) :
  XC P M N E (.cond c x y) Q f g s:=by
 cases t
 ·exact XC.condF hc (h2 I)
 ·exact XC.condT hc (h1 I)
theorem XC.ifP {c:Operand}{x y:Code}{p:Prop}[Decidable p](hc:ev f c=some (.bool (decide p)))(h1:p→XC P M N E x Q f g s)(h2:¬ p→XC P M N E y Q f g s) :
  XC P M N E (.cond c x y) Q f g s :=
 XC.ifB hc (fun h=>h1 (of_decide_eq_true h)) (fun h=>h2 (of_decide_eq_false h))
theorem XT.thenN {c:Code}(h:XC P M N E c Q f g s):XT M N E (Exit.then (c.wpIn (wf M.ro) 0 P Q) Q) .normal f g s:=h
theorem XT.thenX {K:Act→World→Prop}{id:Nat}(h:XT M N E Q (.exit id) f g s):XT M N E (Exit.then K Q) (.exit id) f g s:=h
theorem XT.thenR {K:Act→World→Prop}(h:XT M N E Q .ret f g s):XT M N E (Exit.then K Q) .ret f g s:=h
theorem XT.blockN {id:Nat}(h:XT M N E Q .normal f g s):XT M N E (Exit.inBlock id Q) .normal f g s:=h
theorem XT.blockR {id:Nat}(h:XT M N E Q .ret f g s):XT M N E (Exit.inBlock id Q) .ret f g s:=h
theorem XT.blockX {id:Nat}(h:XT M N E Q .normal f g s):XT M N E (Exit.inBlock id Q) (.exit id) f g s:=fun a w ha hw=>by simpa [Exit.inBlock] using h a w ha hw
theorem XT.blockO {id j:Nat}(hj:j≠id)(h:XT M N E Q (.exit j) f g s):XT M N E (Exit.inBlock id Q) (.exit j) f g s:=fun a w ha hw=>by
 simpa [Exit.inBlock,hj] using h a w ha hw
def MidX {ι:Type}(ds:List Deferred)(N:Nat)(E:World)(F:ι→Fr)(G:ι→PH)(S:ι→Own)(J:ι→Prop)(a:Act)(w:World):Prop:=∃ i,Okd ds N (F i) a∧At E (G i) (S i) w∧J i
theorem XC.cut {ι:Type}{x y:Code}(F:ι→Fr)(G:ι→PH)(S:ι→Own)(J:ι→Prop)(h1:XC P M N E x (Exit.then (MidX M.ds N E F G S J) Q) f g s)
  (h2:∀ i,J i→XC P M N E y Q (F i) (G i) (S i)):XC P M N E (.seq x y) Q f g s:=by
 refine XC.seq fun a w ha hw=>Code.wpIn_mono (fun e a' w' h=>?_) (h1 a w ha hw);cases e <;> first | exact h | (obtain ⟨i,h3,h4,h5⟩:=h; exact h2 i h5 a' w' h3 h4)
theorem XT.mid {ι:Type}{F:ι→Fr}{G:ι→PH}{S:ι→Own}{J:ι→Prop}(i:ι)(hf:Sub (F i) f)(hg:G i=g)(hs:S i=s)(hJ:J i) :
  XT M N E (Exit.then (MidX M.ds N E F G S J) Q) .normal f g s:=fun _ _ ha hw=>⟨i,ha.sub hf,by rw[hg,hs]; exact hw,hJ⟩
def AgainX {ι:Type}(ds:List Deferred)(N:Nat)(E:World)(F:ι→Fr)(G:ι→PH)(S:ι→Own)(J:ι→Prop)(μ:ι→Nat)(i:ι)(a:Act)(w:World):Prop :=
 ∃ j,Okd ds N (F j) a∧At E (G j) (S j) w∧J j∧μ j<μ i
theorem XT.again {ι:Type}{F:ι→Fr}{G:ι→PH}{S:ι→Own}{J:ι→Prop}{μ:ι→Nat}{i:ι}(j:ι)(hf:Sub (F j) f)(hg:G j=g)(hs:S j=s)(hJ:J j)(hμ:μ j<μ i) :
  XT M N E (Exit.then (AgainX M.ds N E F G S J μ i) Q) .normal f g s:=fun _ _ ha hw=>⟨j,ha.sub hf,by rw[hg,hs]; exact hw,hJ,hμ⟩
theorem XC.loop {ι:Type}{c:Code}(F:ι→Fr)(G:ι→PH)(S:ι→Own)(J:ι→Prop)(μ:ι→Nat)(i:ι)(hf:Sub (F i) f)(hg:G i=g)(hs:S i=s)(h0:J i)
  (round:∀ i,J i→XC P M N E c (Exit.then (AgainX M.ds N E F G S J μ i) Q) (F i) (G i) (S i)):XC P M N E (.loop c) Q f g s:=by
 intro a w ha hw;have key:∀ n,∀ (i:ι) (a:Act) (w:World),μ i=n→Okd M.ds N (F i) a→At E (G i) (S i) w→J i→∀ (b:Frame) (k:List Item) (cs:List Frame),b.roundOf=(wf M.ro).round→(wf M.ro).fn b.fn→(wf M.ro).room (cs.length+1+0) →
   ∃ e a' w',Q e a' w'∧ArrivesIn (Machine.fenced P (wf M.ro)) P (lone (b.atR a (.code c :: .inLoop c::k)) cs w) b k cs e a' w':=by
  intro n;induction n using Nat.strongRecOn with
  | _ n ih =>
   intro i a w hn ha hI hJ b k cs hro hb hr;obtain ⟨e,a₁,w₁,hq,harr⟩:=round i hJ a w ha hI b (.inLoop c::k) cs hro hb hr;cases e with
   | normal =>
    obtain ⟨j,hok,hI₁,hJ₁,hlt⟩:=hq;obtain ⟨e₂,a₂,w₂,hq₂,harr₂⟩:=ih (μ j) (hn ▸ hlt) j a₁ w₁ rfl hok hI₁ hJ₁ b k cs hro hb hr;exact⟨e₂,a₂,w₂,hq₂,.of_steps (StepsIn.trans harr (.one (fenced_calm hb hr I) stepR_inLoop)) harr₂⟩
   | exit id=>exact⟨_,a₁,w₁,hq,.pass (x:=.inLoop c) rfl (fun _ _=>.inl (by simp)) harr⟩
   | goto l=>exact⟨_,a₁,w₁,hq,.pass (x:=.inLoop c) rfl (fun _ _=>.inl (by simp)) harr⟩
   | ret=>exact⟨_,a₁,w₁,hq,.pass (x:=.inLoop c) rfl (fun _ _=>.inl (by simp)) harr⟩
   | panic ch=>exact⟨_,a₁,w₁,hq,.pass (x:=.inLoop c) rfl (fun _ _=>.inl (by simp)) harr⟩
   | outgrown=>exact⟨_,a₁,w₁,hq,.pass (x:=.inLoop c) rfl (fun _ _=>.inl (by simp)) harr⟩
 intro b k cs hro hb hr;obtain ⟨e,a',w',hq,harr⟩:=key _ i a w rfl (ha.sub hf) (by rw[hg,hs]; exact hw) h0 b k cs hro hb hr;exact⟨e,a',w',hq,.of_steps (.one (fenced_calm hb hr I) stepR_loop) harr⟩
theorem XC.region {id:Nat}(h:XL P M N E ops Q ops.toList f g s):XC P M N E (.region id ops false) Q f g s:=fun a w ha hw=>wpIn_region_list (h a w ha hw)
theorem XL.nil (h:XT M N E Q .normal f g s):XL P M N E ops Q [] f g s:=fun a w ha hw=>h a w ha hw
theorem SO.xo {o:Oper}{K:Value→PH→Own→Prop}(hno:∀ c,o.op ≠ .defer c)(h:SO P N E o f g s K):XO P M N E o f g s K:=by
 intro a w ha hw Q next hn;refine⟨fun _ _=>trivial,?_⟩;rw[Oper.semAt_eq _ _ _ hno];have h1:=h (bare a) w ha.2 hw (fun _ _ _=>False) (fun a' w'=>a'.defers=[]∧∃ v g' s',a'=(bare a).put o.dst v∧K v g' s'∧At E g' s' w') (fun v g' s' w' hK hw'=>⟨put_defers _ _ _,v,g',s',rfl,hK,hw'⟩);unfold Oper.wp at h1;rw[bare_eval] at h1;have key:∀ v w',(((bare a).put o.dst v).defers=[]∧∃ v' g' s',(bare a).put o.dst v=(bare a).put o.dst v'∧K v' g' s'∧At E g' s' w')→next (a.put o.dst v) w':=by
  rintro v w' ⟨_,v',g',s',he,hK,hw'⟩;have:a.put o.dst v=a.put o.dst v':=by
   cases hd:o.dst with
   | none=>rfl
   | some d =>
    rw[hd] at he;have h2:=congrArg Act.tmps he;cases a;simp only[Act.put,bare] at h2 ⊢;rw[h2]
  rw[this];exact hn v' g' s' w' hK hw'
 generalize (execOp a.eval o).run P w=r at h1;cases r with
 | ok n w' =>
  cases n <;> simp only[Oper.upon] at h1 <;> first | exact h1.elim | skip
  ·exact key _ _ h1
  ·exact key _ _ h1
  ·rename_i f' args;exact⟨fun h=>(by cases h),(CallsIn.more (n:=0) ((callsIn_wide (n:=0)).2 (Calls.mono h1 (fun e w'' he=>by cases e with | returned v=>exact key _ _ he | panicked c=>exact he.elim | outgrown=>obtain ⟨_,_,h2⟩:=he; exact h2.elim))) (Nat.zero_le _))⟩
  ·exact absurd h1.1 (by rw[put_defers]; simp)
  ·exact⟨fun h=>(by cases h),fun c cs _=>let ⟨v,w'',r,st⟩:=h1 c cs; ⟨v,w'',key _ _ r,stepsIn_wide.2 st⟩⟩
 | halt x w'=>cases x <;> simp only[Oper.upon] at h1 <;> exact h1.elim
theorem XL.step {o:Oper}{l:List Oper}{K:Value→PH→Own→Prop}(hg:Gd N ops f o true)(ho:XO P M N E o f g s K)
  (h:∀ v g' s' a,K v g' s'→Okd M.ds N f a→∃ f',Okd M.ds N f' (a.put o.dst v)∧XL P M N E ops Q l f' g' s'):XL P M N E ops Q (o::l) f g s:=by
 intro a w ha hw;unfold wpListIn;have hwt:Region.wanted o (yielded ops a.tmps)=true:=hg (bare a) ha.2;rw[if_pos hwt];refine ho a w ha hw Q _ fun v g' s' w' hK hw'=>?_;obtain ⟨f',hf',hn⟩:=h v g' s' a hK ha;exact hn _ _ hf' hw'
theorem XL.x {d:Nat}{op:Op}{ty:TypeId}{pos:String}{af:Array Edge}{l:List Oper}{K:Value→PH→Own→Prop}(ho:XO P M N E ⟨some d,op,ty,pos,af,none⟩ f g s K)(hd:d<N)
  (h:∀ v g' s',K v g' s'→XL P M N E ops Q l ((d,v)::f) g' s'):XL P M N E ops Q (⟨some d,op,ty,pos,af,none⟩::l) f g s :=
 XL.step (Gd.none rfl) ho fun v g' s' _ hK ha=>⟨_,ha.put hd v,h v g' s' hK⟩
theorem XL.go {d:Nat}{op:Op}{ty:TypeId}{pos:String}{af:Array Edge}{gd:Option (Nat×Bool)}{l:List Oper}{K:Value→PH→Own→Prop}(hg:Gd N ops f ⟨some d,op,ty,pos,af,gd⟩ true)(ho:SO P N E ⟨some d,op,ty,pos,af,gd⟩ f g s K)(hd:d<N)
  (h:∀ v g' s',K v g' s'→XL P M N E ops Q l ((d,v)::f) g' s') (hno:∀ c,op ≠ .defer c:=by intro _ h; cases h):XL P M N E ops Q (⟨some d,op,ty,pos,af,gd⟩::l) f g s :=
 XL.step hg (ho.xo hno) fun v g' s' _ hK ha=>⟨_,ha.put hd v,h v g' s' hK⟩
theorem XL.o {d:Nat}{op:Op}{ty:TypeId}{pos:String}{af:Array Edge}{l:List Oper}{K:Value→PH→Own→Prop}(ho:SO P N E ⟨some d,op,ty,pos,af,none⟩ f g s K)(hd:d<N)
  (h:∀ v g' s',K v g' s'→XL P M N E ops Q l ((d,v)::f) g' s') (hno:∀ c,op ≠ .defer c:=by intro _ h; cases h):XL P M N E ops Q (⟨some d,op,ty,pos,af,none⟩::l) f g s :=
 XL.go (Gd.none rfl) ho hd h hno
theorem XL.on {op:Op}{ty:TypeId}{pos:String}{af:Array Edge}{l:List Oper}{K:Value→PH→Own→Prop}(ho:SO P N E ⟨none,op,ty,pos,af,none⟩ f g s K)
  (h:∀ v g' s',K v g' s'→XL P M N E ops Q l f g' s') (hno:∀ c,op ≠ .defer c:=by intro _ h; cases h):XL P M N E ops Q (⟨none,op,ty,pos,af,none⟩::l) f g s :=
 XL.step (Gd.none rfl) (ho.xo hno) fun v g' s' _ hK ha=>⟨f,ha,h v g' s' hK⟩
theorem XL.gq {d:Nat}{op:Op}{ty:TypeId}{pos:String}{af:Array Edge}{gd:Option (Nat×Bool)}{l:List Oper}{v:Value}(hg:Gd N ops f ⟨some d,op,ty,pos,af,gd⟩ true)(hq:SQ P N E ⟨some d,op,ty,pos,af,gd⟩ f g s v)(hd:d<N)
  (h:XL P M N E ops Q l ((d,v)::f) g s) (hno:∀ c,op ≠ .defer c:=by intro _ h; cases h):XL P M N E ops Q (⟨some d,op,ty,pos,af,gd⟩::l) f g s :=
 XL.go hg hq.so hd (fun v' g' s' ⟨e1,e2,e3⟩=>by subst e1; subst e2; subst e3; exact h) hno
theorem XL.q {d:Nat}{op:Op}{ty:TypeId}{pos:String}{af:Array Edge}{l:List Oper}{v:Value}(hq:SQ P N E ⟨some d,op,ty,pos,af,none⟩ f g s v)(hd:d<N)
  (h:XL P M N E ops Q l ((d,v)::f) g s) (hno:∀ c,op ≠ .defer c:=by intro _ h; cases h):XL P M N E ops Q (⟨some d,op,ty,pos,af,none⟩::l) f g s:=XL.gq (Gd.none rfl) hq hd h hno
theorem XL.gu {d:Nat}{op:Op}{ty:TypeId}{pos:String}{af:Array Edge}{gd:Option (Nat×Bool)}{l:List Oper}{v:Value}(hg:Gd N ops f ⟨some d,op,ty,pos,af,gd⟩ true)(hq:SU P N ⟨some d,op,ty,pos,af,gd⟩ f v)(hd:d<N)
  (h:XL P M N E ops Q l ((d,v)::f) g s) (hno:∀ c,op ≠ .defer c:=by intro _ h; cases h):XL P M N E ops Q (⟨some d,op,ty,pos,af,gd⟩::l) f g s:=XL.gq hg hq.sq hd h hno
theorem XL.u {d:Nat}{op:Op}{ty:TypeId}{pos:String}{af:Array Edge}{l:List Oper}{v:Value}(hq:SU P N ⟨some d,op,ty,pos,af,none⟩ f v)(hd:d<N)
  (h:XL P M N E ops Q l ((d,v)::f) g s) (hno:∀ c,op ≠ .defer c:=by intro _ h; cases h):XL P M N E ops Q (⟨some d,op,ty,pos,af,none⟩::l) f g s:=XL.q hq.sq hd h hno
theorem XL.off {d:Nat}{op:Op}{ty:TypeId}{pos:String}{af:Array Edge}{gd:Option (Nat×Bool)}{l:List Oper}(hg:Gd N ops f ⟨some d,op,ty,pos,af,gd⟩ false)(hd:d<N)
  (h:XL P M N E ops Q l ((d,undef)::f) g s):XL P M N E ops Q (⟨some d,op,ty,pos,af,gd⟩::l) f g s:=by
 intro a w ha hw;unfold wpListIn;have hwt:Region.wanted (⟨some d,op,ty,pos,af,gd⟩:Oper) (yielded ops a.tmps)=false:=hg (bare a) ha.2;rw[if_neg (by rw[hwt]; simp)];exact⟨fun _ _=>trivial,h _ _ (ha.put hd undef) hw⟩
theorem At.obj {w:World}{b i:Nat}{o o':Obj}(h:At E g s w)(hi:s[i]?=some (pt b o)):At E g (s.set i (pt b o')) (w.putObj b o'):=by
 have h2:=h.fresh _ (List.mem_of_getElem? hi) b rfl;refine h.turn hi I ⟨I,lR _⟩ I (by simp[World.putObj]) (fun k _ hk=>World.putObj_heap_other (fun e=>hk (by simp[pt,e]))) ?_ (fun b' hb'=>?_)
 ·simp only[pt,Option.bind_some];exact World.putObj_heap_same h2.2
 ·simp only[pt,Option.some.injEq] at hb';subst hb';exact⟨by simpa [World.putObj] using h2.2,.inl I⟩
theorem At.here {w:World}{b i:Nat}{o:Obj}(h:At E g s w)(hi:s[i]?=some (pt b o)):w.heap[b]?=some o:=by
 have:=h.own _ (List.mem_of_getElem? hi);simpa [pt] using this
end
def YieldC (P:Program)(E:World)(l:Nat)(args:Array Value)(g:PH)(s:Own)(R:Value→PH→Own→Prop):Prop :=
 ∀ w,At E g s w→YieldAt Fence.wide 0 P l args w fun e w'=>∃ v g' s',e = .returned v∧At E g' s' w'∧R v g' s'
def Gives (P:Program)(E:World)(gf:FuncId)(lb:List Value){α:Type}(encs:α→List Value)(xs:List α)(g0:PH):Prop :=
 ∀ (l:Nat) (ι:Type) (G:ι→PH) (S:ι→Own) (J:List α→ι→Prop) (i0:ι),J [] i0→(∀ pre i,J pre i→Le g0 (G i)) →
  (∀ pre x suf i sx,xs=pre++x::suf→J pre i→YieldC P E l (encs x).toArray (G i) (S i++sx) (fun v g' s'=>v = .bool true∧∃ j,J (pre++[x]) j∧g'=G j∧s'=S j++sx)) →
  ∀ sx,Ctr P E gf (.func (.yield l) #[] #[]::lb).toArray (G i0) (S i0++sx) (fun _ g' s'=>∃ j,J xs j∧g'=G j∧s'=S j++sx)
section
variable {P:Program}{M:Md}{N:Nat}{E:World}{Q:Exit→Act→World→Prop}{f:Fr}{g:PH}{s:Own}{dst:Option Tmp}{ty:TypeId}{pos:String}{af:Array Edge}{gd:Option (Nat×Bool)}
theorem XO.yield {x:Operand}{l:List Operand}{tys:Array TypeId}{vs:List Value}{k:Nat}{R:Value→PH→Own→Prop}(hx:ev f x=some (.func (.yield k) #[] #[]))(hl:evs f l=some vs)(hY:YieldC P E k vs.toArray g s R) :
  XO P M N E ⟨dst,.call ⟨.value x,l.toArray,tys⟩,ty,pos,af,gd⟩ f g s R:=by
 intro a w ha hw Q next hn;refine⟨fun _ _=>trivial,?_⟩;rw[Oper.semAt_eq _ _ _ (fun _ h=>by cases h)];obtain ⟨fn,tmps,assign,body,hy,hR⟩:=hY w hw;have h1:a.eval x = .func (.yield k) #[] #[]:=ha.ev hx;have h2:l.map a.eval=vs:=by have:=ha.2.evs hl; rwa [bare_eval] at this
 have h3:(execOp a.eval ⟨dst,.call ⟨.value x,l.toArray,tys⟩,ty,pos,af,gd⟩).run P w = .ok (.round k fn tmps assign body) w:=by
  simp only[execOp,resolve,h1,List.map_toArray,h2];simp[Deferred.ofValue,Sem.run_bind,invoke,hy]
 rw[h3];refine⟨fun h=>(by cases h),RoundIn.mono hR fun e w' he=>?_⟩;obtain ⟨v,g',s',rfl,hat,hRR⟩:=he;exact hn v g' s' w' hRR hat
theorem Ctr.ofX {n:FuncId}{fn:Func}{c:Code}{args:List Value}{R:Value→PH→Own→Prop}
  (hf:P.funcs[n]?=some fn) (hb:fn.body=some c) (hN:fn.ntmps=N) (hle:args.length≤N)
  (h:XC P ⟨none,[]⟩ N E c (bodyPostM (wf none) 0 P fn (Post E R)) (entryFr 0 args) g s):Ctr P E n args.toArray g s R:=by
 intro w hw;refine (callsIn_wide (n:=0)).1 (callsIn_of_wp_marks (F:=wf none) hf hb trivial (h _ w ⟨I,⟨I,?_,fun t v hv=>?_⟩⟩ hw) I)
 ·simp[bare,hN]; omega
 ·obtain ⟨_,h2⟩:=get?_entryFr args 0 t v hv;have hlt:t<args.length:=(List.getElem?_eq_some_iff.1 (by simpa using h2)).1;simp only[Nat.sub_zero] at h2;obtain ⟨_,h3⟩:=List.getElem?_eq_some_iff.1 h2;simp[bare,Array.getElem?_append,hlt,h3]
theorem XT.leave0 {fn:Func}{R:Value→PH→Own→Prop}{e:Exit}(he:e = .ret∨e = .normal)(h:ST N E (bodyPost P fn (Post E R)) e f g s):XT ⟨none,[]⟩ N E (bodyPostM (wf none) 0 P fn (Post E R)) e f g s:=by
 intro a w ha hw;have h1:=h (bare a) w ha.2 hw
 rcases he with rfl | rfl
 all_goals
  obtain ⟨_,v,h2,h3⟩:=h1;show LeavesInM _ _ _ _ _ _ a.defers _ _;rw[ha.1];exact⟨v,h2,h3⟩
theorem XT.leave1 {fn:Func}{R:Value→PH→Own→Prop}{e:Exit}{D:Nat}(he:e = .ret∨e = .normal)(h:ST N E (bodyPost P fn (Post E R)) e f g s) :
  XT ⟨none,[⟨.collected D,#[]⟩]⟩ N E (bodyPostM (wf none) 0 P fn (Post E R)) e f g (pt D (.deferred (some []))::s):=by
 intro a w ha hw;have hD:w.heap[D]?=some (.deferred (some [])):=At.here (i:=0) hw rfl;have hw2:=(At.obj (i:=0) (o':=.deferred none) hw rfl).sublist (List.sublist_cons_self _ _);have h1:=h (bare a) _ ha.2 hw2
 rcases he with rfl | rfl
 all_goals
  obtain ⟨_,v,h2,h3⟩:=h1;show LeavesInM _ _ _ _ _ _ a.defers _ _;rw[ha.1];exact⟨by simp,.inl ⟨D,_,I,run_takeDeferred hD,v,h2,h3⟩⟩
theorem params1 {a:Act}{t:Nat}{u:Value}(h:Ok N f (bare a))(ht:t<N):Ok N ((t,u)::f) { tmps:=((#[t]:Array Tmp).zip [u].toArray).foldl (fun t (p,v)=>t.setIfInBounds p v) a.tmps,defers:=[] }:=by
 have:=h.put ht u;simpa [Act.put,bare] using this
theorem params2 {a:Act}{t t':Nat}{u u':Value}(h:Ok N f (bare a))(ht:t<N)(ht':t'<N):Ok N ((t',u')::(t,u)::f) { tmps:=((#[t,t']:Array Tmp).zip [u,u'].toArray).foldl (fun t (p,v)=>t.setIfInBounds p v) a.tmps,defers:=[] }:=by
 have:=(h.put ht u).put ht' u';simpa [Act.put,bare] using this
def RoundEnd {α ι:Type}(E:World)(G:ι→PH)(S:ι→Own)(J:List α→ι→Prop)(pre:List α)(x:α)(sx:Own):Exit→Act→World→Prop:=fun e _ w'=>e = .normal∧∃ j,At E (G j) (S j++sx) w'∧J (pre++[x]) j
def AssignEnd {N:Nat}(E:World)(g:PH)(s:Own)(fb:Fr):Exit→Act→World→Prop:=fun e a' w'=>e = .normal∧Okd [] N fb a'∧At E g s w'
theorem XT.roundEnd {α ι:Type}{G:ι→PH}{S:ι→Own}{J:List α→ι→Prop}{pre:List α}{x:α}{sx:Own}(j:ι)(hg:G j=g)(hs:S j++sx=s)(hj:J (pre++[x]) j):XT M N E (RoundEnd E G S J pre x sx) .normal f g s:=fun _ _ _ hw=>⟨rfl,j,by rw[hg,hs]; exact hw,hj⟩
theorem XT.assignEnd {fb:Fr}{ro:Option Nat}(hf:Sub fb f):XT ⟨ro,[]⟩ N E (AssignEnd (N:=N) E g s fb) .normal f g s:=fun _ _ ha hw=>⟨rfl,ha.sub hf,hw⟩
theorem XC.rangeFunc {α ι:Type}{gop:Operand}{ps:Array Tmp}{assign body:Code}{gf:FuncId}{lb:List Value}{encs:α→List Value}{xs:List α}{g0:PH}(G:ι→PH)(S:ι→Own)(J:List α→ι→Prop)(i0:ι)(sx0:Own)(fa:α→Fr)(fb:List α→α→ι→Fr)
  (hro:M.ro=none) (hg:ev f gop=some (.func (.func gf) #[] lb.toArray)) (eg:∀ args w,(callFunc gf args).run P w = .ok (.enter gf args) w) (hps:∀ x,(encs x).length=ps.size)
  (hG:G i0=g) (hS:S i0++sx0=s) (hseq:Gives P E gf lb encs xs g0) (hmono:∀ pre i,J pre i→Le g0 (G i)) (h0:J [] i0)
  (hfa:∀ x a,Ok N f (bare a)→Ok N (fa x) { tmps:=(ps.zip (encs x).toArray).foldl (fun t (p,v)=>t.setIfInBounds p v) a.tmps,defers:=[] })
  (hassign:∀ l pre x i sx,J pre i→XC P ⟨some l,[]⟩ N E assign (AssignEnd (N:=N) E (G i) (S i++sx) (fb pre x i)) (fa x) (G i) (S i++sx))
  (hbody:∀ l pre x suf i sx,xs=pre++x::suf→J pre i→XC P ⟨some l,[]⟩ N E body (RoundEnd E G S J pre x sx) (fb pre x i) (G i) (S i++sx))
  (hdone:∀ D j,J xs j→XT ⟨none,⟨.collected D,#[]⟩::M.ds⟩ N E Q .normal f (G j) (pt D (.deferred (some []))::(S j++sx0))):XC P M N E (.rangeFunc gop ps assign body) Q f g s:=by
 subst hG hS;intro a w ha hw;rw[hro];refine wpIn_rangeFunc ?_;intro fn _;obtain ⟨rec,hrec⟩:∃ rec:LoopState→Option Code→Loop,rec=fun st pe=>{ state:=st,pending:=pe,fn,tmps:=a.tmps,params:=ps,assign,body,defers:=w.heap.size }:=⟨_,rfl⟩;obtain ⟨L,hL⟩:∃ L,L=w.heap.size+1:=⟨_,rfl⟩;obtain ⟨D,hD⟩:∃ D,D=w.heap.size:=⟨_,rfl⟩;obtain ⟨W1,hW1⟩:∃ W1,(w.alloc (.deferred (some []))).alloc (.loop (rec .ready none))=W1:=⟨_,rfl⟩;have hA:At E (G i0) (pt L (.loop (rec .ready none))::pt D (.deferred (some []))::(S i0++sx0)) W1:=by
  rw[← hW1,hL,hD];have h1:At E (G i0) (pt w.heap.size (.deferred (some []))::(S i0++sx0)) (w.alloc (.deferred (some []))):=hw.alloc (e:=pt w.heap.size (.deferred (some []))) rfl rfl;have h2:=h1.alloc (e:=pt (w.alloc (.deferred (some []))).heap.size (.loop (rec .ready none))) rfl rfl;rw[World.size_alloc] at h2;exact h2
 obtain ⟨S2,hS2⟩:∃ S2:ι→Own,S2=fun i=>S i++(pt L (.loop (rec .ready none))::pt D (.deferred (some []))::sx0):=⟨_,rfl⟩;have hA2:At E (G i0) (S2 i0++[]) W1:=by
  rw[hS2,List.append_nil];dsimp only;refine hA.perm ?_;have h1:(pt L (.loop (rec .ready none))::pt D (.deferred (some []))::(S i0++sx0))=[pt L (.loop (rec .ready none)),pt D (.deferred (some []))]++(S i0++sx0):=rfl;have h2:S i0++(pt L (.loop (rec .ready none))::pt D (.deferred (some []))::sx0)=S i0++([pt L (.loop (rec .ready none)),pt D (.deferred (some []))]++sx0):=rfl;rw[h1,h2,← List.append_assoc,← List.append_assoc];exact List.perm_append_comm.append_right _
 refine⟨L,[{ target:=.collected D,args:=#[] }],W1,{ target:=.fn (.func gf) lb.toArray,args:=#[.func (.yield L) #[] #[]] },W1,gf,(.func (.yield L) #[] #[]::lb).toArray,W1,?_,?_,fun _ _=>trivial,?_,fun h=>(by cases h),?_⟩
 ·rw[← hW1,hrec,hL,hD]; exact run_enterLoop_outer _ _ _ _ _
 ·have h1:a.eval gop = .func (.func gf) #[] lb.toArray:=ha.ev hg;simp only[resolve,h1];simp[go_sem]
 ·have:(#[.func (.yield L) #[] #[]]++lb.toArray:Array Value)=(.func (.yield L) #[] #[]::lb).toArray:=by simp
  simp[invoke,go_sem,eg]
 ·refine (callsIn_wide (n:=0 - 1)).2 ((hseq L ι G S2 J i0 h0 hmono ?_ [] W1 hA2).mono ?_)
  ·intro pre x suf i sx hxs hJ W hW;rw[hS2] at hW;simp only[List.append_assoc,List.cons_append] at hW;have hlen:(S i).length=(S i).length:=rfl;have gl:∀ (i:ι) (u u':Ent) (r:Own),(S i++u::u'::r)[(S i).length]?=some u:=fun i u u' r=>by simp
   have hl:=hW.here (gl i _ _ _);have hy:=run_yield (P:=P) (args:=(encs x).toArray) hl (by rw[hrec]; simpa using hps x);rw[hrec] at hy;refine⟨fn,_,assign,body,hy,roundIn_of_wpIn trivial ?_⟩;refine Code.wpIn_mono (fun e a1 w1 h1=>?_) (hassign L pre x i _ hJ { tmps:=(ps.zip (encs x).toArray).foldl (fun t (p,v)=>t.setIfInBounds p v) a.tmps,defers:=[] } W ⟨I,hfa x a ha.2⟩ hW);obtain ⟨rfl,ha1,hw1⟩:=h1;have hl1:=hw1.here (gl i _ _ _);refine⟨_,run_beginRound hl1 (by rw[hrec]),?_⟩;have hset:∀ (i:ι) (u u' v:Ent) (r:Own),(S i++u::u'::r).set (S i).length v=S i++v::u'::r:=fun i u u' v r=>by simp
   have hw2:=hw1.obj (o':=.loop { rec .ready none with state:=.busy }) (gl i _ _ _);rw[hset] at hw2;refine Code.wpIn_mono (fun e a3 w3 h3=>?_) (hbody L pre x suf i _ hxs hJ a1 _ ha1 hw2);obtain ⟨rfl,j,hw3,hJ3⟩:=h3;have hl3:=hw3.here (gl j _ _ _);have he:=run_endRound (P:=P) none hl3;have hw4:=hw3.obj (o':=.loop { (rec .ready none) with state:=.ready,pending:=none }) (gl j _ _ _);rw[hset] at hw4;refine⟨_,_,he,.bool true,G j,S2 j++sx,I,?_,I,j,hJ3,I,I⟩;rw[hS2];simp only[List.append_assoc,List.cons_append];rw[hrec] at hw4 ⊢;exact hw4
  ·rintro e W2 ⟨v,g',s',rfl,hat,j,hJ,rfl,rfl⟩;rw[hS2,List.append_nil] at hat;have gl:∀ (i:ι) (u u':Ent) (r:Own),(S i++u::u'::r)[(S i).length]?=some u:=fun i u u' r=>by simp
   have hl:=hat.here (gl j _ _ _);have he:=run_endLoop (P:=P) hl (by rw[hrec]; simp);have h2:=hat.obj (o':=.loop { (rec .ready none) with state:=.exhausted }) (gl j _ _ _);have hset:∀ (i:ι) (u u' v:Ent) (r:Own),(S i++u::u'::r).set (S i).length v=S i++v::u'::r:=fun i u u' v r=>by simp
   rw[hset] at h2;have hpn:(rec .ready none).pending=none:=by rw[hrec]
   refine⟨none,_,he.trans (congrArg (fun p=>Result.ok p _) hpn),?_⟩;refine hdone D j hJ _ _ ⟨by rw[← ha.1]; rfl,ha.2⟩ ?_;have h3:=(h2.sublist (s':=S j++pt D (.deferred (some []))::sx0) (by exact (List.Sublist.refl _).append (List.sublist_cons_self _ _))).perm List.perm_middle;exact h3
end
end Go.Sy
namespace Go.Sy
open Go
section
variable {P:Program}{M:Md}{N:Nat}{E:World}{Q:Exit→Act→World→Prop}{f:Fr}{g:PH}{s:Own}{dst:Option Tmp}{ty:TypeId}{pos:String}{af:Array Edge}{gd:Option (Nat×Bool)}
theorem run_enter_in {w:World}{l₀:Nat}{r₀:Loop}(h:w.heap[l₀]?=some (.loop r₀))(fn:FuncId)(tmps:Array Value)(ps:Array Tmp)(assign body:Code) :
  (Instr.enterLoop fn tmps ps assign body (some l₀)).run P w = .ok (w.heap.size,[]) (w.alloc (.loop { state:=.ready,pending:=none,fn,tmps,params:=ps,assign,body,defers:=r₀.defers })):=by
 unfold Instr.enterLoop;simp only[Sem.run_bind,run_getLoop h,run_newObj_alloc,Result.andThen,Sem.run_pure]
theorem XC.rangeFuncH {α ι:Type}{gop:Operand}{ps:Array Tmp}{assign body:Code}{gf:FuncId}{lb:List Value}{encs:α→List Value}{xs:List α}{g0:PH}(G:ι→PH)(S:ι→Own)(J:List α→ι→Prop)(i0:ι)(sx0:Own)(fa:α→Fr)(fb:List α→α→ι→Fr)
  (hro:M.ro=none) (hg:ev f gop=some (.func (.func gf) #[] lb.toArray)) (eg:∀ args w,(callFunc gf args).run P w = .ok (.enter gf args) w) (hps:∀ x,(encs x).length=ps.size)
  (hG:G i0=g) (hS:S i0++sx0=s) (hseq:Gives P E gf lb encs xs g0) (hmono:∀ pre i,J pre i→Le g0 (G i)) (h0:J [] i0)
  (hfa:∀ x a,Ok N f (bare a)→Ok N (fa x) { tmps:=(ps.zip (encs x).toArray).foldl (fun t (p,v)=>t.setIfInBounds p v) a.tmps,defers:=[] })
  (hassign:∀ l pre x i sx,J pre i→XC P ⟨some l,[]⟩ N E assign (AssignEnd (N:=N) E (G i) (S i++sx) (fb pre x i)) (fa x) (G i) (S i++sx))
  (hbody:∀ l pre x suf i sx,(∃ (r:Loop) (k:Nat),sx[k]?=some (pt l (.loop r)))→xs=pre++x::suf→J pre i→XC P ⟨some l,[]⟩ N E body (RoundEnd E G S J pre x sx) (fb pre x i) (G i) (S i++sx))
  (hdone:∀ D j,J xs j→XT ⟨none,⟨.collected D,#[]⟩::M.ds⟩ N E Q .normal f (G j) (pt D (.deferred (some []))::(S j++sx0))):XC P M N E (.rangeFunc gop ps assign body) Q f g s:=by
 subst hG hS;intro a w ha hw;rw[hro];refine wpIn_rangeFunc ?_;intro fn _;obtain ⟨rec,hrec⟩:∃ rec:LoopState→Option Code→Loop,rec=fun st pe=>{ state:=st,pending:=pe,fn,tmps:=a.tmps,params:=ps,assign,body,defers:=w.heap.size }:=⟨_,rfl⟩;obtain ⟨L,hL⟩:∃ L,L=w.heap.size+1:=⟨_,rfl⟩;obtain ⟨D,hD⟩:∃ D,D=w.heap.size:=⟨_,rfl⟩;obtain ⟨W1,hW1⟩:∃ W1,(w.alloc (.deferred (some []))).alloc (.loop (rec .ready none))=W1:=⟨_,rfl⟩;have hA:At E (G i0) (pt L (.loop (rec .ready none))::pt D (.deferred (some []))::(S i0++sx0)) W1:=by
  rw[← hW1,hL,hD];have h1:At E (G i0) (pt w.heap.size (.deferred (some []))::(S i0++sx0)) (w.alloc (.deferred (some []))):=hw.alloc (e:=pt w.heap.size (.deferred (some []))) rfl rfl;have h2:=h1.alloc (e:=pt (w.alloc (.deferred (some []))).heap.size (.loop (rec .ready none))) rfl rfl;rw[World.size_alloc] at h2;exact h2
 obtain ⟨S2,hS2⟩:∃ S2:ι→Own,S2=fun i=>S i++(pt L (.loop (rec .ready none))::pt D (.deferred (some []))::sx0):=⟨_,rfl⟩;have hA2:At E (G i0) (S2 i0++[]) W1:=by
  rw[hS2,List.append_nil];dsimp only;refine hA.perm ?_;have h1:(pt L (.loop (rec .ready none))::pt D (.deferred (some []))::(S i0++sx0))=[pt L (.loop (rec .ready none)),pt D (.deferred (some []))]++(S i0++sx0):=rfl;have h2:S i0++(pt L (.loop (rec .ready none))::pt D (.deferred (some []))::sx0)=S i0++([pt L (.loop (rec .ready none)),pt D (.deferred (some []))]++sx0):=rfl;rw[h1,h2,← List.append_assoc,← List.append_assoc];exact List.perm_append_comm.append_right _
 refine⟨L,[{ target:=.collected D,args:=#[] }],W1,{ target:=.fn (.func gf) lb.toArray,args:=#[.func (.yield L) #[] #[]] },W1,gf,(.func (.yield L) #[] #[]::lb).toArray,W1,?_,?_,fun _ _=>trivial,?_,fun h=>(by cases h),?_⟩
 ·rw[← hW1,hrec,hL,hD]; exact run_enterLoop_outer _ _ _ _ _
 ·have h1:a.eval gop = .func (.func gf) #[] lb.toArray:=ha.ev hg;simp only[resolve,h1];simp[go_sem]
 ·have:(#[.func (.yield L) #[] #[]]++lb.toArray:Array Value)=(.func (.yield L) #[] #[]::lb).toArray:=by simp
  simp[invoke,go_sem,eg]
 ·refine (callsIn_wide (n:=0 - 1)).2 ((hseq L ι G S2 J i0 h0 hmono ?_ [] W1 hA2).mono ?_)
  ·intro pre x suf i sx hxs hJ W hW;rw[hS2] at hW;simp only[List.append_assoc,List.cons_append] at hW;have hlen:(S i).length=(S i).length:=rfl;have gl:∀ (i:ι) (u u':Ent) (r:Own),(S i++u::u'::r)[(S i).length]?=some u:=fun i u u' r=>by simp
   have hl:=hW.here (gl i _ _ _);have hy:=run_yield (P:=P) (args:=(encs x).toArray) hl (by rw[hrec]; simpa using hps x);rw[hrec] at hy;refine⟨fn,_,assign,body,hy,roundIn_of_wpIn trivial ?_⟩;refine Code.wpIn_mono (fun e a1 w1 h1=>?_) (hassign L pre x i _ hJ { tmps:=(ps.zip (encs x).toArray).foldl (fun t (p,v)=>t.setIfInBounds p v) a.tmps,defers:=[] } W ⟨I,hfa x a ha.2⟩ hW);obtain ⟨rfl,ha1,hw1⟩:=h1;have hl1:=hw1.here (gl i _ _ _);refine⟨_,run_beginRound hl1 (by rw[hrec]),?_⟩;have hset:∀ (i:ι) (u u' v:Ent) (r:Own),(S i++u::u'::r).set (S i).length v=S i++v::u'::r:=fun i u u' v r=>by simp
   have hw2:=hw1.obj (o':=.loop { rec .ready none with state:=.busy }) (gl i _ _ _);rw[hset] at hw2;refine Code.wpIn_mono (fun e a3 w3 h3=>?_) (hbody L pre x suf i _ ⟨_,0,I⟩ hxs hJ a1 _ ha1 hw2);obtain ⟨rfl,j,hw3,hJ3⟩:=h3;have hl3:=hw3.here (gl j _ _ _);have he:=run_endRound (P:=P) none hl3;have hw4:=hw3.obj (o':=.loop { (rec .ready none) with state:=.ready,pending:=none }) (gl j _ _ _);rw[hset] at hw4;refine⟨_,_,he,.bool true,G j,S2 j++sx,I,?_,I,j,hJ3,I,I⟩;rw[hS2];simp only[List.append_assoc,List.cons_append];rw[hrec] at hw4 ⊢;exact hw4
  ·rintro e W2 ⟨v,g',s',rfl,hat,j,hJ,rfl,rfl⟩;rw[hS2,List.append_nil] at hat;have gl:∀ (i:ι) (u u':Ent) (r:Own),(S i++u::u'::r)[(S i).length]?=some u:=fun i u u' r=>by simp
   have hl:=hat.here (gl j _ _ _);have he:=run_endLoop (P:=P) hl (by rw[hrec]; simp);have h2:=hat.obj (o':=.loop { (rec .ready none) with state:=.exhausted }) (gl j _ _ _);have hset:∀ (i:ι) (u u' v:Ent) (r:Own),(S i++u::u'::r).set (S i).length v=S i++v::u'::r:=fun i u u' v r=>by simp
   rw[hset] at h2;have hpn:(rec .ready none).pending=none:=by rw[hrec]
   refine⟨none,_,he.trans (congrArg (fun p=>Result.ok p _) hpn),?_⟩;refine hdone D j hJ _ _ ⟨by rw[← ha.1]; rfl,ha.2⟩ ?_;have h3:=(h2.sublist (s':=S j++pt D (.deferred (some []))::sx0) (by exact (List.Sublist.refl _).append (List.sublist_cons_self _ _))).perm List.perm_middle;exact h3
theorem XC.rangeFuncIn {α ι:Type}{gop:Operand}{ps:Array Tmp}{assign body:Code}{gf:FuncId}{lb:List Value}{encs:α→List Value}{xs:List α}{g0:PH}(G:ι→PH)(S:ι→Own)(J:List α→ι→Prop)(i0:ι)(sx0:Own)(fa:α→Fr)(fb:List α→α→ι→Fr)
  {l0:Nat} (hro:M.ro=some l0) (hl0:∃ (r:Loop) (k:Nat),s[k]?=some (pt l0 (.loop r))) (hg:ev f gop=some (.func (.func gf) #[] lb.toArray)) (eg:∀ args w,(callFunc gf args).run P w = .ok (.enter gf args) w) (hps:∀ x,(encs x).length=ps.size)
  (hG:G i0=g) (hS:S i0++sx0=s) (hseq:Gives P E gf lb encs xs g0) (hmono:∀ pre i,J pre i→Le g0 (G i)) (h0:J [] i0)
  (hfa:∀ x a,Ok N f (bare a)→Ok N (fa x) { tmps:=(ps.zip (encs x).toArray).foldl (fun t (p,v)=>t.setIfInBounds p v) a.tmps,defers:=[] })
  (hassign:∀ l pre x i sx,J pre i→XC P ⟨some l,[]⟩ N E assign (AssignEnd (N:=N) E (G i) (S i++sx) (fb pre x i)) (fa x) (G i) (S i++sx))
  (hbody:∀ l pre x suf i sx,xs=pre++x::suf→J pre i→XC P ⟨some l,[]⟩ N E body (RoundEnd E G S J pre x sx) (fb pre x i) (G i) (S i++sx))
  (hdone:∀ j,J xs j→XT M N E Q .normal f (G j) (S j++sx0)):XC P M N E (.rangeFunc gop ps assign body) Q f g s:=by
 subst hG hS;intro a w ha hw;obtain ⟨r0,k0,hk0⟩:=hl0;have hr0:w.heap[l0]?=some (.loop r0):=hw.here hk0;refine wpIn_rangeFunc ?_;intro fn _;obtain ⟨rec,hrec⟩:∃ rec:LoopState→Option Code→Loop,rec=fun st pe=>{ state:=st,pending:=pe,fn,tmps:=a.tmps,params:=ps,assign,body,defers:=r0.defers }:=⟨_,rfl⟩;obtain ⟨L,hL⟩:∃ L,L=w.heap.size:=⟨_,rfl⟩;obtain ⟨W1,hW1⟩:∃ W1,w.alloc (.loop (rec .ready none))=W1:=⟨_,rfl⟩;have hA:At E (G i0) (pt L (.loop (rec .ready none))::(S i0++sx0)) W1:=by
  rw[← hW1,hL];exact hw.alloc (e:=pt w.heap.size (.loop (rec .ready none))) I I
 obtain ⟨S2,hS2⟩:∃ S2:ι→Own,S2=fun i=>S i++(pt L (.loop (rec .ready none))::sx0):=⟨_,rfl⟩;have hA2:At E (G i0) (S2 i0++[]) W1:=by
  rw[hS2,List.append_nil];exact hA.perm List.perm_middle.symm
 refine⟨L,[],W1,{ target:=.fn (.func gf) lb.toArray,args:=#[.func (.yield L) #[] #[]] },W1,gf,(.func (.yield L) #[] #[]::lb).toArray,W1,?_,?_,fun _ _=>trivial,?_,fun h=>(by cases h),?_⟩
 ·rw[← hW1,hrec,hL];have:=run_enter_in (P:=P) hr0 fn a.tmps ps assign body;rw[show (wf M.ro).round=some l0 from hro];exact this
 ·have h1:a.eval gop = .func (.func gf) #[] lb.toArray:=ha.ev hg;simp only[resolve,h1];simp[go_sem]
 ·have:(#[.func (.yield L) #[] #[]]++lb.toArray:Array Value)=(.func (.yield L) #[] #[]::lb).toArray:=by simp
  simp[invoke,go_sem,eg]
 ·refine (callsIn_wide (n:=0 - 1)).2 ((hseq L ι G S2 J i0 h0 hmono ?_ [] W1 hA2).mono ?_)
  ·intro pre x suf i sx hxs hJ W hW;rw[hS2] at hW;simp only[List.append_assoc,List.cons_append] at hW;have gl:∀ (i:ι) (u:Ent) (r:Own),(S i++u::r)[(S i).length]?=some u:=fun i u r=>by simp
   have hl:=hW.here (gl i _ _);have hy:=run_yield (P:=P) (args:=(encs x).toArray) hl (by rw[hrec]; simpa using hps x);rw[hrec] at hy;refine⟨fn,_,assign,body,hy,roundIn_of_wpIn trivial ?_⟩;refine Code.wpIn_mono (fun e a1 w1 h1=>?_) (hassign L pre x i _ hJ { tmps:=(ps.zip (encs x).toArray).foldl (fun t (p,v)=>t.setIfInBounds p v) a.tmps,defers:=[] } W ⟨I,hfa x a ha.2⟩ hW);obtain ⟨rfl,ha1,hw1⟩:=h1;have hl1:=hw1.here (gl i _ _);refine⟨_,run_beginRound hl1 (by rw[hrec]),?_⟩;have hset:∀ (i:ι) (u v:Ent) (r:Own),(S i++u::r).set (S i).length v=S i++v::r:=fun i u v r=>by simp
   have hw2:=hw1.obj (o':=.loop { rec .ready none with state:=.busy }) (gl i _ _);rw[hset] at hw2;refine Code.wpIn_mono (fun e a3 w3 h3=>?_) (hbody L pre x suf i _ hxs hJ a1 _ ha1 hw2);obtain ⟨rfl,j,hw3,hJ3⟩:=h3;have hl3:=hw3.here (gl j _ _);have he:=run_endRound (P:=P) none hl3;have hw4:=hw3.obj (o':=.loop { (rec .ready none) with state:=.ready,pending:=none }) (gl j _ _);rw[hset] at hw4;refine⟨_,_,he,.bool true,G j,S2 j++sx,I,?_,I,j,hJ3,I,I⟩;rw[hS2];simp only[List.append_assoc,List.cons_append];rw[hrec] at hw4 ⊢;exact hw4
  ·rintro e W2 ⟨v,g',s',rfl,hat,j,hJ,rfl,rfl⟩;rw[hS2,List.append_nil] at hat;have gl:∀ (i:ι) (u:Ent) (r:Own),(S i++u::r)[(S i).length]?=some u:=fun i u r=>by simp
   have hl:=hat.here (gl j _ _);have he:=run_endLoop (P:=P) hl (by rw[hrec]; simp);have h2:=hat.obj (o':=.loop { (rec .ready none) with state:=.exhausted }) (gl j _ _);have hset:∀ (i:ι) (u v:Ent) (r:Own),(S i++u::r).set (S i).length v=S i++v::r:=fun i u v r=>by simp
   rw[hset] at h2;have hpn:(rec .ready none).pending=none:=by rw[hrec]
   refine⟨none,_,he.trans (congrArg (fun p=>Result.ok p _) hpn),?_⟩;refine hdone j hJ _ _ ⟨by rw[← ha.1]; rfl,ha.2⟩ ?_;exact h2.sublist ((List.Sublist.refl _).append (List.sublist_cons_self _ _))
end
end Go.Sy
namespace Go.Sy
open Go
section
variable {P:Program}{M:Md}{N:Nat}{E:World}{Q:Exit→Act→World→Prop}{f:Fr}{g:PH}{s:Own}{dst:Option Tmp}{ty:TypeId}{pos:String}{af:Array Edge}{gd:Option (Nat×Bool)}
def AssignEndA {κ:Type}{N:Nat}(E:World)(g:PH)(s:Own)(fb:κ→Fr)(X:κ→Own):Exit→Act→World→Prop:=fun e a' w'=>e = .normal∧∃ q,Okd [] N (fb q) a'∧At E g (X q++s) w'
theorem XT.assignEndA {κ:Type}{fb:κ→Fr}{X:κ→Own}{ro:Option Nat}{s0:Own}(q:κ)(hf:Sub (fb q) f)(hs:X q++s0=s):XT ⟨ro,[]⟩ N E (AssignEndA (N:=N) E g s0 fb X) .normal f g s:=fun _ _ ha hw=>⟨rfl,q,ha.sub hf,by rw[hs]; exact hw⟩
theorem XC.rangeFuncA {α ι κ:Type}{gop:Operand}{ps:Array Tmp}{assign body:Code}{gf:FuncId}{lb:List Value}{encs:α→List Value}{xs:List α}{g0:PH}(G:ι→PH)(S:ι→Own)(J:List α→ι→Prop)(i0:ι)(sx0:Own)(fa:α→Fr)(fb:List α→α→ι→κ→Fr)(X:α→κ→Own)
  (hro:M.ro=none) (hg:ev f gop=some (.func (.func gf) #[] lb.toArray)) (eg:∀ args w,(callFunc gf args).run P w = .ok (.enter gf args) w) (hps:∀ x,(encs x).length=ps.size)
  (hG:G i0=g) (hS:S i0++sx0=s) (hseq:Gives P E gf lb encs xs g0) (hmono:∀ pre i,J pre i→Le g0 (G i)) (h0:J [] i0)
  (hfa:∀ x a,Ok N f (bare a)→Ok N (fa x) { tmps:=(ps.zip (encs x).toArray).foldl (fun t (p,v)=>t.setIfInBounds p v) a.tmps,defers:=[] })
  (hassign:∀ l pre x i sx,J pre i→XC P ⟨some l,[]⟩ N E assign (AssignEndA (N:=N) E (G i) (S i++sx) (fb pre x i) (X x)) (fa x) (G i) (S i++sx))
  (hbody:∀ l pre x suf i sx q,(∃ (r:Loop) (k:Nat),sx[k]?=some (pt l (.loop r)))→xs=pre++x::suf→J pre i→XC P ⟨some l,[]⟩ N E body (RoundEnd E G S J pre x sx) (fb pre x i q) (G i) (X x q++(S i++sx)))
  (hdone:∀ D j,J xs j→XT ⟨none,⟨.collected D,#[]⟩::M.ds⟩ N E Q .normal f (G j) (pt D (.deferred (some []))::(S j++sx0))):XC P M N E (.rangeFunc gop ps assign body) Q f g s:=by
 subst hG hS;intro a w ha hw;rw[hro];refine wpIn_rangeFunc ?_;intro fn _;obtain ⟨rec,hrec⟩:∃ rec:LoopState→Option Code→Loop,rec=fun st pe=>{ state:=st,pending:=pe,fn,tmps:=a.tmps,params:=ps,assign,body,defers:=w.heap.size }:=⟨_,rfl⟩;obtain ⟨L,hL⟩:∃ L,L=w.heap.size+1:=⟨_,rfl⟩;obtain ⟨D,hD⟩:∃ D,D=w.heap.size:=⟨_,rfl⟩;obtain ⟨W1,hW1⟩:∃ W1,(w.alloc (.deferred (some []))).alloc (.loop (rec .ready none))=W1:=⟨_,rfl⟩;have hA:At E (G i0) (pt L (.loop (rec .ready none))::pt D (.deferred (some []))::(S i0++sx0)) W1:=by
  rw[← hW1,hL,hD];have h1:At E (G i0) (pt w.heap.size (.deferred (some []))::(S i0++sx0)) (w.alloc (.deferred (some []))):=hw.alloc (e:=pt w.heap.size (.deferred (some []))) rfl rfl;have h2:=h1.alloc (e:=pt (w.alloc (.deferred (some []))).heap.size (.loop (rec .ready none))) rfl rfl;rw[World.size_alloc] at h2;exact h2
 obtain ⟨S2,hS2⟩:∃ S2:ι→Own,S2=fun i=>S i++(pt L (.loop (rec .ready none))::pt D (.deferred (some []))::sx0):=⟨_,rfl⟩;have hA2:At E (G i0) (S2 i0++[]) W1:=by
  rw[hS2,List.append_nil];dsimp only;refine hA.perm ?_;have h1:(pt L (.loop (rec .ready none))::pt D (.deferred (some []))::(S i0++sx0))=[pt L (.loop (rec .ready none)),pt D (.deferred (some []))]++(S i0++sx0):=rfl;have h2:S i0++(pt L (.loop (rec .ready none))::pt D (.deferred (some []))::sx0)=S i0++([pt L (.loop (rec .ready none)),pt D (.deferred (some []))]++sx0):=rfl;rw[h1,h2,← List.append_assoc,← List.append_assoc];exact List.perm_append_comm.append_right _
 refine⟨L,[{ target:=.collected D,args:=#[] }],W1,{ target:=.fn (.func gf) lb.toArray,args:=#[.func (.yield L) #[] #[]] },W1,gf,(.func (.yield L) #[] #[]::lb).toArray,W1,?_,?_,fun _ _=>trivial,?_,fun h=>(by cases h),?_⟩
 ·rw[← hW1,hrec,hL,hD]; exact run_enterLoop_outer _ _ _ _ _
 ·have h1:a.eval gop = .func (.func gf) #[] lb.toArray:=ha.ev hg;simp only[resolve,h1];simp[go_sem]
 ·have:(#[.func (.yield L) #[] #[]]++lb.toArray:Array Value)=(.func (.yield L) #[] #[]::lb).toArray:=by simp
  simp[invoke,go_sem,eg]
 ·refine (callsIn_wide (n:=0 - 1)).2 ((hseq L ι G S2 J i0 h0 hmono ?_ [] W1 hA2).mono ?_)
  ·intro pre x suf i sx hxs hJ W hW;rw[hS2] at hW;simp only[List.append_assoc,List.cons_append] at hW;have hlen:(S i).length=(S i).length:=rfl;have gl:∀ (i:ι) (u u':Ent) (r:Own),(S i++u::u'::r)[(S i).length]?=some u:=fun i u u' r=>by simp
   have hl:=hW.here (gl i _ _ _);have hy:=run_yield (P:=P) (args:=(encs x).toArray) hl (by rw[hrec]; simpa using hps x);rw[hrec] at hy;refine⟨fn,_,assign,body,hy,roundIn_of_wpIn trivial ?_⟩;refine Code.wpIn_mono (fun e a1 w1 h1=>?_) (hassign L pre x i _ hJ { tmps:=(ps.zip (encs x).toArray).foldl (fun t (p,v)=>t.setIfInBounds p v) a.tmps,defers:=[] } W ⟨I,hfa x a ha.2⟩ hW);obtain ⟨rfl,q,ha1,hw1⟩:=h1;have glX:∀ (X:Own) (i:ι) (u u':Ent) (r:Own),(X++(S i++u::u'::r))[X.length+(S i).length]?=some u:=fun X i u u' r=>by rw[List.getElem?_append_right oM,Nat.add_sub_cancel_left]; exact gl i u u' r
   have hl1:=hw1.here (glX _ i _ _ _);refine⟨_,run_beginRound hl1 (by rw[hrec]),?_⟩;have hset:∀ (i:ι) (u u' v:Ent) (r:Own),(S i++u::u'::r).set (S i).length v=S i++v::u'::r:=fun i u u' v r=>by simp
   have hsetX:∀ (X:Own) (i:ι) (u u' v:Ent) (r:Own),(X++(S i++u::u'::r)).set (X.length+(S i).length) v=X++(S i++v::u'::r):=fun X i u u' v r=>by rw[List.set_append_right _ _ oM,Nat.add_sub_cancel_left,hset]
   have hw2:=hw1.obj (o':=.loop { rec .ready none with state:=.busy }) (glX _ i _ _ _);rw[hsetX] at hw2;refine Code.wpIn_mono (fun e a3 w3 h3=>?_) (hbody L pre x suf i _ q ⟨_,0,I⟩ hxs hJ a1 _ ha1 hw2);obtain ⟨rfl,j,hw3,hJ3⟩:=h3;have hl3:=hw3.here (gl j _ _ _);have he:=run_endRound (P:=P) none hl3;have hw4:=hw3.obj (o':=.loop { (rec .ready none) with state:=.ready,pending:=none }) (gl j _ _ _);rw[hset] at hw4;refine⟨_,_,he,.bool true,G j,S2 j++sx,I,?_,I,j,hJ3,I,I⟩;rw[hS2];simp only[List.append_assoc,List.cons_append];rw[hrec] at hw4 ⊢;exact hw4
  ·rintro e W2 ⟨v,g',s',rfl,hat,j,hJ,rfl,rfl⟩;rw[hS2,List.append_nil] at hat;have gl:∀ (i:ι) (u u':Ent) (r:Own),(S i++u::u'::r)[(S i).length]?=some u:=fun i u u' r=>by simp
   have hl:=hat.here (gl j _ _ _);have he:=run_endLoop (P:=P) hl (by rw[hrec]; simp);have h2:=hat.obj (o':=.loop { (rec .ready none) with state:=.exhausted }) (gl j _ _ _);have hset:∀ (i:ι) (u u' v:Ent) (r:Own),(S i++u::u'::r).set (S i).length v=S i++v::u'::r:=fun i u u' v r=>by simp
   rw[hset] at h2;have hpn:(rec .ready none).pending=none:=by rw[hrec]
   refine⟨none,_,he.trans (congrArg (fun p=>Result.ok p _) hpn),?_⟩;refine hdone D j hJ _ _ ⟨by rw[← ha.1]; rfl,ha.2⟩ ?_;have h3:=(h2.sublist (s':=S j++pt D (.deferred (some []))::sx0) (by exact (List.Sublist.refl _).append (List.sublist_cons_self _ _))).perm List.perm_middle;exact h3
end
end Go.Sy
namespace Go.Proofs.YteahknngoogpaaaGreatDoor
open _root_.Go.Proofs.Tryz _root_.Go.Proofs.YteahknngoogpaaaGreatDoor.Tryz
open Go Go.Sy Go.Pl Go.Proofs
set_option maxRecDepth 100000
set_option maxHeartbeats 1000000
theorem filt_succ {α β:Type}{l:List α}{k:Nat}(h:k<l.length)(p:α→Bool)(f:α→β):((l.take (k+1)).filter p).map f=((l.take k).filter p).map f++(if p l[k] then [f l[k]] else []):=by
 rw[tS h,List.filter_append,List.map_append];congr 1;simp only[List.filter_cons,List.filter_nil];split <;> rfl
theorem filt_le {α β:Type}(l:List α)(k:Nat)(p:α→Bool)(f:α→β):(((l.take k).filter p).map f).length≤k:=by
 rw[List.length_map];refine Nat.le_trans (List.length_filter_le _ _) ?_;rw[List.length_take]; omega
theorem Tryz.buildE54 (w:World):(Instr.build 54 #[]).run Tryz.prog w = .ok (.agg #[vi 0,vi 0,.slice none 0 0]) w:=by
 simp[Instr.build,Instr.fill];rfl
def idsC (l:List Cl)(d:Int):List Int:=((tabC l).filter fun c=>decide (c.dim=d)).map Cl.id
def maxD:List Cl→Int→Int
 | [],m=>m
 | c::r,m=>maxD r (max m c.dim)
def dimC (l:List Cl):Int:=maxD (tabC l) (-1)
theorem maxD_append (c:Cl):∀ (l:List Cl) (m:Int),maxD (l++[c]) m=max (maxD l m) c.dim
 | [],_=>rfl
 | _::r,_=>maxD_append c r _
theorem SU.maxI {P:Program}{N:Nat}{f:Fr}{dst:Option Tmp}{ty:TypeId}{pos:String}{af:Array Edge}{gd:Option (Nat×Bool)}{x y:Operand}{T U:TypeId}{m n:Int}(hx:ev f x=some (vi m))(hy:ev f y=some (vi n)) :
  SU P N ⟨dst,.call ⟨.builtin .max,#[x,y],#[T,U]⟩,ty,pos,af,gd⟩ f (vi (max m n)):=fun a w ha=>by
 have h:=run_max_int2 (P:=P) (w:=w) #[T,U] ty .i64 .i64 m n;have h2:(if m<n then n else m)=max m n:=by split <;> omega
 rw[h2] at h;simp[execOp,resolve,invoke,builtin,ha.ev hx,ha.ev hy,h]
theorem refIds_spec (E:World)(g:PH)(s:Own)(v:Value)(l:List Cl)(d:Int)(hv:Cells g v l)(hf:Fits l) :
  Ctr Tryz.prog E 18 #[.agg #[v],vi d] g s (fun r g' s'=>s=s'∧Le g g'∧Ints g' r (idsC l d)):=by
 have hft:=tabC_fits hf;have hfl:=hft.1;obtain ⟨p,c,rfl⟩:=hv.form;refine Ctr.of (args:=[.agg #[.slice p l.length c],vi d]) func18 I ntmps18 (bE I) ?_;refine SC.sR (SL.bx (bO I) fun b2=>?_);refine lA I (SL.nT (SC.sR (lA I (SL.nT (SC.sR (lK (qV 0 iT29 zT29 I I I) (lW (SO.call call42 I (refCells_spec E g _ _ l hv hf)) ?_)))))));rintro v9 g1 _ ⟨rfl,hle,hc⟩;obtain ⟨rs,hrs,hall⟩:=hc;obtain ⟨q,dd,rfl⟩:=hrs.form;refine lA I (SL.nT (sQ (SC.sR (lA I (SL.nT (bK ?_))))));have hrl:=hall.length;unfold idsC;generalize tabC l=A at *;refine SC.nilRow 3 1 ?_;refine oP (ι:=Value×Nat) (fun i=>[(1,vi d),(5,i.1),(6,.slice q rs.length dd),(7,vi i.2)]) (fun _=>g1) (fun i=>rowA encInt 3 i.1 (((A.take i.2).filter fun c=>decide (c.dim=d)).map Cl.id)::pt b2 (.cells #[.slice p l.length c] 29 (0,0))::s)
  (fun i=>i.2≤A.length) (fun i=>A.length - i.2) (.slice none 0 0,0) sB rfl rfl (Nat.zero_le _) ?_
 rintro ⟨ov,k⟩ hk;dsimp only at hk ⊢;refine sQ (SC.sR (lM I (lM I (lU (eN uT27 I) (lU (lS I I) (SL.nT ?_))))));refine iP I (fun hlt=>?_) (fun hlt=>?_)
 ·have hkl:k<A.length:=oM;have hkr:k<rs.length:=oM;have hb1:=hrs.based oM;have hcr:=hall.get (gE hkl) (gE hkr);have hgr:rs[((k:Nat):Int).toNat]?=some rs[k]:=gE hkr;have hsucc:=filt_succ hkl (fun c=>decide (c.dim=d)) Cl.id;have hlek:=filt_le A k (fun c=>decide (c.dim=d)) Cl.id;have hxl:=hft.2 _ (gM hkl);generalize A[k]=x at *;generalize rs[k]=r at *;refine kP (tN (sQ (bK (SC.sR (lM rfl (lM rfl (lU (iA uT27 zT54 rfl rfl hb1 oM sL) (lU (fC uT54 rfl zT3 rfl hb1) (lK (pA (e:=encCell) (o:=1) (u:=vi x.dim) iT3 rfl hrs.rd hgr (by rw[← hcr.2.1]; rfl)) ?_)))))))));refine lM I (lU (eQ I I) (SL.nT ?_));refine iP I (fun hd=>?_) (fun hd=>?_)
  ·refine rG (lM rfl (lM rfl (lM rfl (lU (iA uT27 zT54 rfl rfl hb1 oM sL) (lU (fC uT54 rfl zT3 rfl hb1) (lK (pA (e:=encCell) (o:=0) (u:=vi x.id) iT3 rfl hrs.rd hgr (by rw[← hcr.1]; rfl)) ?_))))));refine lW (SO.buildSlice sty22 I I I (szs_mk sB) dC) ?_;rintro _ _ _ ⟨b29,rfl,rfl,rfl⟩;refine lW (aP (e:=encInt) 0 x.id sty22 I I I I I oM oM) ?_;rintro ov' _ _ ⟨rfl,rfl⟩;refine lA I (nL (bN (tN (rG (lM I (lU (aD I I oM) (lA I (nL ?_))))))));refine ST.to (fun w hw=>?_) (g':=g1) (s':=rowA encInt 3 ov' (((A.take (k+1)).filter fun c=>decide (c.dim=d)).map Cl.id)::pt b2 (.cells #[.slice p l.length c] 29 (0,0))::s) ?_
   ·rw[hsucc,if_pos (decide_eq_true hd)]; exact hw
   exact ST.again (ov',k+1) sB I I (by dsimp only; omega) lN
  ·refine kP (bN (tN (rG (lM I (lU (aD I I oM) (lA I (nL ?_)))))));refine ST.to (fun w hw=>?_) (g':=g1) (s':=rowA encInt 3 ov (((A.take (k+1)).filter fun c=>decide (c.dim=d)).map Cl.id)::pt b2 (.cells #[.slice p l.length c] 29 (0,0))::s) ?_
   ·rw[hsucc,if_neg (by rw[decide_eq_false hd]; simp),List.append_nil]; exact hw
   exact ST.again (ov,k+1) sB I I (by dsimp only; omega) lN
 ·have hkk:A.take k=A:=tL oM;rw[hkk];refine xI (tX (tX (bX (tN (SC.sR (lM I (lA I (SL.nT (rE (fT fun g2 hle2 hs2=>?_))))))))));refine dR (s':=s) (.cons _ (.refl _)) ?_;exact ST.ret1 (.inl I) results18 I ⟨I,hle.trans hle2,hs2⟩
theorem refHas_spec (E:World)(g:PH)(s:Own)(c:Cl)(r:Rc)(id:Int)(hc:CellR g c r)(hl:c.sides.length<1099511627776) :
  Ctr Tryz.prog E 88 #[rcv r,vi id] g s (fun x g' s'=>x=vb (hasC c id)∧g=g'∧s=s'):=by
 obtain ⟨ri,rd,⟨rp,rn,rc⟩⟩:=r;have hs:SlA encSide g (.slice rp rn rc) c.sides:=hc.2.2;have hn:rn=c.sides.length:=Sl.slen hs;subst hn;refine Ctr.of (args:=[rcv ⟨ri,rd,⟨rp,c.sides.length,rc⟩⟩,vi id]) func88 I ntmps88 (bE I) ?_;refine SC.sR (SL.bx (bO I) fun b2=>?_);refine lA I (SL.nT (sQ (SC.sR (lA I (SL.nT (bK ?_))))));refine oP (ι:=Nat) (fun k=>[(1,vi id),(2,pp b2 0),(5,vi k)]) (fun _=>g) (fun _=>pt b2 (.cells #[vi ri,vi rd,.slice rp c.sides.length rc] 54 (0,0))::s)
  (fun k=>k≤c.sides.length∧(c.sides.take k).any (fun x=>decide (x.cell=id))=false) (fun k=>c.sides.length - k) 0 sB rfl rfl ⟨Nat.zero_le _,rfl⟩ ?_
 rintro k ⟨hk,hno⟩;refine sQ (SC.sR (lM I (lU (fA uT54 I zT37 I) (lK (qL (v:=.slice rp c.sides.length rc) iT37 I (cO 0 I I)) (lU (eN uT37 I) (lU (lS I I) (SL.nT ?_)))))));refine iP I (fun hlt=>?_) (fun hlt=>?_)
 ·have hkl:k<c.sides.length:=oM;have hb1:=hs.based oM;have hgk:c.sides[((k:Nat):Int).toNat]?=some c.sides[k]:=gE hkl;have htk:(c.sides.take (k+1)).any (fun x=>decide (x.cell=id))=((c.sides.take k).any (fun x=>decide (x.cell=id))||decide (c.sides[k].cell=id)):=by
   rw[tS hkl,List.any_append]; simp
  have hmem:c.sides[k]∈c.sides:=gM hkl;generalize c.sides[k]=x at *;refine kP (tN (sQ (bK (SC.sR (lU (fA uT54 I zT37 I) (lK (qL (v:=.slice rp c.sides.length rc) iT37 I (cO 0 I I)) (lM I (lU (iA uT37 zT56 I I hb1 oM sL) (lU (fC uT56 I zT3 I hb1) (lK (pA (e:=encSide) (o:=0) (u:=vi x.cell) iT3 I hs.rd hgk I) (lM I (lU (eQ I I) (SL.nT ?_)))))))))))));refine iP I (fun he=>?_) (fun he=>?_)
  ·refine SC.sR (lA I (SL.nT (rE (bR (tR (tR (bR (tR (dR (s':=s) (.cons _ (.refl _)) ?_)))))))));exact ST.ret1 (.inl I) results88 I ⟨by rw[show hasC c id=true from List.any_eq_true.2 ⟨x,hmem,decide_eq_true he⟩],I,I⟩
  ·refine kP (bN (tN (rG (lM I (lU (aD I I oM) (lA I (nL ?_)))))));exact ST.again (k+1) sB rfl rfl ⟨oM,by rw[htk,hno,decide_eq_false he]; rfl⟩ oM
 ·have hkk:c.sides.take k=c.sides:=tL oM;rw[hkk] at hno;refine xI (tX (tX (bX (tN (SC.sR (lA I (SL.nT (rE (dR (s':=s) (.cons _ (.refl _)) ?_)))))))));exact ST.ret1 (.inl I) results88 I ⟨by rw[show hasC c id=false from hno],I,I⟩
theorem refAbove_spec (E:World)(g:PH)(s:Own)(v:Value)(l:List Cl)(id:Int)(hv:Cells g v l)(hf:Fits l) :
  Ctr Tryz.prog E 54 #[.agg #[v],vi id] g s (fun r g' s'=>s=s'∧Le g g'∧Ints g' r (aboveC l id)):=by
 have hft:=tabC_fits hf;have hfl:=hft.1;obtain ⟨p,c,rfl⟩:=hv.form;refine Ctr.of (args:=[.agg #[.slice p l.length c],vi id]) func54 I ntmps54 (bE I) ?_;refine SC.sR (SL.bx (bO I) fun b2=>?_);refine lA I (SL.nT (SC.sR (lA I (SL.nT (SC.sR (lK (qV 0 iT29 zT29 I I I) (lW (SO.call call42 I (refCells_spec E g _ _ l hv hf)) ?_)))))));rintro v9 g1 _ ⟨rfl,hle,hc⟩;obtain ⟨rs,hrs,hall⟩:=hc;obtain ⟨q,dd,rfl⟩:=hrs.form;refine lA I (SL.nT (sQ (SC.sR (lA I (SL.nT (bK ?_))))));have hrl:=hall.length;unfold aboveC;generalize tabC l=A at *;refine SC.nilRow 3 1 ?_;refine oP (ι:=Value×Nat) (fun i=>[(1,vi id),(5,i.1),(6,.slice q rs.length dd),(7,vi i.2)]) (fun _=>g1) (fun i=>rowA encInt 3 i.1 (((A.take i.2).filter fun c=>hasC c id).map Cl.id)::pt b2 (.cells #[.slice p l.length c] 29 (0,0))::s)
  (fun i=>i.2≤A.length) (fun i=>A.length - i.2) (.slice none 0 0,0) sB rfl rfl (Nat.zero_le _) ?_
 rintro ⟨ov,k⟩ hk;dsimp only at hk ⊢;refine sQ (SC.sR (lM I (lM I (lU (eN uT27 I) (lU (lS I I) (SL.nT ?_))))));refine iP I (fun hlt=>?_) (fun hlt=>?_)
 ·have hkl:k<A.length:=oM;have hkr:k<rs.length:=oM;have hb1:=hrs.based oM;have hcr:=hall.get (gE hkl) (gE hkr);have hgr:rs[((k:Nat):Int).toNat]?=some rs[k]:=gE hkr;have hsucc:=filt_succ hkl (fun c=>hasC c id) Cl.id;have hlek:=filt_le A k (fun c=>hasC c id) Cl.id;have hxl:=hft.2 _ (gM hkl);generalize A[k]=x at *;generalize rs[k]=r at *;refine kP (tN (sQ (bK (SC.sR (lM I (lM I (lU (iA uT27 zT54 I I hb1 oM sL) (lK (eA iT54 zT54 I hrs.rd hgr) (lM I (lW (SO.call call88 I (refHas_spec E g1 _ x r id hcr hxl)) ?_))))))))));rintro _ _ _ ⟨rfl,rfl,rfl⟩;refine SL.nT ?_;refine iQ I (fun hd=>?_) (fun hd=>?_)
  ·refine rG (lM rfl (lM rfl (lM rfl (lU (iA uT27 zT54 rfl rfl hb1 oM sL) (lU (fC uT54 rfl zT3 rfl hb1) (lK (pA (e:=encCell) (o:=0) (u:=vi x.id) iT3 rfl hrs.rd hgr (by rw[← hcr.1]; rfl)) ?_))))));refine lW (SO.buildSlice sty22 I I I (szs_mk sB) dC) ?_;rintro _ _ _ ⟨b28,rfl,rfl,rfl⟩;refine lW (aP (e:=encInt) 0 x.id sty22 I I I I I oM oM) ?_;rintro ov' _ _ ⟨rfl,rfl⟩;refine lA I (nL (bN (tN (rG (lM I (lU (aD I I oM) (lA I (nL ?_))))))));refine ST.to (fun w hw=>?_) (g':=g1) (s':=rowA encInt 3 ov' (((A.take (k+1)).filter fun c=>hasC c id).map Cl.id)::pt b2 (.cells #[.slice p l.length c] 29 (0,0))::s) ?_
   ·rw[hsucc,if_pos (hd)]; exact hw
   exact ST.again (ov',k+1) sB I I (by dsimp only; omega) lN
  ·refine kP (bN (tN (rG (lM I (lU (aD I I oM) (lA I (nL ?_)))))));refine ST.to (fun w hw=>?_) (g':=g1) (s':=rowA encInt 3 ov (((A.take (k+1)).filter fun c=>hasC c id).map Cl.id)::pt b2 (.cells #[.slice p l.length c] 29 (0,0))::s) ?_
   ·rw[hsucc,if_neg (by rw[hd]; simp),List.append_nil]; exact hw
   exact ST.again (ov,k+1) sB I I (by dsimp only; omega) lN
 ·have hkk:A.take k=A:=tL oM;rw[hkk];refine xI (tX (tX (bX (tN (SC.sR (lM I (lA I (SL.nT (rE (fT fun g2 hle2 hs2=>?_))))))))));refine dR (s':=s) (.cons _ (.refl _)) ?_;exact ST.ret1 (.inl I) results54 I ⟨I,hle.trans hle2,hs2⟩
theorem refFind_spec (E:World)(g:PH)(s:Own)(v:Value)(l:List Cl)(id:Int)(hv:Cells g v l)(hf:Fits l) :
  Ctr Tryz.prog E 68 #[.agg #[v],vi id] g s (fun r g' s'=>s=s'∧Le g g'∧∃ x,r = .tuple #[rcv x,vb (findC l id).isSome]∧CellR g' ((findC l id).getD zeroC) x):=by
 have hft:=tabC_fits hf;have hfl:=hft.1;obtain ⟨p,c,rfl⟩:=hv.form;have hsrt:=tabC_sorted l;have hnd:=tabC_nodup l;refine Ctr.of (args:=[.agg #[.slice p l.length c],vi id]) func68 I ntmps68 (bE I) ?_;refine SC.sR (SL.bx (bO I) fun b2=>?_);refine SL.bx (aL zeroValue54) fun b4=>?_;refine lA I (SL.nT (SC.sR (lK (qV 1 iT29 zT29 I I I) (lW (SO.call call42 I (refCells_spec E g _ _ l hv hf)) ?_))));rintro v9 g1 _ ⟨rfl,hle,hc⟩;obtain ⟨rs,hrs,hall⟩:=hc;have hcs:Cells g1 _ (tabC l):=⟨rs,hrs,hall⟩;obtain ⟨q,dd,rfl⟩:=hrs.form;refine lA I (SL.nT (SC.sR (lM I (lM I (lW (SO.call call62 I (at_spec E g1 _ _ (tabC l) id hcs hfl hsrt)) ?_)))));rintro _ _ _ ⟨rfl,rfl,rfl⟩;refine lA I (SL.nT (sQ (SC.sR (lM I (lU (lS I I) (SL.nT ?_))))));have hrl:=hall.length;unfold findC;generalize tabC l=A at *;have haf:=at_find hsrt id;refine iP I (fun hneg=>?_) (fun hneg=>?_)
 ·rcases haf with ⟨h1,h2⟩ | ⟨x,k,h1,h2,h3⟩
  ·have hno:(A.find? fun c=>decide (c.id=id))=none:=h1;refine SC.sR (lU (SU.build I (buildE54)) (SL.O2 (sK 0 zT54 I I I I I sB) ?_));refine lA I (SL.nT (rE (tR ?_)));exact ST.retCD1 0 s (.inl rfl) results68 rfl rfl iT54 zT54 rfl rfl (.cons _ (.cons _ (.refl _))) ⟨rfl,hle,zeroR,by rw[hno]; rfl,by rw[hno]; exact zeroCR g1⟩
  ·rw[h2] at hneg; omega
 ·rcases haf with ⟨h1,h2⟩ | ⟨x,k,h1,h2,h3⟩
  ·rw[h2] at hneg; omega
  ·have hyes:(A.find? fun c=>decide (c.id=id))=some x:=h1;rw[h2];have hkl:k<A.length:=(List.getElem?_eq_some_iff.1 h3).1;have hkr:k<rs.length:=oM;have hb1:=hrs.based oM;have hcr:=hall.get h3 (gE hkr);have hgr:rs[((k:Nat):Int).toNat]?=some rs[k]:=gE hkr;generalize rs[k]=r at *;obtain ⟨ri,rd,⟨rp,rn,rc⟩⟩:=r;refine kP (tN (SC.sR (lM I (lM I (lU (iA uT27 zT54 I I hb1 oM sL) (lK (eA iT54 zT54 I hrs.rd hgr) (SL.O2 (sK 0 zT54 I I I I I sB) ?_)))))));refine lA I (SL.nT (rE ?_));exact ST.retCD1 0 s (.inl rfl) results68 rfl rfl iT54 zT54 rfl rfl (.cons _ (.cons _ (.refl _))) ⟨rfl,hle,⟨ri,rd,⟨rp,rn,rc⟩⟩,by rw[hyes]; rfl,by rw[hyes]; exact hcr⟩
end Go.Proofs.YteahknngoogpaaaGreatDoor
namespace Go.Sy
open Go
section
variable {α:Type}{k:Nat}{P:Program}{N:Nat}{E:World}{f:Fr}{g:PH}{s:Own}{dst:Option Tmp}{ty:TypeId}{pos:String}{af:Array Edge}{gd:Option (Nat×Bool)}
theorem SO.makeC {x y:Operand}{t T:TypeId}{bytes n:Nat}{z:Value}(e:Enc α k)(hT:STy P t T k bytes z)(hx:ev f x=some (vi 0))(hy:ev f y=some (vi n))(hb:n * bytes≤140737488355328)(hlen:n≤4611686018427387904) :
  SO P N E ⟨dst,.makeSlice t x y,ty,pos,af,gd⟩ f g s fun v' g' s'=>g=g'∧s'=rowA e T v' []::s :=
 SO.of_run fun ac w ha hw=>by
  obtain ⟨ti,ht1,ht2,ht3,ht4⟩:=hT.info;have hbi:(ti.bytes:Int) * ((n:Nat):Int)≤281474976710656:=by
   rw[ht4,← Int.natCast_mul,Nat.mul_comm]; omega
  have h5:=run_make (P:=P) w t T ti z hT.und ht1 ht2 .i64 .i64 0 n oM oM hbi oM;simp only[Int.toNat_natCast] at h5;rw[ht3] at h5;have hrun:(execOp ac.eval ⟨dst,.makeSlice t x y,ty,pos,af,gd⟩).run P w = .ok (.value (.slice (some ⟨w.heap.size,0,none⟩) 0 n)) (w.alloc (.cells (madeCells z.cells (n * k)) T)):=by
   simp[execOp,ha.ev hx,ha.ev hy,h5]
  have hnew:(w.alloc (.cells (madeCells z.cells (n * k)) T)).heap[w.heap.size]?=some (.cells (madeCells z.cells (n * k)) T (0,0)):=heap_alloc_new w _;refine⟨_,_,g,_,hrun,?_,I,I⟩;cases n with
  | zero =>
   have h6:=hw.emptyRow T k (some ⟨w.heap.size,0,none⟩);have h7:=h6.alloc (e:=pt w.heap.size (.cells (madeCells z.cells (0 * k)) T (0,0))) (o:=.cells (madeCells z.cells (0 * k)) T (0,0)) rfl rfl;exact h7.sublist (List.sublist_cons_self _ _)
  | succ n =>
   have hsz:(madeCells z.cells ((n+1) * k)).size=(n+1) * k:=by simp[madeCells]
   exact hw.alloc (e:=rowA e T (.slice (some ⟨w.heap.size,0,none⟩) 0 (n+1)) []) (o:=.cells (madeCells z.cells ((n+1) * k)) T (0,0)) I ⟨by simp,.inr ⟨_,n,_,I,I,by simp,by unfold maxLen; omega,hsz,by simp⟩⟩
def encB:Enc Int 1:=⟨fun n=>[.int .u8 n],fun _=>rfl,fun _ u hu=>by simp at hu; subst hu; rfl,by decide⟩
def encU:Enc Int 1:=⟨fun n=>[.int .u64 n],fun _=>rfl,fun _ u hu=>by simp at hu; subst hu; rfl,by decide⟩
def byt (l:List Int):List UInt8:=l.map fun n=>UInt8.ofNat n.toNat
def txt (l:List UInt8):Value:=.string ⟨l.toArray⟩
theorem fold_push (l:List Int):∀ s:ByteArray,l.foldl (fun r n=>r.push (UInt8.ofNat n.toNat)) s=⟨s.data++(byt l).toArray⟩:=by
 induction l with
 | nil=>intro s; simp[byt]
 | cons a t ih =>
  intro s;simp only[List.foldl_cons];rw[ih];simp[byt,ByteArray.push]
theorem flat_bytes (l:List Int):l.flatMap encB.enc=l.map (Value.int .u8):=by
 induction l with
 | nil=>rfl
 | cons a t ih=>simp only[List.flatMap_cons,List.map_cons,ih]; rfl
theorem SQ.bytesText {x:Operand}{S D e:TypeId}{p:Option Addr}{c:Nat}{l:List Int}(hs:P.underlying S=some (.slice e))(he:P.underlying e=some (.int .u8))(hd:P.underlying D=some .string)
  (hx:ev f x=some (.slice p l.length c)) (hr:Rd g s (.slice p l.length c) (l.flatMap encB.enc)) :
  SQ P N E ⟨dst,.convert S D x,ty,pos,af,gd⟩ f g s (txt (byt l)):=fun a w ha hw=>by
 have h1:(convert S D (.slice p l.length c)).run P w = .ok (txt (byt l)) w:=by
  rw[run_convert_bytes_string w S D e p l.length c hs he hd];rw[flat_bytes] at hr;cases l with
  | nil =>
   cases p with
   | none=>simp[Conv.bytesToString,txt,byt]; rfl
   | some a =>
    have h2:=run_bytesToString (P:=P) w a 0 c [] (by simp[loadCells]; exact run_loadCellsFrom (P:=P) (w:=w) (b:=a.block) (o:=a.off) 0 0 [] #[] rfl (fun j y hy=>by simp at hy));rw[List.length_nil,h2];rfl
  | cons n t =>
   obtain ⟨q,n',c',he1,hsp,hc0⟩:=hr E w hw 0 (.int .u8 n) rfl;injection he1 with he1 he2 he3
   subst he1;obtain ⟨qb,qo,qs⟩:=q;dsimp only at hsp;subst hsp;have h2:=run_bytesToString (P:=P) w ⟨qb,qo,none⟩ (n::t).length c (n::t) (by
    have:=run_loadCellsFrom (P:=P) (w:=w) (b:=qb) (o:=qo) (n::t).length 0 ((n::t).map (Value.int .u8)) #[] (by simp) (fun j y hy=>by
     obtain ⟨q',n2,c2,he4,_,hc1⟩:=hr E w hw j y hy;injection he4 with he4
     injection he4 with he4
     subst he4;simpa using hc1)
    simpa [loadCells] using this)
   rw[h2,fold_push];simp[txt]
 simp[execOp,ha.ev hx,h1]
theorem txt_list (l:List UInt8):(⟨l.toArray⟩:ByteArray).toList=l:=by rw[ByteArray.toList_eq]
theorem beq_dec (l m:List UInt8):(l == m)=decide (l=m):=by by_cases h:l=m <;> simp[h]
theorem SU.eqlT {x y:Operand}{T U:TypeId}{l m:List UInt8}(hx:ev f x=some (txt l))(hy:ev f y=some (txt m)) :
  SU P N ⟨dst,.binOp .eql T x y U,ty,pos,af,gd⟩ f (.bool (decide (l=m))):=fun ac w ha=>by
 have hg:(eqGuard .eql T x y (txt l) (txt m)).run P w = .ok () w:=by simp[eqGuard,txt]
 have hb:(binOp .eql T (txt l) (txt m)).run P w = .ok (.bool (decide (l=m))) w:=by
  unfold txt;rw[binOp_string_eql,txt_list,txt_list,beq_dec];rfl
 simp only[execOp,ha.ev hx,ha.ev hy,Sem.run_bind,hg,Result.andThen_ok,hb];rfl
theorem SU.neqT {x y:Operand}{T U:TypeId}{l m:List UInt8}(hx:ev f x=some (txt l))(hy:ev f y=some (txt m)) :
  SU P N ⟨dst,.binOp .neq T x y U,ty,pos,af,gd⟩ f (.bool (decide (l≠m))):=fun ac w ha=>by
 have hg:(eqGuard .neq T x y (txt l) (txt m)).run P w = .ok () w:=by simp[eqGuard,txt]
 have hb:(binOp .neq T (txt l) (txt m)).run P w = .ok (.bool (decide (l≠m))) w:=by
  unfold txt;rw[binOp_string_neq,txt_list,txt_list];by_cases h:l=m <;> simp[h,bne] <;> rfl
 simp only[execOp,ha.ev hx,ha.ev hy,Sem.run_bind,hg,Result.andThen_ok,hb];rfl
end
end Go.Sy
