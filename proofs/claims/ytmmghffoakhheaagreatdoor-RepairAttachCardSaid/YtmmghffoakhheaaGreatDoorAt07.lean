/- Aro2 Ren1 Ren2 Ren3 Par0 Shu SyX SyY SyU RefA SyW Wid1 Wid2 Wid3 Wid4 Agr1 Frm3 ShP -/
import Derived.Test.YtmmghffoakhheaaGreatDoorAt06
import Derived.Test.YtmmghffoakhheaaGreatDoorAt04
import Derived.RangeFuncLeaves
import Derived.RangeFuncRecord
import Derived.RangeFuncSeq
import Derived.OrdersIn
import Derived.TacticsIn
import Derived.Test.YtmmghffoakhheaaGreatDoorAt05
import Derived.Laws.BytesString
import Derived.Laws.Strings
import Derived.Test.YtmmghffoakhheaaGreatDoorAt02
import Derived.Shelf.Strings.Trim
set_option linter.unusedSimpArgs false
set_option linter.unusedVariables false
namespace Go.Proofs.YtmmghffoakhheaaGreatDoor
open _root_.Go.Proofs.Tryz _root_.Go.Proofs.YtmmghffoakhheaaGreatDoor.Tryz
open Go Go.Sy Go.Pl Go.Proofs
def sumR (tl:List Cl)(l:List Side)(r:Int):Int:=(l.flatMap fun x=>(sidesOf tl x).map fun q=>if q.cell=r then x.sign * q.sign else 0).sum
def hits (tl:List Cl)(x:Side)(r:Int):Nat:=((sidesOf tl x).filter fun q=>decide (q.cell=r)).length
def cntR (tl:List Cl)(l:List Side)(r:Int):Nat:=(l.map fun x=>hits tl x r).sum
def share (tl:List Cl)(l:List Side)(a b:Int):Prop:=∃ x∈l,∃ y∈l,x.cell=a∧y.cell=b∧∃ r,0<hits tl x r∧0<hits tl y r
theorem getZ_addZ (zl:List (Int×Int))(k x r:Int):getZ (addZ zl k x) r=getZ zl r+if r=k then x else 0:=by
 induction zl with
 | nil =>
  simp only[addZ,getZ];split <;> simp
 | cons p q ih =>
  obtain ⟨a,z⟩:=p;simp only[addZ];by_cases h:k=a
  ·subst h;simp only[if_true,getZ];split <;> simp
  ·rw[if_neg h];simp only[getZ,ih];by_cases hr:r=a
   ·subst hr;rw[if_pos rfl,if_pos rfl,if_neg fun e=>h e.symm];omega
   ·rw[if_neg hr,if_neg hr]
theorem getZ_inner (x:Side)(r:Int):∀ (l:List Side) (zl:List (Int×Int)),getZ (l.foldl (stepZ x) zl) r=getZ zl r+(l.map fun q=>if q.cell=r then x.sign * q.sign else 0).sum
 | [],zl=>by simp
 | q::l,zl=>by
  simp only[List.foldl_cons,List.map_cons,List.sum_cons];rw[getZ_inner x r l,stepZ,getZ_addZ];by_cases h:r=q.cell
  ·rw[if_pos h,if_pos h.symm]; omega
  ·rw[if_neg h,if_neg fun e=>h e.symm]; omega
theorem getZ_sums (tl:List Cl)(l:List Side)(r:Int):getZ (sumsC tl l) r=sumR tl l r:=by
 have:∀ (l:List Side) (zl:List (Int×Int)),getZ (l.foldl (fun zl x=>(sidesOf tl x).foldl (stepZ x) zl) zl) r=getZ zl r+sumR tl l r:=by
  intro l;induction l with
  | nil=>intro zl; simp[sumR]
  | cons x q ih =>
   intro zl;simp only[List.foldl_cons];rw[ih,getZ_inner];simp only[sumR,List.flatMap_cons,List.sum_append];omega
 have h:=this l [];simpa [sumsC,getZ] using h
theorem addZ_keys (ml:List (Int×Int))(k x:Int):(addZ ml k x).map Prod.fst=if ml.any (fun p=>decide (p.1=k)) then ml.map Prod.fst else ml.map Prod.fst++[k]:=by
 induction ml with
 | nil=>simp[addZ]
 | cons p r ih =>
  obtain ⟨a,l⟩:=p;simp only[addZ];by_cases h:k=a
  ·subst h;simp
  ·have h2:¬ a=k:=fun e=>h e.symm;rw[if_neg h];simp only[List.map_cons,ih,List.any_cons,h2,decide_false,Bool.false_or];split <;> simp
theorem addZ_nodup {ml:List (Int×Int)}(h:(ml.map Prod.fst).Nodup)(k x:Int):((addZ ml k x).map Prod.fst).Nodup:=by
 rw[addZ_keys];split
 ·exact h
 ·rename_i hk;rw[List.nodup_append];refine⟨h,by simp,fun a ha b hb e=>hk ?_⟩;simp at hb;subst hb;obtain ⟨p,hp,hpe⟩:=List.mem_map.1 ha;rw[List.any_eq_true];exact⟨p,hp,by simp[hpe,e]⟩
theorem sumsC_nodup (tl:List Cl)(l:List Side):((sumsC tl l).map Prod.fst).Nodup:=by
 have h1:∀ (x:Side) (q:List Side) (zl:List (Int×Int)),(zl.map Prod.fst).Nodup→((q.foldl (stepZ x) zl).map Prod.fst).Nodup:=by
  intro x q;induction q with
  | nil=>intro zl h; exact h
  | cons r t ih=>intro zl h; exact ih _ (addZ_nodup h _ _)
 have h2:∀ (q:List Side) (zl:List (Int×Int)),(zl.map Prod.fst).Nodup→((q.foldl (fun zl x=>(sidesOf tl x).foldl (stepZ x) zl) zl).map Prod.fst).Nodup:=by
  intro q;induction q with
  | nil=>intro zl h; exact h
  | cons x t ih=>intro zl h; exact ih _ (h1 _ _ _ h)
 exact h2 _ _ (by simp)
theorem getZ_mem:∀ {zl:List (Int×Int)},(zl.map Prod.fst).Nodup→∀ p∈zl,getZ zl p.1=p.2
 | [],_,p,hp=>by simp at hp
 | (a,z)::r,h,p,hp=>by
  simp only[List.map_cons,List.nodup_cons] at h
  rcases List.mem_cons.1 hp with rfl | hp
  ·simp[getZ]
  ·simp only[getZ];rw[if_neg fun e=>h.1 (List.mem_map.2 ⟨p,hp,e⟩)];exact getZ_mem h.2 p hp
theorem getZ_some:∀ {zl:List (Int×Int)} {k:Int},getZ zl k≠0→∃ p∈zl,p.1=k∧p.2=getZ zl k
 | [],_,h=>by simp[getZ] at h
 | (a,z)::r,k,h=>by
  simp only[getZ] at h ⊢;split
  ·rename_i e;exact⟨(a,z),by simp,e.symm,I⟩
  ·rename_i e;rw[if_neg e] at h;obtain ⟨p,hp,h1,h2⟩:=getZ_some h;exact⟨p,by simp[hp],h1,h2⟩
theorem sums_none (tl:List Cl)(l:List Side):(sumsC tl l).any (fun p=>decide (p.2≠0))=false↔∀ r,sumR tl l r=0:=by
 rw[List.any_eq_false];constructor
 ·intro h r;rw[← getZ_sums];refine Decidable.of_not_not fun hne=>?_;obtain ⟨p,hp,_,h2⟩:=getZ_some hne;exact h p hp (by simpa [h2] using hne)
 ·intro h p hp;have:=getZ_mem (sumsC_nodup tl l) p hp;rw[getZ_sums,h] at this;simp[← this]
theorem getL_inner (i r:Int):∀ (l:List Side) (ml:List (Int×List Int)),getL (l.foldl (stepL i) ml) r=getL ml r++List.replicate (l.filter fun q=>decide (q.cell=r)).length i
 | [],ml=>by simp
 | q::l,ml=>by
  simp only[List.foldl_cons];rw[getL_inner i r l,stepL,getL_addL,List.filter_cons];by_cases h:r=q.cell
  ·rw[if_pos h,if_pos (by simp[h])];simp[List.replicate_succ]
  ·rw[if_neg h,if_neg (by simp; exact fun e=>h e.symm)]
theorem getL_met (tl:List Cl)(l:List Side)(r:Int):getL (metC tl l) r=l.zipIdx.flatMap fun p=>List.replicate (hits tl p.1 r) (p.2:Int):=by
 have:∀ (q:List (Side×Nat)) (ml:List (Int×List Int)),getL (q.foldl (fun ml p=>(sidesOf tl p.1).foldl (stepL p.2) ml) ml) r=getL ml r++q.flatMap fun p=>List.replicate (hits tl p.1 r) (p.2:Int):=by
  intro q;induction q with
  | nil=>intro ml; simp
  | cons p t ih =>
   intro ml;simp only[List.foldl_cons];rw[ih,getL_inner];simp[hits]
 have h:=this l.zipIdx [];simpa [metC,getL] using h
theorem met_len (tl:List Cl)(l:List Side)(r:Int):(getL (metC tl l) r).length=cntR tl l r:=by
 rw[getL_met];have:∀ (l:List Side) (k:Nat),((l.zipIdx k).flatMap fun p=>List.replicate (hits tl p.1 r) (p.2:Int)).length=cntR tl l r:=by
  intro l;induction l with
  | nil=>intro k; rfl
  | cons x q ih=>intro k; simp only[List.zipIdx_cons,List.flatMap_cons,List.length_append,List.length_replicate,ih,cntR,List.map_cons,List.sum_cons]
 exact this l 0
theorem met_mem (tl:List Cl)(l:List Side)(r i:Int):i∈getL (metC tl l) r↔∃ k:Nat,i=k∧∃ x,l[k]?=some x∧0<hits tl x r:=by
 rw[getL_met,List.mem_flatMap];constructor
 ·rintro ⟨⟨x,k⟩,hp,hi⟩;obtain ⟨h1,rfl⟩:=List.mem_replicate.1 hi;refine⟨k,I,x,?_,Nat.pos_of_ne_zero h1⟩;simpa using List.mem_zipIdx_iff_getElem?.1 hp
 ·rintro ⟨k,rfl,x,hx,hh⟩;exact⟨(x,k),List.mem_zipIdx_iff_getElem?.2 (by simpa using hx),List.mem_replicate.2 ⟨Nat.ne_of_gt hh,I⟩⟩
theorem getL_mem:∀ {ml:List (Int×List Int)},(ml.map Prod.fst).Nodup→∀ p∈ml,getL ml p.1=p.2
 | [],_,p,hp=>by simp at hp
 | (a,z)::r,h,p,hp=>by
  simp only[List.map_cons,List.nodup_cons] at h
  rcases List.mem_cons.1 hp with rfl | hp
  ·simp[getL]
  ·simp only[getL];rw[if_neg fun e=>h.1 (List.mem_map.2 ⟨p,hp,e⟩)];exact getL_mem h.2 p hp
theorem getL_some:∀ {ml:List (Int×List Int)} {k:Int},getL ml k≠[]→∃ p∈ml,p.1=k∧p.2=getL ml k
 | [],_,h=>by simp[getL] at h
 | (a,z)::r,k,h=>by
  simp only[getL] at h ⊢;split
  ·rename_i e;exact⟨(a,z),by simp,e.symm,I⟩
  ·rename_i e;rw[if_neg e] at h;obtain ⟨p,hp,h1,h2⟩:=getL_some h;exact⟨p,by simp[hp],h1,h2⟩
theorem addL_ne:∀ {ml:List (Int×List Int)} {k x:Int},(∀ p∈ml,p.2≠[])→∀ p∈addL ml k x,p.2≠[]
 | [],_,_,_,p,hp=>by simp[addL] at hp; subst hp; simp
 | (a,l)::r,k,x,h,p,hp=>by
  unfold addL at hp;split at hp
  ·rcases List.mem_cons.1 hp with rfl | hp
   ·simp
   ·exact h p (by simp[hp])
  ·rcases List.mem_cons.1 hp with rfl | hp
   ·exact h _ (by simp)
   ·exact addL_ne (fun q hq=>h q (by simp[hq])) p hp
theorem met_ne (tl:List Cl)(l:List Side):∀ p∈metC tl l,p.2≠[]:=by
 have h1:∀ (i:Int) (q:List Side) (ml:List (Int×List Int)),(∀ p∈ml,p.2≠[])→∀ p∈q.foldl (stepL i) ml,p.2≠[]:=by
  intro i q;induction q with
  | nil=>intro ml h; exact h
  | cons r t ih=>intro ml h; exact ih _ (addL_ne h)
 have h2:∀ (q:List (Side×Nat)) (ml:List (Int×List Int)),(∀ p∈ml,p.2≠[])→∀ p∈q.foldl (fun ml p=>(sidesOf tl p.1).foldl (stepL p.2) ml) ml,p.2≠[]:=by
  intro q;induction q with
  | nil=>intro ml h; exact h
  | cons x t ih=>intro ml h; exact ih _ (h1 _ _ _ h)
 exact h2 _ _ (by simp)
theorem met_none (tl:List Cl)(l:List Side):(metC tl l).any (fun p=>decide ((p.2.length:Int)≠2))=false↔∀ r,cntR tl l r=0∨cntR tl l r=2:=by
 rw[List.any_eq_false];constructor
 ·intro h r;rw[← met_len];by_cases hne:getL (metC tl l) r=[]
  ·left; rw[hne]; rfl
  ·right;obtain ⟨p,hp,_,h2⟩:=getL_some hne;have:=h p hp;rw[h2] at this;simp at this;omega
 ·intro h p hp;have h1:=getL_mem (metC_nodup tl l) p hp;have h2:=h p.1;rw[← met_len,h1] at h2;have h3:=List.length_pos_iff.2 (met_ne tl l p hp);simp;omega
theorem met_in (tl:List Cl)(l:List Side):∀ p∈metC tl l,∀ x∈p.2,0≤x∧x<(l.length:Int):=fun p hp x hx=>by
 rw[← getL_mem (metC_nodup tl l) p hp] at hx;obtain ⟨k,rfl,y,hy,_⟩:=(met_mem tl l p.1 x).1 hx;have:=(List.getElem?_eq_some_iff.1 hy).1;omega
theorem seen_all {ml:List (Int×List Int)}{n:Nat}(h2:∀ p∈ml,p.2.length=2)(hb:∀ p∈ml,∀ x∈p.2,0≤x∧x<(n:Int))(h0:0<n):(seenC (joinC ml)).length=n↔∀ a:Nat,a<n→Cn (linked ml) 0 a:=by
 have hmem:∀ x:Int,x∈seenC (joinC ml)↔Rch (adjJ (joinC ml)) 0 x:=fun x=>mem_dfs (cnt:=cntK (joinC ml)) (fun v v' h=>cntK_mono h) (cntK_strict _) (Nat.lt_succ_of_le (List.length_filter_le _ _)) (by simp[adjJ]) x;have hnd:(seenC (joinC ml)).Nodup:=dfs_nodup _ _ _ _ (by simp);have hin:∀ x∈seenC (joinC ml),0≤x∧x<(n:Int):=fun x hx=>by
  have hr:=(rch_cn h2 0 x).1 ((hmem x).1 hx);have:∀ a b,Cn (linked ml) a b→(0≤a∧a<(n:Int))→(0≤b∧b<(n:Int)):=by
   intro a b h;induction h with
   | refl _=>exact fun h=>h
   | step e _ ih =>
    intro _
    rcases e with e | e
    ·exact ih (linked_in hb e).2
    ·exact ih (linked_in hb e).1
  exact this 0 x hr oM
 generalize seenC (joinC ml)=seen at *;constructor
 ·intro hl a ha;refine Classical.byContradiction fun hne=>?_;have hna:(a:Int) ∉ seen:=fun h=>hne ((rch_cn h2 0 a).1 ((hmem a).1 h));have:=nodup_leI (l:=(a:Int)::seen) (n:=n) (List.nodup_cons.2 ⟨hna,hnd⟩) fun x hx=>by
   rcases List.mem_cons.1 hx with rfl | hx
   ·omega
   ·exact hin x hx
  simp at this;omega
 ·intro hall;refine Nat.le_antisymm (nodup_leI hnd hin) ?_;have h3:=length_le_of_nodup (m:=List.range n) (l:=seen.map Int.toNat) List.nodup_range (nodup_nat hnd fun x hx=>(hin x hx).1) fun i hi=>by
   have hi:=List.mem_range.1 hi;exact List.mem_map.2 ⟨(i:Int),(hmem i).2 ((rch_cn h2 0 i).2 (hall i hi)),by simp⟩
  simpa using h3
theorem Cn.map {E E':Int→Int→Prop}{f:Int→Int}(h:∀ a b,E a b→Cn E' (f a) (f b)){a b:Int}(hc:Cn E a b):Cn E' (f a) (f b):=by
 induction hc with
 | refl _=>exact .refl _
 | step e _ ih =>
  rcases e with e | e
  ·exact (h _ _ e).trans ih
  ·exact (h _ _ e).symm.trans ih
theorem around_iff {tl:List Cl}{c:Cl}(h0:0<c.sides.length)(hnd:(c.sides.map Side.cell).Nodup) :
  aroundC tl c=0↔(∀ r,sumR tl c.sides r=0)∧(∀ r,cntR tl c.sides r=0∨cntR tl c.sides r=2)∧∀ x∈c.sides,∀ y∈c.sides,Cn (share tl c.sides) x.cell y.cell:=by
 unfold aroundC;generalize c.sides=l at *;by_cases hs:(sumsC tl l).any (fun p=>decide (p.2≠0))=false
 ·rw[if_neg (by rw[hs]; simp)];by_cases hm:(metC tl l).any (fun p=>decide ((p.2.length:Int)≠2))=false
  ·rw[if_neg (by rw[hm]; simp)];have h2:∀ p∈metC tl l,p.2.length=2:=fun p hp=>by
    have:=List.any_eq_false.1 hm p hp;simp at this;omega
   have hsa:=seen_all h2 (met_in tl l) h0;have hinj:∀ {i j:Nat} {x y:Side},l[i]?=some x→l[j]?=some y→x.cell=y.cell→i=j:=fun {i j x y} hi hj e=>by
    obtain ⟨i1,e1⟩:=List.getElem?_eq_some_iff.1 hi;obtain ⟨i2,e2⟩:=List.getElem?_eq_some_iff.1 hj;have key:∀ {a b:Nat} (ha:a<l.length) (hb:b<l.length),a<b→l[a].cell≠l[b].cell:=fun {a b} ha hb h=>by
     have:=List.pairwise_iff_getElem.1 hnd a b (by simpa using ha) (by simpa using hb) h;simpa using this
    rcases Nat.lt_trichotomy i j with h | h | h
    ·exact absurd (by rw[e1,e2]; exact e) (key i1 i2 h)
    ·exact h
    ·exact absurd (by rw[e1,e2]; exact e.symm) (key i2 i1 h)
   have hconn:(∀ a:Nat,a<l.length→Cn (linked (metC tl l)) 0 a)↔∀ x∈l,∀ y∈l,Cn (share tl l) x.cell y.cell:=by
    constructor
    ·intro hall x hx y hy;obtain ⟨i,hi,rfl⟩:=List.getElem_of_mem hx;obtain ⟨j,hj,rfl⟩:=List.getElem_of_mem hy;have hc:=(hall i hi).symm.trans (hall j hj);have:=hc.map (f:=fun a=>(l.getD a.toNat ⟨0,0⟩).cell) (E':=share tl l) fun a b hl=>by
      obtain ⟨p,hp,h3,h4⟩:=hl;rw[← getL_mem (metC_nodup tl l) p hp] at h3 h4;obtain ⟨k,rfl,x,hx,hh⟩:=(met_mem tl l p.1 a).1 (List.mem_of_head? h3);obtain ⟨m,rfl,y,hy,hh2⟩:=(met_mem tl l p.1 b).1 h4;refine .one ⟨x,List.mem_of_getElem? hx,y,List.mem_of_getElem? hy,?_,?_,p.1,hh,hh2⟩
      ·simp[List.getD_eq_getElem?_getD,hx]
      ·simp[List.getD_eq_getElem?_getD,hy]
     simpa [List.getD_eq_getElem?_getD,hi,hj] using this
    ·intro hall;have key:∀ a b,Cn (share tl l) a b→∀ (i:Nat) (x:Side),l[i]?=some x→x.cell=a→∀ (j:Nat) (y:Side),l[j]?=some y→y.cell=b→Cn (linked (metC tl l)) (i:Int) (j:Int):=by
      have one:∀ {a b:Int},share tl l a b→∀ (i:Nat) (x:Side),l[i]?=some x→x.cell=a→∃ (j:Nat) (y:Side),l[j]?=some y∧y.cell=b∧Cn (linked (metC tl l)) (i:Int) (j:Int):=by
       rintro a b ⟨x',hx',y,hy,rfl,rfl,r,h3,h4⟩ i x hi he;obtain ⟨i',hi',rfl⟩:=List.getElem_of_mem hx';obtain ⟨j,hj,rfl⟩:=List.getElem_of_mem hy;have hii:=hinj hi (gE hi') he;subst hii;refine⟨j,l[j],gE hj,I,?_⟩;have m1:=(met_mem tl l r i).2 ⟨i,rfl,l[i],gE hi',h3⟩;have m2:=(met_mem tl l r j).2 ⟨j,rfl,l[j],gE hj,h4⟩;obtain ⟨p,hp,_,hp2⟩:=getL_some (ml:=metC tl l) (k:=r) fun e=>by rw[e] at m1; simp at m1
       rw[← hp2] at m1 m2;cases hh:p.2 with
       | nil=>rw[hh] at m1; simp at m1
       | cons u q =>
        have hu:∀ v∈p.2,linked (metC tl l) u v:=fun v hv=>⟨p,hp,by rw[hh]; rfl,hv⟩;exact (Cn.one (hu _ m1)).symm.trans (Cn.one (hu _ m2))
      intro a b hc;induction hc with
      | refl a =>
       intro i x hi he j y hj he2;have:=hinj hi hj (he.trans he2.symm);subst this;exact .refl _
      | step e _ ih =>
       intro i x hi he j y hj he2;have e':share tl l _ _:=e.elim (fun e=>e) fun ⟨x,hx,y,hy,h1,h2,r,h3,h4⟩=>⟨y,hy,x,hx,h2,h1,r,h4,h3⟩;obtain ⟨k,z,hk,hz,hc⟩:=one e' i x hi he;exact hc.trans (ih k z hk hz j y hj he2)
     intro a ha;exact key _ _ (hall _ (gM h0) _ (gM ha)) 0 _ (gE h0) I a _ (gE ha) I
   rw[← hconn,← hsa];constructor
   ·intro h;refine⟨(sums_none tl l).1 hs,(met_none tl l).1 hm,?_⟩;refine Decidable.of_not_not fun hne=>?_;rw[if_pos oM] at h;exact absurd h dC
   ·rintro ⟨_,_,h⟩;rw[if_neg oM]
  ·have hm':(metC tl l).any (fun p=>decide ((p.2.length:Int)≠2))=true:=by simpa using hm
   rw[if_pos hm'];exact⟨fun h=>absurd h dC,fun h=>absurd ((met_none tl l).2 h.2.1) hm⟩
 ·have hs':(sumsC tl l).any (fun p=>decide (p.2≠0))=true:=by simpa using hs
  rw[if_pos hs'];exact⟨fun h=>absurd h dC,fun h=>absurd ((sums_none tl l).2 h.1) hs⟩
structure Fm (tl:List Cl)(c:Cl):Prop where
 dim:0≤c.dim∧c.dim≤8
 cnt:cntBad c=false
 found:∀ x∈c.sides,∃ d,findT tl x.cell=some d∧d.dim=c.dim - 1
 asc:c.sides.Pairwise fun a b=>a.cell<b.cell
 sg:∀ x∈c.sides,x.sign=1∨x.sign = -1
 one:c.dim=1→sumS c.sides=0
theorem Fm.ok {tl:List Cl}{c:Cl}(h:Fm tl c):formC tl c=0:=form_of h.dim h.cnt h.found h.asc h.sg h.one
theorem asc_of {l:List Side}(hs:l.Pairwise fun a b=>a.cell≤b.cell)(hd:∀ i x y,l[i]?=some x→l[i+1]?=some y→x.cell≠y.cell):l.Pairwise fun a b=>a.cell<b.cell:=by
 induction l with
 | nil=>exact List.Pairwise.nil
 | cons a r ih =>
  obtain ⟨h1,h2⟩:=List.pairwise_cons.1 hs;have hr:=ih h2 fun i x y hx hy=>hd (i+1) x y (by simpa using hx) (by simpa using hy);refine List.pairwise_cons.2 ⟨fun b hb=>?_,hr⟩;cases r with
  | nil=>simp at hb
  | cons z q =>
   have hz:a.cell<z.cell:=by
    have:=h1 z (by simp);have:=hd 0 a z rfl rfl;omega
   rcases List.mem_cons.1 hb with rfl | hb
   ·exact hz
   ·have:=(List.pairwise_cons.1 hr).1 b hb;omega
theorem fm_of {tl:List Cl}{c:Cl}(h:formC tl c=0)(hs:c.sides.Pairwise fun a b=>a.cell≤b.cell):Fm tl c:=by
 unfold formC at h;split at h
 ·cases h
 ·rename_i h1;split at h
  ·cases h
  ·rename_i h2;split at h
   ·cases h
   ·rename_i h3;split at h
    ·cases h
    ·rename_i h4;split at h
     ·cases h
     ·rename_i h5;have hbad:∀ i x,c.sides[i]?=some x→badSide tl c i x=false:=fun i x hx=>by
       have hi:=(List.getElem?_eq_some_iff.1 hx).1;have:=List.any_eq_false.1 ((Bool.not_eq_true _).mp h3) i (List.mem_range.2 hi);unfold badAt at this;rw[hx] at this;simpa using this
      refine⟨?_,by simpa using h2,fun x hx=>?_,asc_of hs fun i x y hx hy e=>?_,fun x hx=>?_,fun hd=>?_⟩
      ·simp[dimBad] at h1; omega
      ·obtain ⟨i,hi,rfl⟩:=List.getElem_of_mem hx;have:=hbad i _ (gE hi);unfold badSide at this;simp only[Bool.or_eq_false_iff,Bool.not_eq_false',decide_eq_false_iff_not,ne_eq,Decidable.not_not] at this;obtain ⟨⟨g1,g2⟩,_⟩:=this;obtain ⟨d,hd⟩:=Option.isSome_iff_exists.1 g1;rw[hd] at g2;exact⟨d,hd,g2⟩
      ·have:=hbad (i+1) y hy;unfold badSide at this;rw[show i+1 - 1=i by omega,hx] at this;simp[e] at this
      ·have:=List.any_eq_false.1 ((Bool.not_eq_true _).mp h4) x hx;simp[signBad] at this;by_cases h6:x.sign=1
       ·exact .inl h6
       ·exact .inr (this h6)
      ·simpa [hd] using h5
structure Rt (l:List Cl):Prop where
 few:l.length≤4000
 asc:l.Pairwise fun a b=>a.id<b.id
 pos:∀ x∈l,0<x.id
 form:∀ x∈l,Fm l x
 around:∀ x∈l,x.dim>1→aroundC l x=0
theorem Rt.canon {l:List Cl}(h:Rt l):canonC l=l:=by
 unfold canonC;rw[(eq_sortBy (key:=Cl.id) (h.asc.imp fun h=>by omega) (Stab.refl l)).symm];have:∀ c∈l,normC c=c:=fun c hc=>by
  unfold normC;rw[(eq_sortBy (key:=Side.cell) ((h.form c hc).asc.imp fun h=>by omega) (Stab.refl c.sides)).symm]
 rw[List.map_congr_left this];simp
theorem Rt.tab {l:List Cl}(h:Rt l):tabC l=l:=by rw[tabC_strict (by rw[h.canon]; exact h.asc),h.canon]
theorem Rt.check {l:List Cl}(h:Rt l):checkC l=(0,0):=by
 refine check_ok h.few ?_ ?_ ?_ ?_ <;> rw[h.canon]
 ·exact h.pos
 ·exact h.asc
 ·exact fun x hx=>(h.form x hx).ok
 ·exact h.around
theorem Rt.find {l:List Cl}(h:Rt l){c:Cl}(hc:c∈l):findT l c.id=some c:=by
 refine find_mem ?_ hc;rw[List.Nodup,List.pairwise_map];exact h.asc.imp fun h=>by omega
theorem chk2_none_form {tl:List Cl}:∀ {l:List Cl},chk2 tl l=none→∀ x∈l,x.dim>1→aroundC tl x=0
 | [],_,x,hx,_=>by simp at hx
 | y::r,h,x,hx,hd=>by
  unfold chk2 at h;split at h
  ·cases h
  ·rename_i hn
   rcases List.mem_cons.1 hx with rfl | hx
   ·exact Decidable.of_not_not fun h=>hn ⟨hd,h⟩
   ·exact chk2_none_form h x hx hd
theorem chk2_some {tl:List Cl}:∀ {l:List Cl} {p:Int×Int},chk2 tl l=some p→p.2≠0
 | [],_,h=>by cases h
 | y::r,p,h=>by
  unfold chk2 at h;split at h
  ·rename_i hn; cases h; exact hn.2
  ·exact chk2_some h
theorem canon_sides (l:List Cl):∀ c∈canonC l,c.sides.Pairwise fun a b=>a.cell≤b.cell:=fun c hc=>by
 obtain ⟨d,_,rfl⟩:=List.mem_map.1 hc;exact sortBy_srt d.sides
theorem rt_of {l:List Cl}(h:(checkC l).2=0):Rt (canonC l):=by
 have h1:=check_ne h;obtain ⟨h2,h3,h4⟩:=chk1_none_form h1;have ht:=tabC_strict h2;have h5:l.length≤4000:=check_len h;refine⟨by rw[canonC_length]; exact h5,h2,h3,fun x hx=>fm_of (by rw[← ht]; exact h4 x hx) (canon_sides l x hx),?_⟩;have h6:chk2 (tabC l) (canonC l)=none:=by
  unfold checkC at h;rw[if_neg oM,h1] at h;cases hc:chk2 (tabC l) (canonC l) with
  | none=>rfl
  | some p =>
   rw[hc] at h;exact absurd h (chk2_some hc)
 rw[ht] at h6;exact chk2_none_form h6
theorem perm_sumI {l m:List Int}(h:l.Perm m):l.sum=m.sum:=by
 induction h with
 | nil=>rfl
 | cons x _ ih=>simp[ih]
 | swap x y l=>simp; omega
 | trans _ _ ih1 ih2=>exact ih1.trans ih2
theorem perm_sumN {l m:List Nat}(h:l.Perm m):l.sum=m.sum:=by
 induction h with
 | nil=>rfl
 | cons x _ ih=>simp[ih]
 | swap x y l=>simp; omega
 | trans _ _ ih1 ih2=>exact ih1.trans ih2
theorem sortBy_perm {α:Type}{key:α→Int}(l:List α):(sortBy key l).Perm l:=by
 have hi:∀ (x:α) (l:List α),(ins key x l).Perm (x::l):=by
  intro x l;induction l with
  | nil=>exact .refl _
  | cons y r ih =>
   unfold ins;split
   ·exact .refl _
   ·exact (ih.cons y).trans (.swap x y r)
 induction l with
 | nil=>exact .refl _
 | cons x r ih=>exact (hi x _).trans (ih.cons x)
structure Nm (l:List Cl)(k:Int):Prop where
 inj:∀ a∈l,∀ b∈l,mixC a.id k=mixC b.id k→a=b
 pos:∀ a∈l,0<mixC a.id k
section
variable {l:List Cl}(h:Rt l){k:Int}(hn:Nm l k)(t:Int)
include h hn
omit hn in
omit h hn in
omit h hn in
omit h hn in
omit hn in
omit h hn in
end
set_option maxRecDepth 100000
def Bd (l:List Cl):Prop:=∀ c∈l,c.id≤l.length
theorem rt_simp (ls:List (List Int)):Rt (simpC ls)∧Bd (simpC ls):=by
 have h1:=rt_of (l:=simpC ls) (by rw[simpC_right]);have h2:canonC (simpC ls)=simpC ls:=by
  unfold simpC;cases simpAll [] ls with
  | none=>rfl
  | some all=>exact canonC_idem _
 rw[h2] at h1;refine⟨h1,?_⟩;unfold simpC;cases h:simpAll [] ls with
 | none=>intro c hc; simp at hc
 | some all =>
  obtain ⟨hg,_⟩:=simpAll_good ls [] h Good.nil (by simp);dsimp only;rw[hg.cells];intro c hc;obtain ⟨s,hs,rfl⟩:=List.mem_map.1 hc;have:=(List.getElem?_eq_some_iff.1 (hg.get_lb hs)).1;show ixC all s≤_;unfold ixC;rw[List.length_map];omega
def part (l:List Cl)(p:Int→Bool):List Cl:=l.filter fun c=>p c.id
def ClosedP (l:List Cl)(p:Int→Bool):Prop:=∀ c∈l,p c.id=true→∀ x∈c.sides,p x.cell=true
theorem part_find {l:List Cl}{p:Int→Bool}{id:Int}(hp:p id=true):findT (part l p) id=findT l id:=by
 unfold findT part;induction l with
 | nil=>rfl
 | cons c r ih =>
  rw[List.filter_cons];by_cases hc:c.id=id
  ·rw[if_pos (by rw[hc]; exact hp)];simp[hc]
  ·split
   ·simp only[List.find?_cons,hc,decide_false];exact ih
   ·simp only[List.find?_cons,hc,decide_false];exact ih
theorem part_none {l:List Cl}{p:Int→Bool}{id:Int}(hp:p id=false):findT (part l p) id=none:=by
 unfold findT part;rw[List.find?_eq_none];intro c hc;have:=(List.mem_filter.1 hc).2;simp;intro e;rw[e,hp] at this;cases this
theorem part_right {l:List Cl}(h:Rt l){p:Int→Bool}(hp:ClosedP l p):Rt (part l p):=by
 have hsub:(part l p).Sublist l:=List.filter_sublist;refine⟨Nat.le_trans hsub.length_le h.few,h.asc.sublist hsub,fun x hx=>h.pos x (hsub.subset hx),fun c hc=>?_,fun c hc hd=>?_⟩
 ·obtain ⟨hc1,hc2⟩:=List.mem_filter.1 hc;have hf:=h.form c hc1;exact⟨hf.dim,hf.cnt,fun x hx=>by rw[part_find (hp c hc1 hc2 x hx)]; exact hf.found x hx,hf.asc,hf.sg,hf.one⟩
 ·obtain ⟨hc1,hc2⟩:=List.mem_filter.1 hc;rw[← h.around c hc1 hd,aroundC_L,aroundC_L];congr 1;unfold lookL;refine List.map_congr_left fun x hx=>?_;unfold sidesOf;rw[part_find (hp c hc1 hc2 x hx)]
theorem perm_canon {l F:List Cl}(hF:Rt F)(hp:l.Perm F):canonC l=F:=by
 have hc:=hF.canon;have hs:sortBy Cl.id l=F:=by
  refine (eq_sortBy (hF.asc.imp fun h=>by omega) ⟨hp.length_eq.symm,fun k=>?_⟩).symm;have h1:(l.filter fun a=>a.id == k).Perm (F.filter fun a=>a.id == k):=hp.filter _;have h3:(F.filter fun a=>a.id == k).Pairwise fun a b=>a.id<b.id:=hF.asc.sublist List.filter_sublist;have h5:∀ a∈F.filter (fun a=>a.id == k),a.id=k:=fun a ha=>by simpa using (List.mem_filter.1 ha).2
  generalize F.filter (fun a=>a.id == k)=m at *
  match m,h1,h3,h5 with
  | [],h1,_,_=>exact (List.perm_nil.1 h1).symm
  | [a],h1,_,_=>exact (List.perm_singleton.1 h1).symm
  | a::b::r,_,h3,h5 =>
   have h4:=(List.pairwise_cons.1 h3).1 b (by simp);have h6:=h5 a (by simp);have h7:=h5 b (by simp);omega
 unfold canonC at hc ⊢;rw[hs];have hs2:sortBy Cl.id F=F:=(eq_sortBy (key:=Cl.id) (hF.asc.imp fun h=>by omega) (Stab.refl F)).symm;rw[hs2] at hc;exact hc
theorem Rt.same {l:List Cl}(h:Rt l){a b:Cl}(ha:a∈l)(hb:b∈l)(e:a.id=b.id):a=b:=by
 have f1:=h.find ha;have f2:=h.find hb;rw[e,f2] at f1;injection f1 with f1
 exact f1.symm
set_option maxHeartbeats 1000000
def ShC (a b:Cl):Prop:=a.id=b.id∧a.dim=b.dim∧a.sides.Perm b.sides
def ShL (l m:List Cl):Prop:=∃ l1:List Cl,l1.Perm l∧All2 ShC l1 m
end Go.Proofs.YtmmghffoakhheaaGreatDoor
namespace Go.Sy
open Go
structure Md where
 ro:Option Nat
 ds:List Deferred
def wf (ro:Option Nat):Fence:={ fn:=fun _=>True,depth:=none,alive:=false,round:=ro }
def bare (a:Act):Act:={ a with defers:=[] }
theorem bare_eval (a:Act):(bare a).eval=a.eval:=by funext x; cases x <;> rfl
theorem bare_put (a:Act)(d:Option Tmp)(v:Value):bare (a.put d v)=(bare a).put d v:=by cases d <;> rfl
theorem put_defers (a:Act)(d:Option Tmp)(v:Value):(a.put d v).defers=a.defers:=by cases d <;> rfl
def Okd (ds:List Deferred)(N:Nat)(f:Fr)(a:Act):Prop:=a.defers=ds∧Ok N f (bare a)
section
variable {P:Program}{M:Md}{N:Nat}{E:World}{Q:Exit→Act→World→Prop}{f f':Fr}{g g':PH}{s s':Own}{ops:Array Oper}
theorem Okd.put {ds:List Deferred}{a:Act}(h:Okd ds N f a){d:Nat}(hlt:d<N)(v:Value):Okd ds N ((d,v)::f) (a.put (some d) v):=⟨h.1,by rw[bare_put]; exact h.2.put hlt v⟩
theorem Okd.sub {ds:List Deferred}{a:Act}(h:Okd ds N f a)(hs:Sub f' f):Okd ds N f' a:=⟨h.1,h.2.sub hs⟩
theorem Okd.ev {ds:List Deferred}{a:Act}(h:Okd ds N f a){x:Operand}{v:Value}(hx:Sy.ev f x=some v):a.eval x=v:=by rw[← bare_eval]; exact h.2.ev hx
def XC (P:Program)(M:Md)(N:Nat)(E:World)(c:Code)(Q:Exit→Act→World→Prop)(f:Fr)(g:PH)(s:Own):Prop:=∀ a w,Okd M.ds N f a→At E g s w→c.wpIn (wf M.ro) 0 P Q a w
def XT (M:Md)(N:Nat)(E:World)(Q:Exit→Act→World→Prop)(e:Exit)(f:Fr)(g:PH)(s:Own):Prop:=∀ a w,Okd M.ds N f a→At E g s w→Q e a w
def XL (P:Program)(M:Md)(N:Nat)(E:World)(ops:Array Oper)(Q:Exit→Act→World→Prop)(l:List Oper)(f:Fr)(g:PH)(s:Own):Prop:=∀ a w,Okd M.ds N f a→At E g s w→wpListIn (wf M.ro) 0 P ops Q l a w
def XO (P:Program)(M:Md)(N:Nat)(E:World)(o:Oper)(f:Fr)(g:PH)(s:Own)(K:Value→PH→Own→Prop):Prop :=
 ∀ a w,Okd M.ds N f a→At E g s w→∀ (Q:Exit→Act→World→Prop) (next:Act→World→Prop),
  (∀ v g' s' w',K v g' s'→At E g' s' w'→next (a.put o.dst v) w')→o.wpIn (wf M.ro) 0 P a w next Q
theorem XC.to {c:Code}(h:∀ w,At E g s w→At E g' s' w)(hc:XC P M N E c Q f g' s'):XC P M N E c Q f g s:=fun a w ha hw=>hc a w ha (h w hw)
theorem XT.drop {e:Exit}(hs:s'.Sublist s)(h:XT M N E Q e f g s'):XT M N E Q e f g s:=fun a w ha hw=>h a w ha (hw.sublist hs)
theorem XL.to {l:List Oper}(h:∀ w,At E g s w→At E g' s' w)(hc:XL P M N E ops Q l f g' s'):XL P M N E ops Q l f g s:=fun a w ha hw=>hc a w ha (h w hw)
theorem XC.facts {c:Code}(h:(∃ w,At E g s w)→XC P M N E c Q f g s):XC P M N E c Q f g s:=fun a w ha hw=>h ⟨w,hw⟩ a w ha hw
theorem XL.facts {l:List Oper}(h:(∃ w,At E g s w)→XL P M N E ops Q l f g s):XL P M N E ops Q l f g s:=fun a w ha hw=>h ⟨w,hw⟩ a w ha hw
theorem XT.facts {e:Exit}(h:(∃ w,At E g s w)→XT M N E Q e f g s):XT M N E Q e f g s:=fun a w ha hw=>h ⟨w,hw⟩ a w ha hw
theorem XC.skip (h:XT M N E Q .normal f g s):XC P M N E .skip Q f g s:=fun a w ha hw=>wpIn_skip (h a w ha hw)
theorem XC.ret (h:XT M N E Q .ret f g s):XC P M N E .ret Q f g s:=fun a w ha hw=>wpIn_ret (h a w ha hw)
theorem XC.exit {id:Nat}(h:XT M N E Q (.exit id) f g s):XC P M N E (.exit id) Q f g s:=fun a w ha hw=>wpIn_exit (h a w ha hw)
theorem XC.seq {x y:Code}(h:XC P M N E x (Exit.then (y.wpIn (wf M.ro) 0 P Q) Q) f g s):XC P M N E (.seq x y) Q f g s:=fun a w ha hw=>wpIn_seq (h a w ha hw)
theorem XC.block {id:Nat}{c:Code}(h:XC P M N E c (Exit.inBlock id Q) f g s):XC P M N E (.block id c) Q f g s:=fun a w ha hw=>wpIn_block (h a w ha hw)
theorem XC.cond {c:Operand}{x y:Code}{t:Bool}(hc:ev f c=some (.bool t))(h:XC P M N E (if t then x else y) Q f g s):XC P M N E (.cond c x y) Q f g s :=
 fun a w ha hw=>wpIn_cond (ha.ev hc) (h a w ha hw)
theorem XC.condT {c:Operand}{x y:Code}(hc:ev f c=some (.bool true))(h:XC P M N E x Q f g s):XC P M N E (.cond c x y) Q f g s:=XC.cond hc h
theorem XC.condF {c:Operand}{x y:Code}(hc:ev f c=some (.bool false))(h:XC P M N E y Q f g s):XC P M N E (.cond c x y) Q f g s:=XC.cond hc h
theorem XC.ifB {c:Operand}{x y:Code}{t:Bool}(hc:ev f c=some (.bool t))(h1:t=true→XC P M N E x Q f g s)(h2:t=false→XC P M N E y Q f g s) :
  XC P M N E (.cond c x y) Q f g s:=by
 cases t
 ·exact XC.condF hc (h2 I)
 ·exact XC.condT hc (h1 I)
theorem XC.ifP {c:Operand}{x y:Code}{p:Prop}[Decidable p](hc:ev f c=some (.bool (decide p)))(h1:p→XC P M N E x Q f g s)(h2:¬ p→XC P M N E y Q f g s) :
  XC P M N E (.cond c x y) Q f g s :=
 XC.ifB hc (fun h=>h1 (of_decide_eq_true h)) (fun h=>h2 (of_decide_eq_false h))
theorem XT.thenN {c:Code}(h:XC P M N E c Q f g s):XT M N E (Exit.then (c.wpIn (wf M.ro) 0 P Q) Q) .normal f g s:=h
theorem XT.thenX {K:Act→World→Prop}{id:Nat}(h:XT M N E Q (.exit id) f g s):XT M N E (Exit.then K Q) (.exit id) f g s:=h
theorem XT.blockN {id:Nat}(h:XT M N E Q .normal f g s):XT M N E (Exit.inBlock id Q) .normal f g s:=h
theorem XT.blockX {id:Nat}(h:XT M N E Q .normal f g s):XT M N E (Exit.inBlock id Q) (.exit id) f g s:=fun a w ha hw=>by simpa [Exit.inBlock] using h a w ha hw
def AgainX {ι:Type}(ds:List Deferred)(N:Nat)(E:World)(F:ι→Fr)(G:ι→PH)(S:ι→Own)(J:ι→Prop)(μ:ι→Nat)(i:ι)(a:Act)(w:World):Prop :=
 ∃ j,Okd ds N (F j) a∧At E (G j) (S j) w∧J j∧μ j<μ i
theorem XT.again {ι:Type}{F:ι→Fr}{G:ι→PH}{S:ι→Own}{J:ι→Prop}{μ:ι→Nat}{i:ι}(j:ι)(hf:Sub (F j) f)(hg:G j=g)(hs:S j=s)(hJ:J j)(hμ:μ j<μ i) :
  XT M N E (Exit.then (AgainX M.ds N E F G S J μ i) Q) .normal f g s:=fun _ _ ha hw=>⟨j,ha.sub hf,by rw[hg,hs]; exact hw,hJ,hμ⟩
theorem XC.loop {ι:Type}{c:Code}(F:ι→Fr)(G:ι→PH)(S:ι→Own)(J:ι→Prop)(μ:ι→Nat)(i:ι)(hf:Sub (F i) f)(hg:G i=g)(hs:S i=s)(h0:J i)
  (round:∀ i,J i→XC P M N E c (Exit.then (AgainX M.ds N E F G S J μ i) Q) (F i) (G i) (S i)):XC P M N E (.loop c) Q f g s:=by
 intro a w ha hw;have key:∀ n,∀ (i:ι) (a:Act) (w:World),μ i=n→Okd M.ds N (F i) a→At E (G i) (S i) w→J i→∀ (b:Frame) (k:List Item) (cs:List Frame),b.roundOf=(wf M.ro).round→(wf M.ro).fn b.fn→(wf M.ro).room (cs.length+1+0) →
   ∃ e a' w',Q e a' w'∧ArrivesIn (Machine.fenced P (wf M.ro)) P (lone (b.atR a (.code c :: .inLoop c::k)) cs w) b k cs e a' w':=by
  intro n;induction n using Nat.strongRecOn with
  | _ n ih =>
   intro i a w hn ha hI hJ b k cs hro hb hr;obtain ⟨e,a₁,w₁,hq,harr⟩:=round i hJ a w ha hI b (.inLoop c::k) cs hro hb hr;cases e with
   | normal =>
    obtain ⟨j,hok,hI₁,hJ₁,hlt⟩:=hq;obtain ⟨e₂,a₂,w₂,hq₂,harr₂⟩:=ih (μ j) (hn ▸ hlt) j a₁ w₁ rfl hok hI₁ hJ₁ b k cs hro hb hr;exact⟨e₂,a₂,w₂,hq₂,.of_steps (StepsIn.trans harr (.one (fenced_calm hb hr I) stepR_inLoop)) harr₂⟩
   | exit id=>exact⟨_,a₁,w₁,hq,.pass (x:=.inLoop c) rfl (fun _ _=>.inl (by simp)) harr⟩
   | goto l=>exact⟨_,a₁,w₁,hq,.pass (x:=.inLoop c) rfl (fun _ _=>.inl (by simp)) harr⟩
   | ret=>exact⟨_,a₁,w₁,hq,.pass (x:=.inLoop c) rfl (fun _ _=>.inl (by simp)) harr⟩
   | panic ch=>exact⟨_,a₁,w₁,hq,.pass (x:=.inLoop c) rfl (fun _ _=>.inl (by simp)) harr⟩
   | outgrown=>exact⟨_,a₁,w₁,hq,.pass (x:=.inLoop c) rfl (fun _ _=>.inl (by simp)) harr⟩
 intro b k cs hro hb hr;obtain ⟨e,a',w',hq,harr⟩:=key _ i a w rfl (ha.sub hf) (by rw[hg,hs]; exact hw) h0 b k cs hro hb hr;exact⟨e,a',w',hq,.of_steps (.one (fenced_calm hb hr I) stepR_loop) harr⟩
theorem XC.region {id:Nat}(h:XL P M N E ops Q ops.toList f g s):XC P M N E (.region id ops false) Q f g s:=fun a w ha hw=>wpIn_region_list (h a w ha hw)
theorem XL.nil (h:XT M N E Q .normal f g s):XL P M N E ops Q [] f g s:=fun a w ha hw=>h a w ha hw
theorem SO.xo {o:Oper}{K:Value→PH→Own→Prop}(hno:∀ c,o.op ≠ .defer c)(h:SO P N E o f g s K):XO P M N E o f g s K:=by
 intro a w ha hw Q next hn;refine⟨fun _ _=>trivial,?_⟩;rw[Oper.semAt_eq _ _ _ hno];have h1:=h (bare a) w ha.2 hw (fun _ _ _=>False) (fun a' w'=>a'.defers=[]∧∃ v g' s',a'=(bare a).put o.dst v∧K v g' s'∧At E g' s' w') (fun v g' s' w' hK hw'=>⟨put_defers _ _ _,v,g',s',rfl,hK,hw'⟩);unfold Oper.wp at h1;rw[bare_eval] at h1;have key:∀ v w',(((bare a).put o.dst v).defers=[]∧∃ v' g' s',(bare a).put o.dst v=(bare a).put o.dst v'∧K v' g' s'∧At E g' s' w')→next (a.put o.dst v) w':=by
  rintro v w' ⟨_,v',g',s',he,hK,hw'⟩;have:a.put o.dst v=a.put o.dst v':=by
   cases hd:o.dst with
   | none=>rfl
   | some d =>
    rw[hd] at he;have h2:=congrArg Act.tmps he;cases a;simp only[Act.put,bare] at h2 ⊢;rw[h2]
  rw[this];exact hn v' g' s' w' hK hw'
 generalize (execOp a.eval o).run P w=r at h1;cases r with
 | ok n w' =>
  cases n <;> simp only[Oper.upon] at h1 <;> first | exact h1.elim | skip
  ·exact key _ _ h1
  ·exact key _ _ h1
  ·rename_i f' args;exact⟨fun h=>(by cases h),(CallsIn.more (n:=0) ((callsIn_wide (n:=0)).2 (Calls.mono h1 (fun e w'' he=>by cases e with | returned v=>exact key _ _ he | panicked c=>exact he.elim | outgrown=>obtain ⟨_,_,h2⟩:=he; exact h2.elim))) (Nat.zero_le _))⟩
  ·exact absurd h1.1 (by rw[put_defers]; simp)
  ·exact⟨fun h=>(by cases h),fun c cs _=>let ⟨v,w'',r,st⟩:=h1 c cs; ⟨v,w'',key _ _ r,stepsIn_wide.2 st⟩⟩
 | halt x w'=>cases x <;> simp only[Oper.upon] at h1 <;> exact h1.elim
theorem XL.step {o:Oper}{l:List Oper}{K:Value→PH→Own→Prop}(hg:Gd N ops f o true)(ho:XO P M N E o f g s K)
  (h:∀ v g' s' a,K v g' s'→Okd M.ds N f a→∃ f',Okd M.ds N f' (a.put o.dst v)∧XL P M N E ops Q l f' g' s'):XL P M N E ops Q (o::l) f g s:=by
 intro a w ha hw;unfold wpListIn;have hwt:Region.wanted o (yielded ops a.tmps)=true:=hg (bare a) ha.2;rw[if_pos hwt];refine ho a w ha hw Q _ fun v g' s' w' hK hw'=>?_;obtain ⟨f',hf',hn⟩:=h v g' s' a hK ha;exact hn _ _ hf' hw'
theorem XL.x {d:Nat}{op:Op}{ty:TypeId}{pos:String}{af:Array Edge}{l:List Oper}{K:Value→PH→Own→Prop}(ho:XO P M N E ⟨some d,op,ty,pos,af,none⟩ f g s K)(hd:d<N)
  (h:∀ v g' s',K v g' s'→XL P M N E ops Q l ((d,v)::f) g' s'):XL P M N E ops Q (⟨some d,op,ty,pos,af,none⟩::l) f g s :=
 XL.step (Gd.none rfl) ho fun v g' s' _ hK ha=>⟨_,ha.put hd v,h v g' s' hK⟩
theorem XL.go {d:Nat}{op:Op}{ty:TypeId}{pos:String}{af:Array Edge}{gd:Option (Nat×Bool)}{l:List Oper}{K:Value→PH→Own→Prop}(hg:Gd N ops f ⟨some d,op,ty,pos,af,gd⟩ true)(ho:SO P N E ⟨some d,op,ty,pos,af,gd⟩ f g s K)(hd:d<N)
  (h:∀ v g' s',K v g' s'→XL P M N E ops Q l ((d,v)::f) g' s') (hno:∀ c,op ≠ .defer c:=by intro _ h; cases h):XL P M N E ops Q (⟨some d,op,ty,pos,af,gd⟩::l) f g s :=
 XL.step hg (ho.xo hno) fun v g' s' _ hK ha=>⟨_,ha.put hd v,h v g' s' hK⟩
theorem XL.o {d:Nat}{op:Op}{ty:TypeId}{pos:String}{af:Array Edge}{l:List Oper}{K:Value→PH→Own→Prop}(ho:SO P N E ⟨some d,op,ty,pos,af,none⟩ f g s K)(hd:d<N)
  (h:∀ v g' s',K v g' s'→XL P M N E ops Q l ((d,v)::f) g' s') (hno:∀ c,op ≠ .defer c:=by intro _ h; cases h):XL P M N E ops Q (⟨some d,op,ty,pos,af,none⟩::l) f g s :=
 XL.go (Gd.none rfl) ho hd h hno
theorem XL.on {op:Op}{ty:TypeId}{pos:String}{af:Array Edge}{l:List Oper}{K:Value→PH→Own→Prop}(ho:SO P N E ⟨none,op,ty,pos,af,none⟩ f g s K)
  (h:∀ v g' s',K v g' s'→XL P M N E ops Q l f g' s') (hno:∀ c,op ≠ .defer c:=by intro _ h; cases h):XL P M N E ops Q (⟨none,op,ty,pos,af,none⟩::l) f g s :=
 XL.step (Gd.none rfl) (ho.xo hno) fun v g' s' _ hK ha=>⟨f,ha,h v g' s' hK⟩
theorem XL.gq {d:Nat}{op:Op}{ty:TypeId}{pos:String}{af:Array Edge}{gd:Option (Nat×Bool)}{l:List Oper}{v:Value}(hg:Gd N ops f ⟨some d,op,ty,pos,af,gd⟩ true)(hq:SQ P N E ⟨some d,op,ty,pos,af,gd⟩ f g s v)(hd:d<N)
  (h:XL P M N E ops Q l ((d,v)::f) g s) (hno:∀ c,op ≠ .defer c:=by intro _ h; cases h):XL P M N E ops Q (⟨some d,op,ty,pos,af,gd⟩::l) f g s :=
 XL.go hg hq.so hd (fun v' g' s' ⟨e1,e2,e3⟩=>by subst e1; subst e2; subst e3; exact h) hno
theorem XL.q {d:Nat}{op:Op}{ty:TypeId}{pos:String}{af:Array Edge}{l:List Oper}{v:Value}(hq:SQ P N E ⟨some d,op,ty,pos,af,none⟩ f g s v)(hd:d<N)
  (h:XL P M N E ops Q l ((d,v)::f) g s) (hno:∀ c,op ≠ .defer c:=by intro _ h; cases h):XL P M N E ops Q (⟨some d,op,ty,pos,af,none⟩::l) f g s:=XL.gq (Gd.none rfl) hq hd h hno
theorem XL.gu {d:Nat}{op:Op}{ty:TypeId}{pos:String}{af:Array Edge}{gd:Option (Nat×Bool)}{l:List Oper}{v:Value}(hg:Gd N ops f ⟨some d,op,ty,pos,af,gd⟩ true)(hq:SU P N ⟨some d,op,ty,pos,af,gd⟩ f v)(hd:d<N)
  (h:XL P M N E ops Q l ((d,v)::f) g s) (hno:∀ c,op ≠ .defer c:=by intro _ h; cases h):XL P M N E ops Q (⟨some d,op,ty,pos,af,gd⟩::l) f g s:=XL.gq hg hq.sq hd h hno
theorem XL.u {d:Nat}{op:Op}{ty:TypeId}{pos:String}{af:Array Edge}{l:List Oper}{v:Value}(hq:SU P N ⟨some d,op,ty,pos,af,none⟩ f v)(hd:d<N)
  (h:XL P M N E ops Q l ((d,v)::f) g s) (hno:∀ c,op ≠ .defer c:=by intro _ h; cases h):XL P M N E ops Q (⟨some d,op,ty,pos,af,none⟩::l) f g s:=XL.q hq.sq hd h hno
theorem XL.off {d:Nat}{op:Op}{ty:TypeId}{pos:String}{af:Array Edge}{gd:Option (Nat×Bool)}{l:List Oper}(hg:Gd N ops f ⟨some d,op,ty,pos,af,gd⟩ false)(hd:d<N)
  (h:XL P M N E ops Q l ((d,undef)::f) g s):XL P M N E ops Q (⟨some d,op,ty,pos,af,gd⟩::l) f g s:=by
 intro a w ha hw;unfold wpListIn;have hwt:Region.wanted (⟨some d,op,ty,pos,af,gd⟩:Oper) (yielded ops a.tmps)=false:=hg (bare a) ha.2;rw[if_neg (by rw[hwt]; simp)];exact⟨fun _ _=>trivial,h _ _ (ha.put hd undef) hw⟩
theorem At.obj {w:World}{b i:Nat}{o o':Obj}(h:At E g s w)(hi:s[i]?=some (pt b o)):At E g (s.set i (pt b o')) (w.putObj b o'):=by
 have h2:=h.fresh _ (List.mem_of_getElem? hi) b rfl;refine h.turn hi I ⟨I,lR _⟩ I (by simp[World.putObj]) (fun k _ hk=>World.putObj_heap_other (fun e=>hk (by simp[pt,e]))) ?_ (fun b' hb'=>?_)
 ·simp only[pt,Option.bind_some];exact World.putObj_heap_same h2.2
 ·simp only[pt,Option.some.injEq] at hb';subst hb';exact⟨by simpa [World.putObj] using h2.2,.inl I⟩
theorem At.here {w:World}{b i:Nat}{o:Obj}(h:At E g s w)(hi:s[i]?=some (pt b o)):w.heap[b]?=some o:=by
 have:=h.own _ (List.mem_of_getElem? hi);simpa [pt] using this
end
def YieldC (P:Program)(E:World)(l:Nat)(args:Array Value)(g:PH)(s:Own)(R:Value→PH→Own→Prop):Prop :=
 ∀ w,At E g s w→YieldAt Fence.wide 0 P l args w fun e w'=>∃ v g' s',e = .returned v∧At E g' s' w'∧R v g' s'
def Gives (P:Program)(E:World)(gf:FuncId)(lb:List Value){α:Type}(encs:α→List Value)(xs:List α)(g0:PH):Prop :=
 ∀ (l:Nat) (ι:Type) (G:ι→PH) (S:ι→Own) (J:List α→ι→Prop) (i0:ι),J [] i0→(∀ pre i,J pre i→Le g0 (G i)) →
  (∀ pre x suf i sx,xs=pre++x::suf→J pre i→YieldC P E l (encs x).toArray (G i) (S i++sx) (fun v g' s'=>v = .bool true∧∃ j,J (pre++[x]) j∧g'=G j∧s'=S j++sx)) →
  ∀ sx,Ctr P E gf (.func (.yield l) #[] #[]::lb).toArray (G i0) (S i0++sx) (fun _ g' s'=>∃ j,J xs j∧g'=G j∧s'=S j++sx)
section
variable {P:Program}{M:Md}{N:Nat}{E:World}{Q:Exit→Act→World→Prop}{f:Fr}{g:PH}{s:Own}{dst:Option Tmp}{ty:TypeId}{pos:String}{af:Array Edge}{gd:Option (Nat×Bool)}
theorem XO.yield {x:Operand}{l:List Operand}{tys:Array TypeId}{vs:List Value}{k:Nat}{R:Value→PH→Own→Prop}(hx:ev f x=some (.func (.yield k) #[] #[]))(hl:evs f l=some vs)(hY:YieldC P E k vs.toArray g s R) :
  XO P M N E ⟨dst,.call ⟨.value x,l.toArray,tys⟩,ty,pos,af,gd⟩ f g s R:=by
 intro a w ha hw Q next hn;refine⟨fun _ _=>trivial,?_⟩;rw[Oper.semAt_eq _ _ _ (fun _ h=>by cases h)];obtain ⟨fn,tmps,assign,body,hy,hR⟩:=hY w hw;have h1:a.eval x = .func (.yield k) #[] #[]:=ha.ev hx;have h2:l.map a.eval=vs:=by have:=ha.2.evs hl; rwa [bare_eval] at this
 have h3:(execOp a.eval ⟨dst,.call ⟨.value x,l.toArray,tys⟩,ty,pos,af,gd⟩).run P w = .ok (.round k fn tmps assign body) w:=by
  simp only[execOp,resolve,h1,List.map_toArray,h2];simp[Deferred.ofValue,Sem.run_bind,invoke,hy]
 rw[h3];refine⟨fun h=>(by cases h),RoundIn.mono hR fun e w' he=>?_⟩;obtain ⟨v,g',s',rfl,hat,hRR⟩:=he;exact hn v g' s' w' hRR hat
theorem Ctr.ofX {n:FuncId}{fn:Func}{c:Code}{args:List Value}{R:Value→PH→Own→Prop}
  (hf:P.funcs[n]?=some fn) (hb:fn.body=some c) (hN:fn.ntmps=N) (hle:args.length≤N)
  (h:XC P ⟨none,[]⟩ N E c (bodyPostM (wf none) 0 P fn (Post E R)) (entryFr 0 args) g s):Ctr P E n args.toArray g s R:=by
 intro w hw;refine (callsIn_wide (n:=0)).1 (callsIn_of_wp_marks (F:=wf none) hf hb trivial (h _ w ⟨I,⟨I,?_,fun t v hv=>?_⟩⟩ hw) I)
 ·simp[bare,hN]; omega
 ·obtain ⟨_,h2⟩:=get?_entryFr args 0 t v hv;have hlt:t<args.length:=(List.getElem?_eq_some_iff.1 (by simpa using h2)).1;simp only[Nat.sub_zero] at h2;obtain ⟨_,h3⟩:=List.getElem?_eq_some_iff.1 h2;simp[bare,Array.getElem?_append,hlt,h3]
theorem XT.leave0 {fn:Func}{R:Value→PH→Own→Prop}{e:Exit}(he:e = .ret∨e = .normal)(h:ST N E (bodyPost P fn (Post E R)) e f g s):XT ⟨none,[]⟩ N E (bodyPostM (wf none) 0 P fn (Post E R)) e f g s:=by
 intro a w ha hw;have h1:=h (bare a) w ha.2 hw
 rcases he with rfl | rfl
 all_goals
  obtain ⟨_,v,h2,h3⟩:=h1;show LeavesInM _ _ _ _ _ _ a.defers _ _;rw[ha.1];exact⟨v,h2,h3⟩
theorem XT.leave1 {fn:Func}{R:Value→PH→Own→Prop}{e:Exit}{D:Nat}(he:e = .ret∨e = .normal)(h:ST N E (bodyPost P fn (Post E R)) e f g s) :
  XT ⟨none,[⟨.collected D,#[]⟩]⟩ N E (bodyPostM (wf none) 0 P fn (Post E R)) e f g (pt D (.deferred (some []))::s):=by
 intro a w ha hw;have hD:w.heap[D]?=some (.deferred (some [])):=At.here (i:=0) hw rfl;have hw2:=(At.obj (i:=0) (o':=.deferred none) hw rfl).sublist (List.sublist_cons_self _ _);have h1:=h (bare a) _ ha.2 hw2
 rcases he with rfl | rfl
 all_goals
  obtain ⟨_,v,h2,h3⟩:=h1;show LeavesInM _ _ _ _ _ _ a.defers _ _;rw[ha.1];exact⟨by simp,.inl ⟨D,_,I,run_takeDeferred hD,v,h2,h3⟩⟩
theorem params1 {a:Act}{t:Nat}{u:Value}(h:Ok N f (bare a))(ht:t<N):Ok N ((t,u)::f) { tmps:=((#[t]:Array Tmp).zip [u].toArray).foldl (fun t (p,v)=>t.setIfInBounds p v) a.tmps,defers:=[] }:=by
 have:=h.put ht u;simpa [Act.put,bare] using this
theorem params2 {a:Act}{t t':Nat}{u u':Value}(h:Ok N f (bare a))(ht:t<N)(ht':t'<N):Ok N ((t',u')::(t,u)::f) { tmps:=((#[t,t']:Array Tmp).zip [u,u'].toArray).foldl (fun t (p,v)=>t.setIfInBounds p v) a.tmps,defers:=[] }:=by
 have:=(h.put ht u).put ht' u';simpa [Act.put,bare] using this
def RoundEnd {α ι:Type}(E:World)(G:ι→PH)(S:ι→Own)(J:List α→ι→Prop)(pre:List α)(x:α)(sx:Own):Exit→Act→World→Prop:=fun e _ w'=>e = .normal∧∃ j,At E (G j) (S j++sx) w'∧J (pre++[x]) j
def AssignEnd {N:Nat}(E:World)(g:PH)(s:Own)(fb:Fr):Exit→Act→World→Prop:=fun e a' w'=>e = .normal∧Okd [] N fb a'∧At E g s w'
theorem XT.roundEnd {α ι:Type}{G:ι→PH}{S:ι→Own}{J:List α→ι→Prop}{pre:List α}{x:α}{sx:Own}(j:ι)(hg:G j=g)(hs:S j++sx=s)(hj:J (pre++[x]) j):XT M N E (RoundEnd E G S J pre x sx) .normal f g s:=fun _ _ _ hw=>⟨rfl,j,by rw[hg,hs]; exact hw,hj⟩
theorem XT.assignEnd {fb:Fr}{ro:Option Nat}(hf:Sub fb f):XT ⟨ro,[]⟩ N E (AssignEnd (N:=N) E g s fb) .normal f g s:=fun _ _ ha hw=>⟨rfl,ha.sub hf,hw⟩
theorem XC.rangeFunc {α ι:Type}{gop:Operand}{ps:Array Tmp}{assign body:Code}{gf:FuncId}{lb:List Value}{encs:α→List Value}{xs:List α}{g0:PH}(G:ι→PH)(S:ι→Own)(J:List α→ι→Prop)(i0:ι)(sx0:Own)(fa:α→Fr)(fb:List α→α→ι→Fr)
  (hro:M.ro=none) (hg:ev f gop=some (.func (.func gf) #[] lb.toArray)) (eg:∀ args w,(callFunc gf args).run P w = .ok (.enter gf args) w) (hps:∀ x,(encs x).length=ps.size)
  (hG:G i0=g) (hS:S i0++sx0=s) (hseq:Gives P E gf lb encs xs g0) (hmono:∀ pre i,J pre i→Le g0 (G i)) (h0:J [] i0)
  (hfa:∀ x a,Ok N f (bare a)→Ok N (fa x) { tmps:=(ps.zip (encs x).toArray).foldl (fun t (p,v)=>t.setIfInBounds p v) a.tmps,defers:=[] })
  (hassign:∀ l pre x i sx,J pre i→XC P ⟨some l,[]⟩ N E assign (AssignEnd (N:=N) E (G i) (S i++sx) (fb pre x i)) (fa x) (G i) (S i++sx))
  (hbody:∀ l pre x suf i sx,xs=pre++x::suf→J pre i→XC P ⟨some l,[]⟩ N E body (RoundEnd E G S J pre x sx) (fb pre x i) (G i) (S i++sx))
  (hdone:∀ D j,J xs j→XT ⟨none,⟨.collected D,#[]⟩::M.ds⟩ N E Q .normal f (G j) (pt D (.deferred (some []))::(S j++sx0))):XC P M N E (.rangeFunc gop ps assign body) Q f g s:=by
 subst hG hS;intro a w ha hw;rw[hro];refine wpIn_rangeFunc ?_;intro fn _;obtain ⟨rec,hrec⟩:∃ rec:LoopState→Option Code→Loop,rec=fun st pe=>{ state:=st,pending:=pe,fn,tmps:=a.tmps,params:=ps,assign,body,defers:=w.heap.size }:=⟨_,rfl⟩;obtain ⟨L,hL⟩:∃ L,L=w.heap.size+1:=⟨_,rfl⟩;obtain ⟨D,hD⟩:∃ D,D=w.heap.size:=⟨_,rfl⟩;obtain ⟨W1,hW1⟩:∃ W1,(w.alloc (.deferred (some []))).alloc (.loop (rec .ready none))=W1:=⟨_,rfl⟩;have hA:At E (G i0) (pt L (.loop (rec .ready none))::pt D (.deferred (some []))::(S i0++sx0)) W1:=by
  rw[← hW1,hL,hD];have h1:At E (G i0) (pt w.heap.size (.deferred (some []))::(S i0++sx0)) (w.alloc (.deferred (some []))):=hw.alloc (e:=pt w.heap.size (.deferred (some []))) rfl rfl;have h2:=h1.alloc (e:=pt (w.alloc (.deferred (some []))).heap.size (.loop (rec .ready none))) rfl rfl;rw[World.size_alloc] at h2;exact h2
 obtain ⟨S2,hS2⟩:∃ S2:ι→Own,S2=fun i=>S i++(pt L (.loop (rec .ready none))::pt D (.deferred (some []))::sx0):=⟨_,rfl⟩;have hA2:At E (G i0) (S2 i0++[]) W1:=by
  rw[hS2,List.append_nil];dsimp only;refine hA.perm ?_;have h1:(pt L (.loop (rec .ready none))::pt D (.deferred (some []))::(S i0++sx0))=[pt L (.loop (rec .ready none)),pt D (.deferred (some []))]++(S i0++sx0):=rfl;have h2:S i0++(pt L (.loop (rec .ready none))::pt D (.deferred (some []))::sx0)=S i0++([pt L (.loop (rec .ready none)),pt D (.deferred (some []))]++sx0):=rfl;rw[h1,h2,← List.append_assoc,← List.append_assoc];exact List.perm_append_comm.append_right _
 refine⟨L,[{ target:=.collected D,args:=#[] }],W1,{ target:=.fn (.func gf) lb.toArray,args:=#[.func (.yield L) #[] #[]] },W1,gf,(.func (.yield L) #[] #[]::lb).toArray,W1,?_,?_,fun _ _=>trivial,?_,fun h=>(by cases h),?_⟩
 ·rw[← hW1,hrec,hL,hD]; exact run_enterLoop_outer _ _ _ _ _
 ·have h1:a.eval gop = .func (.func gf) #[] lb.toArray:=ha.ev hg;simp only[resolve,h1];simp[go_sem]
 ·have:(#[.func (.yield L) #[] #[]]++lb.toArray:Array Value)=(.func (.yield L) #[] #[]::lb).toArray:=by simp
  simp[invoke,go_sem,eg]
 ·refine (callsIn_wide (n:=0 - 1)).2 ((hseq L ι G S2 J i0 h0 hmono ?_ [] W1 hA2).mono ?_)
  ·intro pre x suf i sx hxs hJ W hW;rw[hS2] at hW;simp only[List.append_assoc,List.cons_append] at hW;have hlen:(S i).length=(S i).length:=rfl;have gl:∀ (i:ι) (u u':Ent) (r:Own),(S i++u::u'::r)[(S i).length]?=some u:=fun i u u' r=>by simp
   have hl:=hW.here (gl i _ _ _);have hy:=run_yield (P:=P) (args:=(encs x).toArray) hl (by rw[hrec]; simpa using hps x);rw[hrec] at hy;refine⟨fn,_,assign,body,hy,roundIn_of_wpIn trivial ?_⟩;refine Code.wpIn_mono (fun e a1 w1 h1=>?_) (hassign L pre x i _ hJ { tmps:=(ps.zip (encs x).toArray).foldl (fun t (p,v)=>t.setIfInBounds p v) a.tmps,defers:=[] } W ⟨I,hfa x a ha.2⟩ hW);obtain ⟨rfl,ha1,hw1⟩:=h1;have hl1:=hw1.here (gl i _ _ _);refine⟨_,run_beginRound hl1 (by rw[hrec]),?_⟩;have hset:∀ (i:ι) (u u' v:Ent) (r:Own),(S i++u::u'::r).set (S i).length v=S i++v::u'::r:=fun i u u' v r=>by simp
   have hw2:=hw1.obj (o':=.loop { rec .ready none with state:=.busy }) (gl i _ _ _);rw[hset] at hw2;refine Code.wpIn_mono (fun e a3 w3 h3=>?_) (hbody L pre x suf i _ hxs hJ a1 _ ha1 hw2);obtain ⟨rfl,j,hw3,hJ3⟩:=h3;have hl3:=hw3.here (gl j _ _ _);have he:=run_endRound (P:=P) none hl3;have hw4:=hw3.obj (o':=.loop { (rec .ready none) with state:=.ready,pending:=none }) (gl j _ _ _);rw[hset] at hw4;refine⟨_,_,he,.bool true,G j,S2 j++sx,I,?_,I,j,hJ3,I,I⟩;rw[hS2];simp only[List.append_assoc,List.cons_append];rw[hrec] at hw4 ⊢;exact hw4
  ·rintro e W2 ⟨v,g',s',rfl,hat,j,hJ,rfl,rfl⟩;rw[hS2,List.append_nil] at hat;have gl:∀ (i:ι) (u u':Ent) (r:Own),(S i++u::u'::r)[(S i).length]?=some u:=fun i u u' r=>by simp
   have hl:=hat.here (gl j _ _ _);have he:=run_endLoop (P:=P) hl (by rw[hrec]; simp);have h2:=hat.obj (o':=.loop { (rec .ready none) with state:=.exhausted }) (gl j _ _ _);have hset:∀ (i:ι) (u u' v:Ent) (r:Own),(S i++u::u'::r).set (S i).length v=S i++v::u'::r:=fun i u u' v r=>by simp
   rw[hset] at h2;have hpn:(rec .ready none).pending=none:=by rw[hrec]
   refine⟨none,_,he.trans (congrArg (fun p=>Result.ok p _) hpn),?_⟩;refine hdone D j hJ _ _ ⟨by rw[← ha.1]; rfl,ha.2⟩ ?_;have h3:=(h2.sublist (s':=S j++pt D (.deferred (some []))::sx0) (by exact (List.Sublist.refl _).append (List.sublist_cons_self _ _))).perm List.perm_middle;exact h3
end
end Go.Sy
namespace Go.Sy
open Go
section
variable {P:Program}{M:Md}{N:Nat}{E:World}{Q:Exit→Act→World→Prop}{f:Fr}{g:PH}{s:Own}{dst:Option Tmp}{ty:TypeId}{pos:String}{af:Array Edge}{gd:Option (Nat×Bool)}
end
end Go.Sy
namespace Go.Sy
open Go
section
variable {P:Program}{M:Md}{N:Nat}{E:World}{Q:Exit→Act→World→Prop}{f:Fr}{g:PH}{s:Own}{dst:Option Tmp}{ty:TypeId}{pos:String}{af:Array Edge}{gd:Option (Nat×Bool)}
def AssignEndA {κ:Type}{N:Nat}(E:World)(g:PH)(s:Own)(fb:κ→Fr)(X:κ→Own):Exit→Act→World→Prop:=fun e a' w'=>e = .normal∧∃ q,Okd [] N (fb q) a'∧At E g (X q++s) w'
theorem XT.assignEndA {κ:Type}{fb:κ→Fr}{X:κ→Own}{ro:Option Nat}{s0:Own}(q:κ)(hf:Sub (fb q) f)(hs:X q++s0=s):XT ⟨ro,[]⟩ N E (AssignEndA (N:=N) E g s0 fb X) .normal f g s:=fun _ _ ha hw=>⟨rfl,q,ha.sub hf,by rw[hs]; exact hw⟩
end
end Go.Sy
namespace Go.Proofs.YtmmghffoakhheaaGreatDoor
open _root_.Go.Proofs.Tryz _root_.Go.Proofs.YtmmghffoakhheaaGreatDoor.Tryz
open Go Go.Sy Go.Pl Go.Proofs
set_option maxRecDepth 100000
set_option maxHeartbeats 1000000
theorem filt_succ {α β:Type}{l:List α}{k:Nat}(h:k<l.length)(p:α→Bool)(f:α→β):((l.take (k+1)).filter p).map f=((l.take k).filter p).map f++(if p l[k] then [f l[k]] else []):=by
 rw[tS h,List.filter_append,List.map_append];congr 1;simp only[List.filter_cons,List.filter_nil];split <;> rfl
theorem filt_le {α β:Type}(l:List α)(k:Nat)(p:α→Bool)(f:α→β):(((l.take k).filter p).map f).length≤k:=by
 rw[List.length_map];refine Nat.le_trans (List.length_filter_le _ _) ?_;rw[List.length_take]; omega
theorem Tryz.buildE54 (w:World):(Instr.build 54 #[]).run Tryz.prog w = .ok (.agg #[vi 0,vi 0,.slice none 0 0]) w:=by
 simp[Instr.build,Instr.fill];rfl
def idsC (l:List Cl)(d:Int):List Int:=((tabC l).filter fun c=>decide (c.dim=d)).map Cl.id
theorem SU.maxI {P:Program}{N:Nat}{f:Fr}{dst:Option Tmp}{ty:TypeId}{pos:String}{af:Array Edge}{gd:Option (Nat×Bool)}{x y:Operand}{T U:TypeId}{m n:Int}(hx:ev f x=some (vi m))(hy:ev f y=some (vi n)) :
  SU P N ⟨dst,.call ⟨.builtin .max,#[x,y],#[T,U]⟩,ty,pos,af,gd⟩ f (vi (max m n)):=fun a w ha=>by
 have h:=run_max_int2 (P:=P) (w:=w) #[T,U] ty .i64 .i64 m n;have h2:(if m<n then n else m)=max m n:=by split <;> omega
 rw[h2] at h;simp[execOp,resolve,invoke,builtin,ha.ev hx,ha.ev hy,h]
theorem refIds_spec (E:World)(g:PH)(s:Own)(v:Value)(l:List Cl)(d:Int)(hv:Cells g v l)(hf:Fits l) :
  Ctr Tryz.prog E 18 #[.agg #[v],vi d] g s (fun r g' s'=>s=s'∧Le g g'∧Ints g' r (idsC l d)):=by
 have hft:=tabC_fits hf;have hfl:=hft.1;obtain ⟨p,c,rfl⟩:=hv.form;refine Ctr.of (args:=[.agg #[.slice p l.length c],vi d]) func18 I ntmps18 (bE I) ?_;refine rZ (bW (bO I) fun b2=>?_);refine aT I (rZ (aT I (rZ (lK (qV 0 iT29 zT29 I I I) (lW (SO.call call42 I (refCells_spec E g _ _ l hv hf)) ?_)))));rintro v9 g1 _ ⟨rfl,hle,hc⟩;obtain ⟨rs,hrs,hall⟩:=hc;obtain ⟨q,dd,rfl⟩:=hrs.form;refine aT I (sQ (rZ (aT I (bK ?_))));have hrl:=hall.length;unfold idsC;generalize tabC l=A at *;refine SC.nilRow 3 1 ?_;refine oP (ι:=Value×Nat) (fun i=>[(1,vi d),(5,i.1),(6,.slice q rs.length dd),(7,vi i.2)]) (fun _=>g1) (fun i=>rowA encInt 3 i.1 (((A.take i.2).filter fun c=>decide (c.dim=d)).map Cl.id)::pt b2 (.cells #[.slice p l.length c] 29 (0,0))::s)
  (fun i=>i.2≤A.length) (fun i=>A.length - i.2) (.slice none 0 0,0) sB rfl rfl (Nat.zero_le _) ?_
 rintro ⟨ov,k⟩ hk;dsimp only at hk ⊢;refine sQ (sW I (lM I (lU (eN uT27 I) (yL I (tZ ?_)))));refine iP I (fun hlt=>?_) (fun hlt=>?_)
 ·have hkl:k<A.length:=oM;have hkr:k<rs.length:=oM;have hb1:=hrs.based oM;have hcr:=hall.get (gE hkl) (gE hkr);have hgr:rs[((k:Nat):Int).toNat]?=some rs[k]:=gE hkr;have hsucc:=filt_succ hkl (fun c=>decide (c.dim=d)) Cl.id;have hlek:=filt_le A k (fun c=>decide (c.dim=d)) Cl.id;have hxl:=hft.2 _ (gM hkl);generalize A[k]=x at *;generalize rs[k]=r at *;refine kP (tN (sQ (bK (sW rfl (lM rfl (lU (iA uT27 zT54 rfl rfl hb1 oM sL) (lU (fC uT54 rfl zT3 rfl hb1) (lK (aZ (e:=encCell) (o:=1) (u:=vi x.dim) iT3 rfl hrs.rd hgr (by rw[← hcr.2.1]; rfl)) ?_))))))));refine lM I (yE I (tZ ?_));refine iP I (fun hd=>?_) (fun hd=>?_)
  ·refine rG (lM rfl (lM rfl (lM rfl (lU (iA uT27 zT54 rfl rfl hb1 oM sL) (lU (fC uT54 rfl zT3 rfl hb1) (lK (aZ (e:=encCell) (o:=0) (u:=vi x.id) iT3 rfl hrs.rd hgr (by rw[← hcr.1]; rfl)) ?_))))));refine lW (bS sty22 I I I (szs_mk sB) dC) ?_;rintro _ _ _ ⟨b29,rfl,rfl,rfl⟩;refine lW (aP (e:=encInt) 0 x.id sty22 I I I I I oM oM) ?_;rintro ov' _ _ ⟨rfl,rfl⟩;refine lA I (nL (bN (tN (rG (lM I (yD I (lA I (nL ?_))))))));refine ST.to (fun w hw=>?_) (g':=g1) (s':=rowA encInt 3 ov' (((A.take (k+1)).filter fun c=>decide (c.dim=d)).map Cl.id)::pt b2 (.cells #[.slice p l.length c] 29 (0,0))::s) ?_
   ·rw[hsucc,if_pos (decide_eq_true hd)]; exact hw
   exact ST.again (ov',k+1) sB I I (by dsimp only; omega) lN
  ·refine kP (bN (tN (rG (lM I (yD I (lA I (nL ?_)))))));refine ST.to (fun w hw=>?_) (g':=g1) (s':=rowA encInt 3 ov (((A.take (k+1)).filter fun c=>decide (c.dim=d)).map Cl.id)::pt b2 (.cells #[.slice p l.length c] 29 (0,0))::s) ?_
   ·rw[hsucc,if_neg (by rw[decide_eq_false hd]; simp),List.append_nil]; exact hw
   exact ST.again (ov,k+1) sB I I (by dsimp only; omega) lN
 ·have hkk:A.take k=A:=tL oM;rw[hkk];refine xI (tX (tX (bX (tN (sW I (aT I (rE (fT fun g2 hle2 hs2=>?_))))))));refine dR (s':=s) uR ?_;exact ST.ret1 (.inl I) results18 I ⟨I,hle.trans hle2,hs2⟩
theorem refHas_spec (E:World)(g:PH)(s:Own)(c:Cl)(r:Rc)(id:Int)(hc:CellR g c r)(hl:c.sides.length<1099511627776) :
  Ctr Tryz.prog E 88 #[rcv r,vi id] g s (fun x g' s'=>x=vb (hasC c id)∧g=g'∧s=s'):=by
 obtain ⟨ri,rd,⟨rp,rn,rc⟩⟩:=r;have hs:SlA encSide g (.slice rp rn rc) c.sides:=hc.2.2;have hn:rn=c.sides.length:=Sl.slen hs;subst hn;refine Ctr.of (args:=[rcv ⟨ri,rd,⟨rp,c.sides.length,rc⟩⟩,vi id]) func88 I ntmps88 (bE I) ?_;refine rZ (bW (bO I) fun b2=>?_);refine aT I (sQ (rZ (aT I (bK ?_))));refine oP (ι:=Nat) (fun k=>[(1,vi id),(2,pp b2 0),(5,vi k)]) (fun _=>g) (fun _=>pt b2 (.cells #[vi ri,vi rd,.slice rp c.sides.length rc] 54 (0,0))::s)
  (fun k=>k≤c.sides.length∧(c.sides.take k).any (fun x=>decide (x.cell=id))=false) (fun k=>c.sides.length - k) 0 sB rfl rfl ⟨Nat.zero_le _,rfl⟩ ?_
 rintro k ⟨hk,hno⟩;refine sQ (sW I (lU (fA uT54 I zT37 I) (lK (qL (v:=.slice rp c.sides.length rc) iT37 I (cO 0 I I)) (lU (eN uT37 I) (yL I (tZ ?_))))));refine iP I (fun hlt=>?_) (fun hlt=>?_)
 ·have hkl:k<c.sides.length:=oM;have hb1:=hs.based oM;have hgk:c.sides[((k:Nat):Int).toNat]?=some c.sides[k]:=gE hkl;have htk:(c.sides.take (k+1)).any (fun x=>decide (x.cell=id))=((c.sides.take k).any (fun x=>decide (x.cell=id))||decide (c.sides[k].cell=id)):=by
   rw[tS hkl,List.any_append]; simp
  have hmem:c.sides[k]∈c.sides:=gM hkl;generalize c.sides[k]=x at *;refine kP (tN (sQ (bK (rZ (lU (fA uT54 I zT37 I) (lK (qL (v:=.slice rp c.sides.length rc) iT37 I (cO 0 I I)) (lM I (lU (iA uT37 zT56 I I hb1 oM sL) (lU (fC uT56 I zT3 I hb1) (lK (aZ (e:=encSide) (o:=0) (u:=vi x.cell) iT3 I hs.rd hgk I) (lM I (yE I (tZ ?_)))))))))))));refine iP I (fun he=>?_) (fun he=>?_)
  ·refine rZ (aT I (rE (bR (tR (tR (bR (tR (dR (s':=s) uR ?_))))))));exact ST.ret1 (.inl I) results88 I ⟨by rw[show hasC c id=true from List.any_eq_true.2 ⟨x,hmem,decide_eq_true he⟩],I,I⟩
  ·refine kP (bN (tN (rG (lM I (yD I (lA I (nL ?_)))))));exact ST.again (k+1) sB rfl rfl ⟨oM,by rw[htk,hno,decide_eq_false he]; rfl⟩ oM
 ·have hkk:c.sides.take k=c.sides:=tL oM;rw[hkk] at hno;refine xI (tX (tX (bX (tN (rZ (aT I (rE (dR (s':=s) uR ?_))))))));exact ST.ret1 (.inl I) results88 I ⟨by rw[show hasC c id=false from hno],I,I⟩
theorem refAbove_spec (E:World)(g:PH)(s:Own)(v:Value)(l:List Cl)(id:Int)(hv:Cells g v l)(hf:Fits l) :
  Ctr Tryz.prog E 54 #[.agg #[v],vi id] g s (fun r g' s'=>s=s'∧Le g g'∧Ints g' r (aboveC l id)):=by
 have hft:=tabC_fits hf;have hfl:=hft.1;obtain ⟨p,c,rfl⟩:=hv.form;refine Ctr.of (args:=[.agg #[.slice p l.length c],vi id]) func54 I ntmps54 (bE I) ?_;refine rZ (bW (bO I) fun b2=>?_);refine aT I (rZ (aT I (rZ (lK (qV 0 iT29 zT29 I I I) (lW (SO.call call42 I (refCells_spec E g _ _ l hv hf)) ?_)))));rintro v9 g1 _ ⟨rfl,hle,hc⟩;obtain ⟨rs,hrs,hall⟩:=hc;obtain ⟨q,dd,rfl⟩:=hrs.form;refine aT I (sQ (rZ (aT I (bK ?_))));have hrl:=hall.length;unfold aboveC;generalize tabC l=A at *;refine SC.nilRow 3 1 ?_;refine oP (ι:=Value×Nat) (fun i=>[(1,vi id),(5,i.1),(6,.slice q rs.length dd),(7,vi i.2)]) (fun _=>g1) (fun i=>rowA encInt 3 i.1 (((A.take i.2).filter fun c=>hasC c id).map Cl.id)::pt b2 (.cells #[.slice p l.length c] 29 (0,0))::s)
  (fun i=>i.2≤A.length) (fun i=>A.length - i.2) (.slice none 0 0,0) sB rfl rfl (Nat.zero_le _) ?_
 rintro ⟨ov,k⟩ hk;dsimp only at hk ⊢;refine sQ (sW I (lM I (lU (eN uT27 I) (yL I (tZ ?_)))));refine iP I (fun hlt=>?_) (fun hlt=>?_)
 ·have hkl:k<A.length:=oM;have hkr:k<rs.length:=oM;have hb1:=hrs.based oM;have hcr:=hall.get (gE hkl) (gE hkr);have hgr:rs[((k:Nat):Int).toNat]?=some rs[k]:=gE hkr;have hsucc:=filt_succ hkl (fun c=>hasC c id) Cl.id;have hlek:=filt_le A k (fun c=>hasC c id) Cl.id;have hxl:=hft.2 _ (gM hkl);generalize A[k]=x at *;generalize rs[k]=r at *;refine kP (tN (sQ (bK (sW I (lM I (lU (iA uT27 zT54 I I hb1 oM sL) (lK (eA iT54 zT54 I hrs.rd hgr) (lM I (lW (SO.call call88 I (refHas_spec E g1 _ x r id hcr hxl)) ?_)))))))));rintro _ _ _ ⟨rfl,rfl,rfl⟩;refine tZ ?_;refine iQ I (fun hd=>?_) (fun hd=>?_)
  ·refine rG (lM rfl (lM rfl (lM rfl (lU (iA uT27 zT54 rfl rfl hb1 oM sL) (lU (fC uT54 rfl zT3 rfl hb1) (lK (aZ (e:=encCell) (o:=0) (u:=vi x.id) iT3 rfl hrs.rd hgr (by rw[← hcr.1]; rfl)) ?_))))));refine lW (bS sty22 I I I (szs_mk sB) dC) ?_;rintro _ _ _ ⟨b28,rfl,rfl,rfl⟩;refine lW (aP (e:=encInt) 0 x.id sty22 I I I I I oM oM) ?_;rintro ov' _ _ ⟨rfl,rfl⟩;refine lA I (nL (bN (tN (rG (lM I (yD I (lA I (nL ?_))))))));refine ST.to (fun w hw=>?_) (g':=g1) (s':=rowA encInt 3 ov' (((A.take (k+1)).filter fun c=>hasC c id).map Cl.id)::pt b2 (.cells #[.slice p l.length c] 29 (0,0))::s) ?_
   ·rw[hsucc,if_pos (hd)]; exact hw
   exact ST.again (ov',k+1) sB I I (by dsimp only; omega) lN
  ·refine kP (bN (tN (rG (lM I (yD I (lA I (nL ?_)))))));refine ST.to (fun w hw=>?_) (g':=g1) (s':=rowA encInt 3 ov (((A.take (k+1)).filter fun c=>hasC c id).map Cl.id)::pt b2 (.cells #[.slice p l.length c] 29 (0,0))::s) ?_
   ·rw[hsucc,if_neg (by rw[hd]; simp),List.append_nil]; exact hw
   exact ST.again (ov,k+1) sB I I (by dsimp only; omega) lN
 ·have hkk:A.take k=A:=tL oM;rw[hkk];refine xI (tX (tX (bX (tN (sW I (aT I (rE (fT fun g2 hle2 hs2=>?_))))))));refine dR (s':=s) uR ?_;exact ST.ret1 (.inl I) results54 I ⟨I,hle.trans hle2,hs2⟩
theorem refFind_spec (E:World)(g:PH)(s:Own)(v:Value)(l:List Cl)(id:Int)(hv:Cells g v l)(hf:Fits l) :
  Ctr Tryz.prog E 68 #[.agg #[v],vi id] g s (fun r g' s'=>s=s'∧Le g g'∧∃ x,r = .tuple #[rcv x,vb (findC l id).isSome]∧CellR g' ((findC l id).getD zeroC) x):=by
 have hft:=tabC_fits hf;have hfl:=hft.1;obtain ⟨p,c,rfl⟩:=hv.form;have hsrt:=tabC_sorted l;have hnd:=tabC_nodup l;refine Ctr.of (args:=[.agg #[.slice p l.length c],vi id]) func68 I ntmps68 (bE I) ?_;refine rZ (bW (bO I) fun b2=>?_);refine bW (aL zeroValue54) fun b4=>?_;refine aT I (rZ (lK (qV 1 iT29 zT29 I I I) (lW (SO.call call42 I (refCells_spec E g _ _ l hv hf)) ?_)));rintro v9 g1 _ ⟨rfl,hle,hc⟩;obtain ⟨rs,hrs,hall⟩:=hc;have hcs:Cells g1 _ (tabC l):=⟨rs,hrs,hall⟩;obtain ⟨q,dd,rfl⟩:=hrs.form;refine aT I (sW I (lM I (lW (SO.call call62 I (at_spec E g1 _ _ (tabC l) id hcs hfl hsrt)) ?_)));rintro _ _ _ ⟨rfl,rfl,rfl⟩;refine aT I (sQ (sW I (yL I (tZ ?_))));have hrl:=hall.length;unfold findC;generalize tabC l=A at *;have haf:=at_find hsrt id;refine iP I (fun hneg=>?_) (fun hneg=>?_)
 ·rcases haf with ⟨h1,h2⟩ | ⟨x,k,h1,h2,h3⟩
  ·have hno:(A.find? fun c=>decide (c.id=id))=none:=h1;refine rZ (lU (SU.build I (buildE54)) (oZ (sK 0 zT54 I I I I I sB) ?_));refine aT I (rE (tR ?_));exact ST.retCD1 0 s (.inl rfl) results68 rfl rfl iT54 zT54 rfl rfl uR ⟨rfl,hle,zeroR,by rw[hno]; rfl,by rw[hno]; exact zeroCR g1⟩
  ·rw[h2] at hneg; omega
 ·rcases haf with ⟨h1,h2⟩ | ⟨x,k,h1,h2,h3⟩
  ·rw[h2] at hneg; omega
  ·have hyes:(A.find? fun c=>decide (c.id=id))=some x:=h1;rw[h2];have hkl:k<A.length:=(List.getElem?_eq_some_iff.1 h3).1;have hkr:k<rs.length:=oM;have hb1:=hrs.based oM;have hcr:=hall.get h3 (gE hkr);have hgr:rs[((k:Nat):Int).toNat]?=some rs[k]:=gE hkr;generalize rs[k]=r at *;obtain ⟨ri,rd,⟨rp,rn,rc⟩⟩:=r;refine kP (tN (sW I (lM I (lU (iA uT27 zT54 I I hb1 oM sL) (lK (eA iT54 zT54 I hrs.rd hgr) (oZ (sK 0 zT54 I I I I I sB) ?_))))));refine aT I (rE ?_);exact ST.retCD1 0 s (.inl rfl) results68 rfl rfl iT54 zT54 rfl rfl uR ⟨rfl,hle,⟨ri,rd,⟨rp,rn,rc⟩⟩,by rw[hyes]; rfl,by rw[hyes]; exact hcr⟩
end Go.Proofs.YtmmghffoakhheaaGreatDoor
namespace Go.Sy
open Go
section
variable {α:Type}{k:Nat}{P:Program}{N:Nat}{E:World}{f:Fr}{g:PH}{s:Own}{dst:Option Tmp}{ty:TypeId}{pos:String}{af:Array Edge}{gd:Option (Nat×Bool)}
theorem SO.makeC {x y:Operand}{t T:TypeId}{bytes n:Nat}{z:Value}(e:Enc α k)(hT:STy P t T k bytes z)(hx:ev f x=some (vi 0))(hy:ev f y=some (vi n))(hb:n * bytes≤140737488355328)(hlen:n≤4611686018427387904) :
  SO P N E ⟨dst,.makeSlice t x y,ty,pos,af,gd⟩ f g s fun v' g' s'=>g=g'∧s'=rowA e T v' []::s :=
 SO.of_run fun ac w ha hw=>by
  obtain ⟨ti,ht1,ht2,ht3,ht4⟩:=hT.info;have hbi:(ti.bytes:Int) * ((n:Nat):Int)≤281474976710656:=by
   rw[ht4,← Int.natCast_mul,Nat.mul_comm]; omega
  have h5:=run_make (P:=P) w t T ti z hT.und ht1 ht2 .i64 .i64 0 n oM oM hbi oM;simp only[Int.toNat_natCast] at h5;rw[ht3] at h5;have hrun:(execOp ac.eval ⟨dst,.makeSlice t x y,ty,pos,af,gd⟩).run P w = .ok (.value (.slice (some ⟨w.heap.size,0,none⟩) 0 n)) (w.alloc (.cells (madeCells z.cells (n * k)) T)):=by
   simp[execOp,ha.ev hx,ha.ev hy,h5]
  have hnew:(w.alloc (.cells (madeCells z.cells (n * k)) T)).heap[w.heap.size]?=some (.cells (madeCells z.cells (n * k)) T (0,0)):=heap_alloc_new w _;refine⟨_,_,g,_,hrun,?_,I,I⟩;cases n with
  | zero =>
   have h6:=hw.emptyRow T k (some ⟨w.heap.size,0,none⟩);have h7:=h6.alloc (e:=pt w.heap.size (.cells (madeCells z.cells (0 * k)) T (0,0))) (o:=.cells (madeCells z.cells (0 * k)) T (0,0)) rfl rfl;exact h7.sublist (List.sublist_cons_self _ _)
  | succ n =>
   have hsz:(madeCells z.cells ((n+1) * k)).size=(n+1) * k:=by simp[madeCells]
   exact hw.alloc (e:=rowA e T (.slice (some ⟨w.heap.size,0,none⟩) 0 (n+1)) []) (o:=.cells (madeCells z.cells ((n+1) * k)) T (0,0)) I ⟨by simp,.inr ⟨_,n,_,I,I,by simp,by unfold maxLen; omega,hsz,by simp⟩⟩
def encB:Enc Int 1:=⟨fun n=>[.int .u8 n],fun _=>rfl,fun _ u hu=>by simp at hu; subst hu; rfl,by decide⟩
def encU:Enc Int 1:=⟨fun n=>[.int .u64 n],fun _=>rfl,fun _ u hu=>by simp at hu; subst hu; rfl,by decide⟩
def byt (l:List Int):List UInt8:=l.map fun n=>UInt8.ofNat n.toNat
def txt (l:List UInt8):Value:=.string ⟨l.toArray⟩
theorem fold_push (l:List Int):∀ s:ByteArray,l.foldl (fun r n=>r.push (UInt8.ofNat n.toNat)) s=⟨s.data++(byt l).toArray⟩:=by
 induction l with
 | nil=>intro s; simp[byt]
 | cons a t ih =>
  intro s;simp only[List.foldl_cons];rw[ih];simp[byt,ByteArray.push]
theorem flat_bytes (l:List Int):l.flatMap encB.enc=l.map (Value.int .u8):=by
 induction l with
 | nil=>rfl
 | cons a t ih=>simp only[List.flatMap_cons,List.map_cons,ih]; rfl
theorem SQ.bytesText {x:Operand}{S D e:TypeId}{p:Option Addr}{c:Nat}{l:List Int}(hs:P.underlying S=some (.slice e))(he:P.underlying e=some (.int .u8))(hd:P.underlying D=some .string)
  (hx:ev f x=some (.slice p l.length c)) (hr:Rd g s (.slice p l.length c) (l.flatMap encB.enc)) :
  SQ P N E ⟨dst,.convert S D x,ty,pos,af,gd⟩ f g s (txt (byt l)):=fun a w ha hw=>by
 have h1:(convert S D (.slice p l.length c)).run P w = .ok (txt (byt l)) w:=by
  rw[run_convert_bytes_string w S D e p l.length c hs he hd];rw[flat_bytes] at hr;cases l with
  | nil =>
   cases p with
   | none=>simp[Conv.bytesToString,txt,byt]; rfl
   | some a =>
    have h2:=run_bytesToString (P:=P) w a 0 c [] (by simp[loadCells]; exact run_loadCellsFrom (P:=P) (w:=w) (b:=a.block) (o:=a.off) 0 0 [] #[] rfl (fun j y hy=>by simp at hy));rw[List.length_nil,h2];rfl
  | cons n t =>
   obtain ⟨q,n',c',he1,hsp,hc0⟩:=hr E w hw 0 (.int .u8 n) rfl;injection he1 with he1 he2 he3
   subst he1;obtain ⟨qb,qo,qs⟩:=q;dsimp only at hsp;subst hsp;have h2:=run_bytesToString (P:=P) w ⟨qb,qo,none⟩ (n::t).length c (n::t) (by
    have:=run_loadCellsFrom (P:=P) (w:=w) (b:=qb) (o:=qo) (n::t).length 0 ((n::t).map (Value.int .u8)) #[] (by simp) (fun j y hy=>by
     obtain ⟨q',n2,c2,he4,_,hc1⟩:=hr E w hw j y hy;injection he4 with he4
     injection he4 with he4
     subst he4;simpa using hc1)
    simpa [loadCells] using this)
   rw[h2,fold_push];simp[txt]
 simp[execOp,ha.ev hx,h1]
theorem txt_list (l:List UInt8):(⟨l.toArray⟩:ByteArray).toList=l:=by rw[ByteArray.toList_eq]
theorem SU.neqT {x y:Operand}{T U:TypeId}{l m:List UInt8}(hx:ev f x=some (txt l))(hy:ev f y=some (txt m)) :
  SU P N ⟨dst,.binOp .neq T x y U,ty,pos,af,gd⟩ f (.bool (decide (l≠m))):=fun ac w ha=>by
 have hg:(eqGuard .neq T x y (txt l) (txt m)).run P w = .ok () w:=by simp[eqGuard,txt]
 have hb:(binOp .neq T (txt l) (txt m)).run P w = .ok (.bool (decide (l≠m))) w:=by
  unfold txt;rw[binOp_string_neq,txt_list,txt_list];by_cases h:l=m <;> simp[h,bne] <;> rfl
 simp only[execOp,ha.ev hx,ha.ev hy,Sem.run_bind,hg,Result.andThen_ok,hb];rfl
end
end Go.Sy
namespace Go.Proofs.YtmmghffoakhheaaGreatDoor
open _root_.Go.Proofs.Tryz _root_.Go.Proofs.YtmmghffoakhheaaGreatDoor.Tryz
open Go Go.Sy Go.Pl Go.Proofs Go.Shelf
set_option maxRecDepth 100000
set_option maxHeartbeats 1000000
theorem getVi {f:Fr}{t:Nat}{a b:Int}(h:get? f t=some (vi a))(e:a=b):get? f t=some (vi b):=e ▸ h
theorem Tryz.sty191:STy Tryz.prog 191 189 1 8 (.int .u64 0):=⟨underlying191,⟨t189,by kernel_rfl,by kernel_rfl,by kernel_rfl,by kernel_rfl⟩,rfl,by decide⟩
theorem Tryz.sty23:STy Tryz.prog 23 5 1 1 (.int .u8 0):=⟨underlying23,⟨t5,by kernel_rfl,by kernel_rfl,by kernel_rfl,by kernel_rfl⟩,rfl,by decide⟩
def trimZ (l:List Int):List Int:=(l.reverse.dropWhile (· == 0)).reverse
theorem trimZ_drop {m:List Int}(h:0<m.length)(h0:m.getD (m.length - 1) 1=0):trimZ (m.take (m.length - 1))=trimZ m:=by
 rcases List.eq_nil_or_concat m with rfl | ⟨a,x,rfl⟩
 ·simp at h
 ·have hx:x=0:=by simpa [List.getD_eq_getElem?_getD] using h0
  subst hx;simp[trimZ]
theorem trimZ_stop {m:List Int}(h:(decide ((m.length:Int)>0)&&decide (m.getD (m.length - 1) 1=0))=false):trimZ m=m:=by
 rcases List.eq_nil_or_concat m with rfl | ⟨a,x,rfl⟩
 ·rfl
 ·have hx:x≠0:=by simpa [List.getD_eq_getElem?_getD] using h
  simp[trimZ,hx]
theorem norm_spec (E:World)(g:PH)(s:Own)(v:Value)(l:List Int)(hv:SlA encU g v l)(hl:l.length<1099511627776) :
  Ctr Tryz.prog E 171 #[v] g s (fun r g' s'=>g=g'∧s=s'∧SlA encU g r (trimZ l)):=by
 refine Ctr.of (args:=[v]) func171 I ntmps171 (bE I) ?_;refine rZ (aT I (sQ (bK ?_)));refine oP (ι:=Value×List Int) (fun i=>[(0,i.1)]) (fun _=>g) (fun _=>s) (fun i=>SlA encU g i.1 i.2∧trimZ i.2=trimZ l∧i.2.length≤l.length) (fun i=>i.2.length) (v,l) ⟨I,trivial⟩ I I ⟨hv,I,lR _⟩ ?_;rintro ⟨v1,m⟩ ⟨hm,htr,hle⟩;dsimp only at hm htr hle ⊢;obtain ⟨p,c,rfl⟩:=SlA.form hm;have hcap:=(SlA.cap hm).2;have f1:(m.length:Int)>0→(decide ((m.length:Int)>0)&&decide (m.getD (m.length - 1) 1=0))=decide (m.getD (m.length - 1) 1=0):=fun h=>by rw[decide_eq_true h,Bool.true_and]
 have f2:¬ (m.length:Int)>0→(decide ((m.length:Int)>0)&&decide (m.getD (m.length - 1) 1=0))=false:=fun h=>by simp only[h,decide_false,Bool.false_and]
 have hgl:(m.length:Int)>0→m[((m.length:Int) - 1).toNat]?=some (m.getD (m.length - 1) 1):=fun h=>by
  have h1:((m.length:Int) - 1).toNat=m.length - 1:=oM;have h2:m.length - 1<m.length:=oM;rw[h1,List.getD_eq_getElem?_getD,gE h2]; rfl
 have hbs:(m.length:Int)>0→based (.slice p m.length c)=true:=fun h=>SlA.based hm oM;refine sQ ?_;refine SC.cutB 14 ((decide ((m.length:Int)>0)&&decide (m.getD (m.length - 1) 1=0))) ?_ ?_
 ·refine rG (lM I (lU (eN uT191 I) (lU (gR I I) (lM I ?_))));refine sP ?_ ?_
  ·intro h6;refine yC I (yC I (lY I I I (eN uT191 I) (lY I I I (sU I I oM) (lY I I I (iA uT191 sizeOf189 I I (hbs h6) oM sL) (SL.gq (gT I I I dC) (eB isAgg189 I (SlA.rd hm) (hgl h6) I) dC (lY I I I (eQ I I) (yP I (nL ?_))))))));exact ST.mid1 (by (rw[f1 h6]; rfl)) mI
  ·intro h6;refine yA I (yA I (yA I (yA I (yA I (yA I (yA I (yF I (nL ?_))))))));exact ST.mid1 (by (rw[f2 h6]; rfl)) mI
 refine iQ I (fun hc=>?_) (fun hc=>?_)
 ·rw[Bool.and_eq_true,decide_eq_true_iff,decide_eq_true_iff] at hc;obtain ⟨hpos,hlast⟩:=hc;have h1:((m.length:Int) - 1).toNat=m.length - 1:=oM;refine kP (tN (bK (rG (lM I (lM I (lU (eN uT191 I) (lU (sU I I oM) (lU (SU.sliceH uT191 sizeOf189 I I oM oM) (lA I (nL (bN ?_)))))))))));refine ST.again (sliced p 0 ((m.length:Int) - 1).toNat c 1,m.take (m.length - 1)) ⟨I,trivial⟩ I I ⟨?_,?_,?_⟩ (by dsimp only; rw[List.length_take]; omega)
  ·have:=SlA.cut hm (l:=0) (m:=m.length - 1) (Nat.zero_le _) oM;dsimp only;rw[h1];simpa using this
  ·dsimp only; rw[trimZ_drop oM hlast]; exact htr
  ·dsimp only; rw[List.length_take]; omega
 ·refine xI (tX (tX (bX (tN (sW I (aT I (rE ?_)))))));exact ST.ret1 (.inl I) results171 I ⟨I,I,by rw[← htr,trimZ_stop hc]; exact hm⟩
theorem backward_spec (E:World)(g:PH)(s:Own)(v:Value)(hv:v.cells = #[v]) :
  Ctr Tryz.prog E 172 #[v] g s (fun r g' s'=>s=s'∧Le g g'∧∃ b,r = .func (.func 189) #[] #[pp b 0]∧g' b=some (.cells #[v] 191 (0,0))):=by
 refine Ctr.of (args:=[v]) func172 I ntmps172 (bE I) ?_;refine rZ (bW (bO I) fun b1=>?_);refine aT I (rZ (lU (SU.mkFunc I) (aT I (rE ?_))));rw[hv];refine ST.freeze fun g1 hle hb=>?_;exact ST.ret1 (.inl I) results172 I ⟨I,hle,_,I,hb⟩
def revP (l:List Int):List (Nat×Int):=(l.zipIdx.map fun p=>(p.2,p.1)).reverse
theorem revP_length (l:List Int):(revP l).length=l.length:=by simp[revP]
theorem revP_get {l:List Int}{k:Nat}(h:k<l.length):(revP l)[l.length - 1 - k]?=some (k,l[k]):=by
 unfold revP;rw[List.getElem?_reverse (by simp; omega)];simp only[List.length_map,List.length_zipIdx];rw[show l.length - 1 - (l.length - 1 - k)=k by omega];simp[h]
theorem backward_gives (E:World)(g0:PH)(b:Nat)(v:Value)(l:List Int)(hb:g0 b=some (.cells #[v] 191 (0,0)))(hv:SlA encU g0 v l)(hl:l.length<1099511627776) :
  Gives Tryz.prog E 189 [pp b 0] (fun x:Nat×Int=>[vi x.1,.int .u64 x.2]) (revP l) g0:=by
 intro k ι G S J i0 h0 hmono hY sx;obtain ⟨p,c,rfl⟩:=SlA.form hv;refine Ctr.ofX (args:=[.func (.yield k) #[] #[],pp b 0]) func189 I ntmps189 (bE I) ?_;refine XC.seq ?_;refine XC.region ?_;refine XL.q (qL (v:=.slice p l.length c) isAgg191 I (cK (hmono _ _ h0 _ _ hb) I)) dC ?_;refine XL.u (eN uT191 I) dC ?_;refine XL.u (sU I I oM) dC ?_;refine XL.u (aS I) dC ?_;refine XL.nil ?_;refine XT.thenN ?_;refine XC.block ?_;refine XC.loop (ι:=ι×Nat) (fun i=>[(0,.func (.yield k) #[] #[]),(1,pp b 0),(3,vi ((i.2:Int) - 1))]) (fun i=>G i.1) (fun i=>S i.1++sx) (fun i=>i.2≤l.length∧J ((revP l).take (l.length - i.2)) i.1) (fun i=>i.2) (i0,l.length)
  sB rfl rfl ⟨lR _,by simpa using h0⟩ ?_
 rintro ⟨j,n⟩ ⟨hn,hJ⟩;dsimp only at hn hJ ⊢;have hle:=hmono _ _ hJ;refine XC.seq ?_;refine XC.seq ?_;refine XC.region ?_;refine XL.u (mV I) dC ?_;refine XL.u (gQ I I) dC ?_;refine XL.nil ?_;refine XT.thenN ?_;refine XC.ifP I (fun hge=>?_) (fun hge=>?_)
 ·have hn1:n - 1<l.length:=oM;have hv':=SlA.mono hv hle;have hb1:=SlA.based hv' oM;have hgx:l[((n:Int) - 1).toNat]?=some l[n - 1]:=by rw[show ((n:Int) - 1).toNat=n - 1 by omega]; exact gE hn1
  have hrg:=revP_get hn1;rw[show l.length - 1 - (n - 1)=l.length - n by omega] at hrg;have hsp:revP l=(revP l).take (l.length - n)++(n - 1,l[n - 1])::(revP l).drop (l.length - n+1):=by
   obtain ⟨h1,h2⟩:=List.getElem?_eq_some_iff.1 hrg;rw[← h2,List.getElem_cons_drop,List.take_append_drop]
  have hy:=hY _ _ _ j sx hsp hJ;have htk:(revP l).take (l.length - (n - 1))=(revP l).take (l.length - n)++[(n - 1,l[n - 1])]:=by
   obtain ⟨h1,h2⟩:=List.getElem?_eq_some_iff.1 hrg;rw[show l.length - (n - 1)=l.length - n+1 by omega,tS h1,h2]
  generalize l[n - 1]=x at *;have hvn:vi ((n - 1:Nat):Int)=vi ((n:Int) - 1):=congrArg vi oM;dsimp only at hy;rw[hvn] at hy;refine XC.skip ?_;refine XT.thenN ?_;refine XC.seq ?_;refine XC.block ?_;refine XC.seq ?_;refine XC.region ?_;refine XL.u (mV I) dC ?_;refine XL.u (mV I) dC ?_;refine XL.q (qL (v:=.slice p l.length c) isAgg191 I (cK (hle _ _ hb) I)) dC ?_;refine XL.u (mV I) dC ?_;refine XL.u (iA uT191 sizeOf189 I I hb1 oM sL) dC ?_;refine XL.q (eB isAgg189 I (SlA.rd hv') hgx I) dC ?_;refine XL.x (XO.yield I I hy) dC ?_;rintro _ _ _ ⟨rfl,j',hJ',rfl,rfl⟩;refine XL.u (SU.not I) dC ?_;refine XL.nil ?_;refine XT.thenN ?_;refine XC.condF I ?_;refine XC.skip ?_;refine XT.blockN ?_;refine XT.thenN ?_;refine XC.region ?_;refine XL.u (mV I) dC ?_;refine XL.u (sU I I oM) dC ?_;refine XL.u (aS I) dC ?_;refine XL.nil ?_;exact XT.again (j',n - 1) ⟨I,I,getVi I oM,trivial⟩ I I ⟨by dsimp only; omega,by dsimp only; rw[htk]; exact hJ'⟩ (by dsimp only; omega)
 ·have hn0:n=0:=oM;subst hn0;refine XC.exit ?_;refine XT.thenX ?_;refine XT.thenX ?_;refine XT.blockX ?_;exact XT.leave0 (.inr I) (ST.ret0 (.inr I) results189 ⟨j,by have:=hJ; rwa [tL (by rw[revP_length]; omega)] at this,I,I⟩)
def lays161_ren:Ren :=
 {
  f:=fun x =>
   match x with
   | 161=>173
   | 231=>190
   | 227=>191
   | 233=>192
   | 235=>193
   | 228=>200
   | 197=>201
   | 151=>202
   | 260=>204
   | 152=>205
   | 137=>206
   | 119=>207
   | 224=>208
   | 225=>209
   | 217=>210
   | 266=>211
   | n=>n,
  t:=fun x =>
   match x with
   | 9=>9
   | 4=>4
   | 3=>3
   | 5=>5
   | 117=>228
   | 116=>227
   | 0=>0
   | 124=>231
   | 105=>238
   | 21=>21
   | 119=>243
   | 46=>184
   | 139=>246
   | 138=>245
   | n=>n,
  g:=fun x =>
   match x with
   | 3=>0
   | 4=>1
   | n=>n }
theorem Tryz.lays161:Lays.n161 Tryz.prog lays161_ren :=
  {
  mixed:=Eq.refl true,f119:=Eq.trans func207 (congrArg some kR),
  f137:=Eq.trans func206 (congrArg some kR),
  f151:=Eq.trans func202 (congrArg some kR),
  f152:=Eq.trans func205 (congrArg some kR),
  f161:=Eq.trans func173 (congrArg some kR),
  f197:=Eq.trans func201 (congrArg some kR),
  f217:=Eq.trans func210 (congrArg some kR),
  f224:=Eq.trans func208 (congrArg some kR),
  f225:=Eq.trans func209 (congrArg some kR),
  f227:=Eq.trans func191 (congrArg some kR),
  f228:=Eq.trans func200 (congrArg some kR),
  f231:=Eq.trans func190 (congrArg some kR),
  f233:=Eq.trans func192 (congrArg some kR),
  f235:=Eq.trans func193 (congrArg some kR),
  f260:=Eq.trans func204 (congrArg some kR),
  f266:=Eq.trans func211 (congrArg some kR),t0:=underlying0,
  a0:=isAgg0,z0:=sizeOf0,v0:=zeroValue0,t3:=uT3,a3:=iT3,
  z3:=zT3,v3:=zeroValue3,t4:=underlying4,a4:=isAgg4,z4:=zT4,
  v4:=zeroValue4,t5:=uT5,a5:=isAgg5,z5:=sizeOf5,v5:=zeroValue5,
  t9:=underlying9,a9:=isAgg9,z9:=sizeOf9,v9:=zeroValue9,t21:=underlying21,
  a21:=isAgg21,z21:=sizeOf21,v21:=zeroValue21,t46:=uT184,a46:=isAgg184,
  z46:=sizeOf184,v46:=zeroValue184,t105:=underlying238,a105:=isAgg238,
  z105:=sizeOf238,v105:=zeroValue238,t116:=underlying227,a116:=isAgg227,
  z116:=sizeOf227,t117:=underlying228,a117:=isAgg228,z117:=sizeOf228,
  v117:=zeroValue228,t119:=underlying243,a119:=isAgg243,z119:=sizeOf243,
  t124:=underlying231,a124:=isAgg231,z124:=sizeOf231,v124:=zeroValue231,
  t138:=underlying245,a138:=isAgg245,z138:=sizeOf245,v138:=zeroValue245,
  t139:=underlying246,a139:=isAgg246,z139:=sizeOf246,v139:=zeroValue246,
  g3:=kR,g4:=kR }
def dropZ (l:List UInt8):List UInt8:=l.dropWhile (· == 0)
theorem trimLeft_spec (E:World)(g:PH)(s:Own)(l:List UInt8) :
  Ctr Tryz.prog E 173 #[txt l,txt [0]] g s (fun r g' s'=>r=txt (dropZ l)∧g=g'∧s=s'):=by
 intro w hw;refine (Any.strings_TrimLeft_one lays161 ⟨l.toArray⟩ 0 dC w).mono ?_;rintro e w' ⟨rfl,rfl⟩;exact⟨_,g,s,I,hw,I,I,I⟩
def by4 (x:Int):List Int:=[IntKind.u8.wrap (x.fdiv (2 ^ min (24:Int).toNat IntKind.u64.bits)),IntKind.u8.wrap (x.fdiv (2 ^ min (16:Int).toNat IntKind.u64.bits)),IntKind.u8.wrap (x.fdiv (2 ^ min (8:Int).toNat IntKind.u64.bits)),IntKind.u8.wrap x]
def byP (x:Nat×Int):List Int:=by4 x.2
theorem byP_length (l:List (Nat×Int)):(l.flatMap byP).length=4 * l.length:=by
 induction l with
 | nil=>rfl
 | cons a t ih=>simp only[List.flatMap_cons,List.length_append,ih,List.length_cons,byP,by4,List.length_nil]; omega
theorem trimZ_le (l:List Int):(trimZ l).length≤l.length:=by
 unfold trimZ;rw[List.length_reverse];have:=(List.dropWhile_sublist (l:=l.reverse) (· == 0)).length_le;simpa using this
def wordsT (l:List Int):List UInt8:=dropZ (byt ((revP (trimZ l)).flatMap byP))
def wideV (neg:Bool)(bs:List UInt8):Value:=.agg #[vb (neg&&decide (bs≠[])),txt bs]
theorem Tryz.build154 (a:Bool)(l:List UInt8)(w:World):(Instr.build 154 #[(0,vb a),(1,txt l)]).run Tryz.prog w = .ok (.agg #[vb a,txt l]) w:=by
 have h1:(vb a).cells = #[vb a]:=rfl;have h2:(txt l).cells = #[txt l]:=rfl;simp[Instr.build,Instr.fill,h1,h2];rfl
theorem natWide_spec (E:World)(g:PH)(s:Own)(v:Value)(l:List Int)(neg:Bool)(hv:SlA encU g v l)(hl:l.length<1099511627776) :
  Ctr Tryz.prog E 154 #[v,vb neg] g s (fun r g' s'=>r=wideV neg (wordsT l)∧s=s'∧Le g g'):=by
 have htl:=trimZ_le l;refine Ctr.ofX (args:=[v,vb neg]) func154 I ntmps154 (bE I) ?_;refine XC.seq ?_;refine XC.region ?_;refine XL.o (aL zeroValue154) dC ?_;rintro _ _ _ ⟨b4,rfl,rfl,rfl⟩;refine XL.nil ?_;refine XT.thenN ?_;refine XC.seq ?_;refine XC.region ?_;refine XL.u (mV I) dC ?_;refine XL.o (SO.call call171 I (norm_spec E g _ v l hv hl)) dC ?_;rintro v10 _ _ ⟨rfl,rfl,hm⟩;obtain ⟨q,d,rfl⟩:=SlA.form hm;refine XL.u (aS I) dC ?_;refine XL.nil ?_;refine XT.thenN ?_;refine XC.seq ?_;refine XC.region ?_;refine XL.u (mV I) dC ?_;refine XL.u (eN uT191 I) dC ?_;refine XL.u (SU.eq (v':=vi ((4 * (trimZ l).length:Nat))) (SU.mul I I oM) (congrArg vi oM)) dC ?_;refine XL.o (SO.makeC encB sty23 I I oM oM) dC ?_;rintro v14 _ _ ⟨rfl,rfl⟩;refine XL.facts fun ⟨w0,hw0⟩=>?_;obtain ⟨p14,c14,rfl⟩:=rowA_form (i:=0) hw0 rfl;clear hw0 w0;refine XL.o (aL zeroValue23) dC ?_;rintro _ _ _ ⟨b5,rfl,rfl,rfl⟩;refine XL.on (sK 0 sizeOf23 I I I I I sB) ?_;rintro _ _ _ ⟨rfl,rfl⟩;refine XL.nil ?_;refine XT.thenN ?_;refine XC.seq ?_;refine XC.seq ?_;refine XC.region ?_;refine XL.u (mV I) dC ?_;refine XL.o (SO.call call172 I (backward_spec E _ _ _ I)) dC ?_;rintro _ g1 _ ⟨rfl,hle,bb,rfl,hbb⟩;refine XL.nil ?_;refine XT.thenN ?_;refine XC.block ?_;refine XC.to (g':=g1) (s':=rowA encB 5 (.slice p14 0 c14) []::pt b5 (.cells #[.slice p14 0 c14] 23 (0,0))::pt b4 (.cells #[vb false,txt []] 154 (0,0))::s) (fun w hw=>hw.perm (List.Perm.swap _ _ _)) ?_;refine XC.rangeFunc (α:=Nat×Int) (ι:=Value×List Int) (encs:=fun x=>[vi x.1,.int .u64 x.2]) (xs:=revP (trimZ l)) (g0:=g1) (fun _=>g1) (fun i=>rowA encB 5 i.1 i.2::pt b5 (.cells #[i.1] 23 (0,0))::pt b4 (.cells #[vb false,txt []] 154 (0,0))::[]) (fun pre i=>i.2=pre.flatMap byP) (.slice p14 0 c14,[]) s
  (fun x=>[(18,.int .u64 x.2),(17,vi x.1),(5,pp b5 0)]) (fun _ x _=>[(7,.int .u64 x.2),(5,pp b5 0)]) rfl rfl call189 (fun _=>rfl) rfl rfl (backward_gives E g1 bb _ _ hbb (SlA.mono hm hle) oM) (fun _ _ _=>Le.refl _) rfl
  (fun x a h=>params2 (h.sub (g:=[(5,pp b5 0)]) ⟨rfl,trivial⟩) dC dC) ?_ ?_ ?_
 ·intro k pre x i sx hJ;refine XC.region ?_;refine XL.u (aS I) dC ?_;refine XL.nil ?_;exact XT.assignEnd sB
 ·rintro k pre ⟨xi,x⟩ suf ⟨bv,bs⟩ sx hxs hJ;dsimp only at hJ ⊢;have hpl:pre.length<(trimZ l).length:=by
   have:=congrArg List.length hxs;rw[revP_length,List.length_append,List.length_cons] at this;omega
  have hbl:bs.length=4 * pre.length:=by rw[hJ,byP_length]
  refine XC.facts fun ⟨w0,hw0⟩=>?_;obtain ⟨q2,d2,rfl⟩:=rowA_form (i:=0) hw0 rfl;clear hw0 w0;refine XC.block ?_;refine XC.region ?_;refine XL.q (qL (v:=.slice q2 bs.length d2) isAgg23 I (cO 1 I I)) dC ?_;refine XL.u (mV I) dC ?_;refine XL.u (SU.shr I I dC) dC ?_;refine XL.u (SU.convert underlying189 uT5 I) dC ?_;refine XL.u (mV I) dC ?_;refine XL.u (SU.shr I I dC) dC ?_;refine XL.u (SU.convert underlying189 uT5 I) dC ?_;refine XL.u (mV I) dC ?_;refine XL.u (SU.shr I I dC) dC ?_;refine XL.u (SU.convert underlying189 uT5 I) dC ?_;refine XL.u (mV I) dC ?_;refine XL.u (SU.convert underlying189 uT5 I) dC ?_;refine XL.o (bS sty23 I I I (szs_mk sB) dC) dC ?_;rintro _ _ _ ⟨b31,rfl,rfl,rfl⟩;refine XL.to (fun w hw=>At.litRow (e:=encB) (l:=by4 x) (n:=3) hw I I dC) ?_;refine XL.o (SO.appendE (m:=4) 1 (bs++by4 x).length ((bs++by4 x).flatMap encB.enc) sty23 I I I I I (Rd.rowA 0 I) (encB.length (by4 x)) (encB.ones _) (by simp[by4]) (by simp) (by simp[by4]; omega) (by simp[by4]; omega)) dC ?_;rintro v32 _ _ ⟨rfl,rfl⟩;refine XL.facts fun ⟨w0,hw0⟩=>?_;obtain ⟨q3,d3,rfl⟩:=rowA_form (e:=encB) (l:=bs++by4 x) (i:=1) hw0 rfl;clear hw0 w0;refine XL.on (sK 2 sizeOf23 I I I I I sB) ?_;rintro _ _ _ ⟨rfl,rfl⟩;refine XL.nil ?_;refine XT.blockN ?_;refine XT.drop (List.sublist_cons_self _ _) ?_;exact XT.roundEnd (.slice q3 (bs++by4 x).length d3,bs++by4 x) I I (by dsimp only; rw[List.flatMap_append,hJ]; simp[byP])
 ·rintro D ⟨bv,bs⟩ hJ;dsimp only at hJ ⊢;refine XT.facts fun ⟨w0,hw0⟩=>?_;obtain ⟨q2,d2,rfl⟩:=rowA_form (i:=1) hw0 rfl;clear hw0 w0;refine XT.blockN ?_;refine XT.thenN ?_;refine XC.seq ?_;refine XC.region ?_;refine XL.q (qL (v:=.slice q2 bs.length d2) isAgg23 I (cO 2 I I)) dC ?_;refine XL.q (SQ.bytesText underlying23 uT5 underlying9 I (Rd.rowA 1 I)) dC ?_;refine XL.o (SO.call call173 I (trimLeft_spec E g1 _ (byt bs))) dC ?_;rintro _ _ _ ⟨rfl,rfl,rfl⟩;refine XL.u (aS I) dC ?_;refine XL.nil ?_;refine XT.thenN ?_;have hbs:dropZ (byt bs)=wordsT l:=by unfold wordsT; rw[hJ]
  rw[hbs];generalize wordsT l=T at *;cases neg
  ·refine XC.seq ?_;refine XC.region ?_;refine XL.u (mV I) dC ?_;refine XL.u (mV I) dC ?_;refine XL.off (gZ I I I dC) dC ?_;refine XL.off (gZ I I I dC) dC ?_;refine XL.u (wF I I) dC ?_;refine XL.u (mV I) dC ?_;refine XL.u (SU.build I (build154 _ _)) dC ?_;refine XL.on (sK 3 sizeOf154 I I I I I sB) ?_;rintro _ _ _ ⟨rfl,rfl⟩;refine XL.nil ?_;refine XT.thenN ?_;refine XC.ret ?_;exact XT.leave1 (.inl I) (ST.retCD 2 s (.inl I) results154 I isAgg154 sizeOf154 I I (.cons _ (.cons _ (.cons _ (.refl _)))) ⟨I,I,hle⟩)
  ·refine XC.seq ?_;refine XC.region ?_;refine XL.u (mV I) dC ?_;refine XL.u (mV I) dC ?_;refine XL.gu (gT I I I dC) (mV I) dC ?_;refine XL.gu (gT I I I dC) (SU.neqT I I) dC ?_;refine XL.u (wT I I) dC ?_;refine XL.u (mV I) dC ?_;refine XL.u (SU.build I (build154 _ _)) dC ?_;refine XL.on (sK 3 sizeOf154 I I I I I sB) ?_;rintro _ _ _ ⟨rfl,rfl⟩;refine XL.nil ?_;refine XT.thenN ?_;refine XC.ret ?_;exact XT.leave1 (.inl I) (ST.retCD 2 s (.inl I) results154 I isAgg154 sizeOf154 I I (.cons _ (.cons _ (.cons _ (.refl _)))) ⟨I,I,hle⟩)
open Go Go.Sy Go.Pl Go.Proofs
theorem SU.negK {P:Program}{N:Nat}{f:Fr}{dst:Option Tmp}{ty:TypeId}{pos:String}{af:Array Edge}{gd:Option (Nat×Bool)}{x:Operand}{T:TypeId}{k:IntKind}{n:Int}(hx:ev f x=some (.int k n)):SU P N ⟨dst,.unOp .neg T x,ty,pos,af,gd⟩ f (.int k (k.wrap (0 - n))):=fun a w ha=>by
 simp only[execOp,ha.ev hx]; rfl
theorem u64w (n:Int):IntKind.u64.wrap n=n % 18446744073709551616:=by simp[IntKind.wrap,IntKind.bits,IntKind.signed]
theorem mask32 (m:Nat)(h:m<18446744073709551616):IntKind.u64.wrap (BitVec.ofInt IntKind.u64.bits (m:Int) &&& BitVec.ofInt IntKind.u64.bits 4294967295).toNat=((m % 4294967296:Nat):Int):=by
 have h1:(BitVec.ofInt IntKind.u64.bits (m:Int) &&& BitVec.ofInt IntKind.u64.bits 4294967295).toNat=m % 4294967296:=by
  have hb:IntKind.u64.bits=64:=rfl;rw[hb,BitVec.toNat_and];have e1:(BitVec.ofInt 64 (m:Int)).toNat=m:=by
   rw[BitVec.toNat_ofInt];omega
  have e2:(BitVec.ofInt 64 4294967295).toNat=2 ^ 32 - 1:=by decide
  rw[e1,e2,Nat.and_two_pow_sub_one_eq_mod]
 rw[h1];exact IntWalk.u64_in _ oM
theorem shr32 (m:Nat):((m:Nat):Int).fdiv (2 ^ min (32:Int).toNat IntKind.u64.bits)=((m / 4294967296:Nat):Int):=by
 have h1:((2:Int) ^ min (32:Int).toNat IntKind.u64.bits)=4294967296:=by decide
 rw[h1,Int.fdiv_eq_ediv_of_nonneg _ dC];omega
def words (n:Int):List Int:=[((n.natAbs % 4294967296:Nat):Int),((n.natAbs / 4294967296:Nat):Int)]
theorem from_raw (E:World)(g:PH)(s:Own)(n:Int)(h0 : -9223372036854775808≤n)(h1:n<9223372036854775808) :
  Ctr Tryz.prog E 143 #[vi n] g s (fun r g' s'=>r=wideV (decide (n<0)) (wordsT (words n))∧s=s'∧Le g g'):=by
 refine Ctr.of (args:=[vi n]) func143 I ntmps143 (bE I) ?_;refine rZ (bW (aL zeroValue154) fun b2=>?_);refine tZ (sW I (lU (SU.convert uT3 underlying189 I) (aT I ?_)));refine SC.cut (ι:=Unit) (fun _=>[(0,vi n),(2,pp b2 0),(3,.int .u64 (n.natAbs:Int))]) (fun _=>g) (fun _=>pt b2 (.cells #[vb false,txt []] 154 (0,0))::s) (fun _=>True) ?_ ?_
 ·refine sW I (yL I (tZ ?_));refine iP I (fun hn=>?_) (fun hn=>?_)
  ·have hw:IntKind.u64.wrap (0 - IntKind.u64.wrap n)=(n.natAbs:Int):=by
    rw[u64w,u64w]; omega
   refine rG (lM I (lU (SU.negK I) (lA I (nL ?_))));exact ST.mid () ⟨rfl,rfl,by rw[← hw]; rfl,trivial⟩ rfl rfl trivial
  ·have hw:IntKind.u64.wrap n=(n.natAbs:Int):=by
    rw[u64w]; omega
   refine kP ?_;exact ST.mid () ⟨rfl,rfl,by rw[← hw]; rfl,trivial⟩ rfl rfl trivial
 rintro _ -;try dsimp only
 refine sW I (lU (SU.eq (v':=.int .u64 ((n.natAbs % 4294967296:Nat):Int)) (SU.and I I) (congrArg _ (mask32 _ oM))) (lM I (lU (SU.eq (v':=.int .u64 ((n.natAbs / 4294967296:Nat):Int)) (SU.shr I I dC) (congrArg _ (shr32 _))) (lW (bS sty191 I I I (szs_mk sB) dC) ?_))));rintro _ _ _ ⟨b14,rfl,rfl,rfl⟩;refine SL.freeze fun g1 hle1 hb=>?_;refine lM I (yL I (lW (SO.call call154 I (natWide_spec E g1 _ _ (words n) _ (SlA.lit hb I I) (by simp[words]))) ?_));rintro _ g2 _ ⟨rfl,rfl,hle2⟩;refine oZ (sK 0 sizeOf154 I I I I I sB) ?_;refine tZ (rE ?_);exact ST.retCD 0 s (.inl I) results143 I isAgg154 sizeOf154 I I uR ⟨I,I,hle1.trans hle2⟩
theorem ofNat_congr {a b:Nat}(h:a % 256=b % 256):UInt8.ofNat a=UInt8.ofNat b:=by
 apply UInt8.toNat.inj;simpa using h
theorem u8w (k:Nat):IntKind.u8.wrap (k:Int)=((k % 256:Nat):Int):=by simp[IntKind.wrap,IntKind.bits,IntKind.signed]
theorem ofNat_u8 (k:Nat):UInt8.ofNat (IntKind.u8.wrap (k:Int)).toNat=UInt8.ofNat k:=by
 rw[u8w,Int.toNat_natCast]; exact ofNat_congr oM
theorem fdiv_nat (k e:Nat):(k:Int).fdiv ((e:Nat):Int)=((k / e:Nat):Int):=by
 rw[Int.fdiv_eq_ediv_of_nonneg _ oM]; simp
theorem byt_by4 (k:Nat):byt (by4 (k:Int))=[UInt8.ofNat (k / 16777216),UInt8.ofNat (k / 65536),UInt8.ofNat (k / 256),UInt8.ofNat k]:=by
 have h1:((2:Int) ^ min (24:Int).toNat IntKind.u64.bits)=((16777216:Nat):Int):=by decide
 have h2:((2:Int) ^ min (16:Int).toNat IntKind.u64.bits)=((65536:Nat):Int):=by decide
 have h3:((2:Int) ^ min (8:Int).toNat IntKind.u64.bits)=((256:Nat):Int):=by decide
 unfold by4;rw[h1,h2,h3,fdiv_nat,fdiv_nat,fdiv_nat];simp only[byt,List.map_cons,List.map_nil,ofNat_u8]
def beK:Nat→Nat→List UInt8
 | 0,_=>[]
 | k+1,m=>beK k (m / 65536)++[UInt8.ofNat (m / 256),UInt8.ofNat m]
def magB (m:Nat):List UInt8:=dropZ (beK 4 m)
theorem trimZ1 {a:Int}(h:a≠0):trimZ [a,0]=[a]:=by simp[trimZ,h]
theorem trimZ2 {a b:Int}(h:b≠0):trimZ [a,b]=[a,b]:=by simp[trimZ,h]
theorem words_bytes (n:Int)(h:n.natAbs<18446744073709551616):wordsT (words n)=magB n.natAbs:=by
 obtain ⟨m,hm⟩:∃ m,m=n.natAbs:=⟨_,rfl⟩;unfold words;rw[← hm] at h ⊢;have hlo:=byt_by4 (m % 4294967296);have hhi:=byt_by4 (m / 4294967296);have hbe:beK 4 m=[UInt8.ofNat (m / 4294967296 / 16777216),UInt8.ofNat (m / 4294967296 / 65536),UInt8.ofNat (m / 4294967296 / 256),UInt8.ofNat (m / 4294967296),UInt8.ofNat (m % 4294967296 / 16777216),UInt8.ofNat (m % 4294967296 / 65536),UInt8.ofNat (m % 4294967296 / 256),UInt8.ofNat (m % 4294967296)]:=by
  simp only[beK,List.nil_append,List.cons_append];refine congr (congrArg List.cons ?_) (congr (congrArg List.cons ?_) (congr (congrArg List.cons ?_) (congr (congrArg List.cons ?_) (congr (congrArg List.cons ?_) (congr (congrArg List.cons ?_) (congr (congrArg List.cons ?_) (congr (congrArg List.cons ?_) I)))))))
  all_goals exact ofNat_congr oM
 unfold magB wordsT;rw[hbe];by_cases h1:m / 4294967296=0
 ·by_cases h2:m % 4294967296=0
  ·rw[h1,h2]; rfl
  ·have ht:trimZ [((m % 4294967296:Nat):Int),((m / 4294967296:Nat):Int)]=[((m % 4294967296:Nat):Int)]:=by
    rw[h1];exact trimZ1 oM
   rw[ht];show dropZ (byt (by4 _++[]))=_;rw[List.append_nil,hlo,h1];rfl
 ·have ht:trimZ [((m % 4294967296:Nat):Int),((m / 4294967296:Nat):Int)]=[((m % 4294967296:Nat):Int),((m / 4294967296:Nat):Int)]:=by
   exact trimZ2 oM
  rw[ht];show dropZ (byt (by4 _++(by4 _++[])))=_;rw[List.append_nil];have:byt (by4 ((m / 4294967296:Nat):Int)++by4 ((m % 4294967296:Nat):Int))=byt (by4 ((m / 4294967296:Nat):Int))++byt (by4 ((m % 4294967296:Nat):Int)):=by simp[byt]
  rw[this,hhi,hlo];rfl
def wideN (n:Int):Value:=wideV (decide (n<0)) (magB n.natAbs)
theorem from_spec (E:World)(g:PH)(s:Own)(n:Int)(h0 : -9223372036854775808≤n)(h1:n<9223372036854775808) :
  Ctr Tryz.prog E 143 #[vi n] g s (fun r g' s'=>r=wideN n∧s=s'∧Le g g') :=
 (from_raw E g s n h0 h1).mono fun _ _ _ ⟨h2,h3⟩=>⟨by rw[h2,words_bytes _ oM]; rfl,h3⟩
def sideIds (l:List Cl):List Int:=l.flatMap fun c=>c.sides.map Side.cell
theorem sideIds_has (A:List Cl)(k:Int):(sideIds A).contains k=sideOf A k:=by
 rw[Bool.eq_iff_iff];simp[sideIds,sideOf,hasC]
theorem sideIds_succ {A:List Cl}{k:Nat}(h:k<A.length):sideIds (A.take (k+1))=sideIds (A.take k)++A[k].sides.map Side.cell:=by
 unfold sideIds;rw[tS h,List.flatMap_append];simp only[List.flatMap_cons,List.flatMap_nil,List.append_nil]
theorem flags_no {A:List Cl}{id:Int}(h:findT A id=none)(m:List Int):flags A (m++[id])=flags A m:=by
 unfold flags;refine List.map_congr_left fun c hc=>?_;have:=List.find?_eq_none.1 h c hc;simp only[decide_eq_true_eq] at this;simp[this]
theorem mapS_succ {ss:List Side}{j:Nat}(h:j<ss.length)(m:List Int):m++(ss.take (j+1)).map Side.cell=(m++(ss.take j).map Side.cell)++[ss[j].cell]:=by
 rw[tS h,List.map_append,List.append_assoc]; rfl
theorem refTops_spec (E:World)(g:PH)(s:Own)(v:Value)(l:List Cl)(hv:Cells g v l)(hf:Fits l) :
  Ctr Tryz.prog E 31 #[.agg #[v]] g s (fun r g' s'=>s=s'∧Le g g'∧Ints g' r (topsC l)):=by
 have hft:=tabC_fits hf;have hfl:=hft.1;have hsrt:=tabC_sorted l;have hnd:=tabC_nodup l;refine Ctr.of (args:=[.agg #[v]]) func31 I ntmps31 (bE I) ?_;refine rZ (bW (bO I) fun b1=>?_);refine aT I (rZ (aT I (rZ (lK (qV 0 iT29 zT29 I I I) (lW (SO.call call42 I (refCells_spec E g _ _ l hv hf)) ?_)))));rintro v11 g1 _ ⟨rfl,hle,hc⟩;obtain ⟨rs,hrs,hall⟩:=hc;have hcs:Cells g1 _ (tabC l):=⟨rs,hrs,hall⟩;obtain ⟨q,dd,rfl⟩:=hrs.form;have hrl:=hall.length;refine aT I (sW I (lU (eN uT27 I) (lW (mK encBool false sty109 I I I oM oM) ?_)));rintro _ _ _ ⟨b14,rfl,rfl,rfl⟩;refine aT I (sQ (rZ (aT I (bK ?_))));unfold topsC;generalize tabC l=A at *;refine SC.to (g':=g1) (s':=rowA encBool 4 (.slice (some ⟨b14,0,none⟩) rs.length rs.length) (flags A (sideIds (A.take 0)))::pt b1 (.cells #[v] 29 (0,0))::s) (fun w hw=>by rw[show sideIds (A.take 0)=[] from I,flags_nil,hrl]; exact hw) ?_;refine oP (ι:=Nat) (fun i=>[(3,.slice none 0 0),(4,.slice q rs.length dd),(5,.slice (some ⟨b14,0,none⟩) rs.length rs.length),(6,vi i)]) (fun _=>g1)
  (fun i=>rowA encBool 4 (.slice (some ⟨b14,0,none⟩) rs.length rs.length) (flags A (sideIds (A.take i)))::pt b1 (.cells #[v] 29 (0,0))::s)
  (fun i=>i≤A.length) (fun i=>A.length - i) 0 sB rfl rfl (Nat.zero_le _) ?_
 intro k hk;refine sQ (sW I (lM I (lU (eN uT27 I) (yL I (tZ ?_)))));refine iP I (fun hlt=>?_) (fun hlt=>?_)
 ·have hkl:k<A.length:=oM;have hkr:k<rs.length:=oM;have hb1:=hrs.based oM;have hcr:=hall.get (gE hkl) (gE hkr);have hgr:rs[((k:Nat):Int).toNat]?=some rs[k]:=gE hkr;have hsucc:=sideIds_succ hkl;have hxl:=hft.2 _ (gM hkl);generalize A[k]=x at *;generalize rs[k]=r at *;generalize sideIds (A.take k)=m at *;obtain ⟨ri,rd,rp,rn,rc⟩:=r;have hsv:SlA encSide g1 (.slice rp rn rc) x.sides:=hcr.2.2;have hxn:rn=x.sides.length:=by obtain ⟨q,cc,hq⟩:=SlA.form hsv; simp at hq; exact hq.2.1
  subst hxn;refine kP (tN (sQ (bK (rZ (aT I (bK ?_))))));refine oP (ι:=Nat) (fun j=>[(3,.slice none 0 0),(4,.slice q rs.length dd),(5,.slice (some ⟨b14,0,none⟩) rs.length rs.length),(6,vi k),(7,vi j)]) (fun _=>g1)
   (fun j=>rowA encBool 4 (.slice (some ⟨b14,0,none⟩) rs.length rs.length) (flags A (m++(x.sides.take j).map Side.cell))::pt b1 (.cells #[v] 29 (0,0))::s)
   (fun j=>j≤x.sides.length) (fun j=>x.sides.length - j) 0 sB rfl (by simp) (Nat.zero_le _) ?_
  intro j hj;refine sQ (sW I (lM I (lM I (lU (iA uT27 zT54 I I hb1 oM sL) (lU (fC uT54 I zT37 I hb1) (lK (aZ (e:=encCell) (o:=2) (u:=.slice rp x.sides.length rc) iT37 I hrs.rd hgr I) (lU (eN uT37 I) (yL I (tZ ?_)))))))));refine iP I (fun hlt2=>?_) (fun hlt2=>?_)
  ·have hjl:j<x.sides.length:=oM;have hb2:=SlA.based hsv oM;have hgj:x.sides[((j:Nat):Int).toNat]?=some x.sides[j]:=gE hjl;have hms:=mapS_succ hjl m;generalize m++(x.sides.take j).map Side.cell=m2 at *;generalize x.sides[j]=z at *;have hfl2:(flags A m2).length=A.length:=by simp[flags]
   rcases at_find hsrt z.cell with ⟨hf0,hat⟩ | ⟨c,kk,hf0,hat,hck⟩
   ·refine kP (tN (sQ (bK (sW I (lM I (lM I (lU (iA uT27 zT54 I I hb1 oM sL) (lU (fC uT54 I zT37 I hb1) (lK (aZ (e:=encCell) (o:=2) (u:=.slice rp x.sides.length rc) iT37 I hrs.rd hgr I) (lM I (lU (iA uT37 zT56 I I hb2 oM sL) (lU (fC uT56 I zT3 I hb2) (lK (aZ (o:=0) (u:=vi z.cell) iT3 I hsv.rd hgj I) (lW (SO.call call62 I (at_spec E g1 _ _ A z.cell hcs hfl hsrt)) ?_))))))))))))));rintro _ _ _ ⟨rfl,rfl,rfl⟩;rw[hat];refine aT I (sW I (lU (SU.eq (v':=vb false) (gQ I I) (congrArg vb (decide_eq_false oM))) (tZ (cF I (kP (bN (tN (rG (lM I (yD I (lA I (nL ?_))))))))))));exact ST.again (j+1) sB I (by rw[hms,flags_no hf0]) oM oM
   ·have hkl2:kk<A.length:=(List.getElem?_eq_some_iff.1 hck).1;have hset:(flags A m2).set kk true=flags A (m2++[z.cell]):=by rw[flags_set hnd hck,(findT_mem hf0).2]
    refine kP (tN (sQ (bK (sW I (lM I (lM I (lU (iA uT27 zT54 I I hb1 oM sL) (lU (fC uT54 I zT37 I hb1) (lK (aZ (e:=encCell) (o:=2) (u:=.slice rp x.sides.length rc) iT37 I hrs.rd hgr I) (lM I (lU (iA uT37 zT56 I I hb2 oM sL) (lU (fC uT56 I zT3 I hb2) (lK (aZ (o:=0) (u:=vi z.cell) iT3 I hsv.rd hgj I) (lW (SO.call call62 I (at_spec E g1 _ _ A z.cell hcs hfl hsrt)) ?_))))))))))))));rintro _ _ _ ⟨rfl,rfl,rfl⟩;rw[hat];refine aT I (sW I (lU (SU.eq (v':=vb true) (gQ I I) (congrArg vb (decide_eq_true oM))) (tZ (SC.condT I (rG (lM I (lM I (lU (iA underlying109 zT4 I I I oM sL) (oZ (sT (e:=encBool) (a:=true) 0 zT4 I I I (by rw[hfl2]; omega) I) ?_)))))))));refine nL (bN (tN (rG (lM I (yD I (lA I (nL ?_)))))));exact ST.again (j+1) sB rfl (by rw[hms,← hset]; rfl) oM oM
  ·have hjj:x.sides.take j=x.sides:=tL oM;rw[hjj,← hsucc];refine xI (tX (tX (bX (bN (tN (rG (lM I (yD I (lA I (nL ?_))))))))));exact ST.again (k+1) sB I I oM oM
 ·have hkk:A.take k=A:=tL oM;rw[hkk];refine xI (tX (tX (bX (tN (sQ (rZ (aT I (bK (cP (List.Perm.swap _ _ _) (cP (List.Perm.swap _ _ _) (SC.nilRow 3 1 ?_)))))))))));refine oP (ι:=Value×Nat) (fun i=>[(3,i.1),(4,.slice q rs.length dd),(5,.slice (some ⟨b14,0,none⟩) rs.length rs.length),(9,vi i.2)]) (fun _=>g1)
   (fun i=>rowA encInt 3 i.1 (((A.take i.2).filter fun c=>!sideOf A c.id).map Cl.id)::rowA encBool 4 (.slice (some ⟨b14,0,none⟩) rs.length rs.length) (flags A (sideIds A))::pt b1 (.cells #[v] 29 (0,0))::s)
   (fun i=>i.2≤A.length) (fun i=>A.length - i.2) (.slice none 0 0,0) sB rfl rfl (Nat.zero_le _) ?_
  rintro ⟨ov,i⟩ hi;dsimp only at hi ⊢;refine sQ (sW I (lM I (lU (eN uT27 I) (yL I (tZ ?_)))));refine iP I (fun hlt3=>?_) (fun hlt3=>?_)
  ·have hil:i<A.length:=oM;have hir:i<rs.length:=oM;have hb1:=hrs.based oM;have hcr:=hall.get (gE hil) (gE hir);have hgr:rs[((i:Nat):Int).toNat]?=some rs[i]:=gE hir;have hsucc:=filt_succ hil (fun c=>!sideOf A c.id) Cl.id;have hlek:=filt_le A i (fun c=>!sideOf A c.id) Cl.id;have hgf:(flags A (sideIds A))[((i:Nat):Int).toNat]?=some (sideOf A A[i].id):=by rw[← sideIds_has]; exact flags_get (gE hil)
   generalize A[i]=x at *;generalize rs[i]=r at *;refine kP (tN (sQ (bK (sW I (lM I (lU (iA underlying109 zT4 I I I oM sL) (lK (eB (e:=encBool) isAgg4 I (Rd.rowA 1 I) hgf I) (lU (SU.not I) (tZ ?_)))))))));refine iQ I (fun htop=>?_) (fun htop=>?_)
   ·refine rG (lM rfl (lM rfl (lM rfl (lU (iA uT27 zT54 rfl rfl hb1 oM sL) (lU (fC uT54 rfl zT3 rfl hb1) (lK (aZ (e:=encCell) (o:=0) (u:=vi x.id) iT3 rfl hrs.rd hgr (by rw[← hcr.1]; rfl)) ?_))))));refine lW (bS sty22 I I I (szs_mk sB) dC) ?_;rintro _ _ _ ⟨b64,rfl,rfl,rfl⟩;refine lW (aP (e:=encInt) 0 x.id sty22 I I I I I oM oM) ?_;rintro ov' _ _ ⟨rfl,rfl⟩;refine lA I (nL (bN (tN (rG (lM I (yD I (lA I (nL ?_))))))));refine ST.to (fun w hw=>?_) (g':=g1) (s':=rowA encInt 3 ov' (((A.take (i+1)).filter fun c=>!sideOf A c.id).map Cl.id)::rowA encBool 4 (.slice (some ⟨b14,0,none⟩) rs.length rs.length) (flags A (sideIds A))::pt b1 (.cells #[v] 29 (0,0))::s) ?_
    ·rw[hsucc,if_pos (by simpa using htop)]; exact hw
    exact ST.again (ov',i+1) sB I I (by dsimp only; omega) lN
   ·refine kP (bN (tN (rG (lM I (yD I (lA I (nL ?_)))))));refine ST.to (fun w hw=>?_) (g':=g1) (s':=rowA encInt 3 ov (((A.take (i+1)).filter fun c=>!sideOf A c.id).map Cl.id)::rowA encBool 4 (.slice (some ⟨b14,0,none⟩) rs.length rs.length) (flags A (sideIds A))::pt b1 (.cells #[v] 29 (0,0))::s) ?_
    ·rw[hsucc,if_neg (by simpa using htop),List.append_nil]; exact hw
    exact ST.again (ov,i+1) sB I I (by dsimp only; omega) lN
  ·have hii:A.take i=A:=tL oM;rw[hii];refine xI (tX (tX (bX (tN (sW I (aT I (rE (fT fun g2 hle2 hs2=>?_))))))));refine dR (s':=s) uR ?_;exact ST.ret1 (.inl I) results31 I ⟨I,hle.trans hle2,hs2⟩
open Go.ChangeShapes Go.WideShapes Go.ChangeAt Go.RowKit
set_option maxRecDepth 100000
section
variable {H:Type}{enc:TypeId×Value→H}{W:World}{base:Nat}{spare:Nat→Bool}{hd:Bool}
theorem lit_wf {n:Int}(h:(Lit.int .i64 n).wf=true):inI64 n:=by
 have h2:IntKind.i64.min≤n∧n≤IntKind.i64.max:=by simpa [Lit.wf] using h
 have e1:IntKind.i64.min = -9223372036854775808:=by decide
 have e2:IntKind.i64.max=9223372036854775807:=by decide
 unfold inI64;omega
theorem three_wf {fuel:Nat}{c0 c1 c2:Value}{x:DataW H×List MemPlace}(h:DataW.trod enc Tryz.prog W base spare hd fuel 41 [c0,c1,c2]=some x):∃ a b c:Int,c0=vi a∧c1=vi b∧c2=vi c∧inI64 a∧inI64 b∧inI64 c:=by
 obtain ⟨y0,y1,y2,n,_,h0,h1,h2⟩:=trod_array3 uT41 cells3 h;obtain ⟨a,e0,_,w0⟩:=DataW.trod_int uT3 h0;obtain ⟨b,e1,_,w1⟩:=DataW.trod_int uT3 h1;obtain ⟨c,e2,_,w2⟩:=DataW.trod_int uT3 h2;simp at e0 e1 e2;exact⟨a,b,c,e0,e1,e2,lit_wf w0,lit_wf w1,lit_wf w2⟩
end
theorem ins_map {α β:Type}{ka:α→Int}{kb:β→Int}{f:α→β}(h:∀ a,kb (f a)=ka a)(x:α):∀ l:List α,ins kb (f x) (l.map f)=(ins ka x l).map f
 | []=>rfl
 | y::r=>by
  simp only[List.map_cons,ins,h];split
  ·rfl
  ·rw[ins_map h x r]; rfl
theorem sortBy_map {α β:Type}{ka:α→Int}{kb:β→Int}{f:α→β}(h:∀ a,kb (f a)=ka a):∀ l:List α,sortBy kb (l.map f)=(sortBy ka l).map f
 | []=>rfl
 | x::r=>by
  simp only[List.map_cons,sortBy];rw[sortBy_map h r,ins_map h]
theorem sortPerm {α:Type}{key:α→Int}(l:List α):(sortBy key l).Perm l:=by
 induction l with
 | nil=>exact .refl _
 | cons x r ih =>
  have h:∀ m:List α,(ins key x m).Perm (x::m):=by
   intro m;induction m with
   | nil=>exact .refl _
   | cons y t iht =>
    simp only[ins];split
    ·exact .refl _
    ·exact (List.Perm.cons _ iht).trans (List.Perm.swap _ _ _)
  exact (h _).trans (List.Perm.cons _ ih)
theorem sortBy_uniq {α:Type}{key:α→Int}{l m:List α}(h:l.Perm m)(hn:(l.map key).Nodup):sortBy key l=sortBy key m:=by
 have hst:∀ q:List α,(q.map key).Nodup→(sortBy key q).Pairwise fun a b=>key a<key b:=fun q hq=>by
  have h1:=sortBy_srt (key:=key) q;have h2:((sortBy key q).map key).Nodup:=((sortPerm q).map key).symm.nodup hq;have h3:(sortBy key q).Pairwise fun a b=>key a≠key b:=by
   rw[List.nodup_iff_pairwise_ne,List.pairwise_map] at h2;exact h2
  exact (h1.and h3).imp fun h=>by omega
 have hm:(m.map key).Nodup:=(h.map key).nodup hn;refine List.Perm.eq_of_pairwise (le:=fun a b=>key a<key b) (fun a b _ _ h1 h2=>by omega) (hst l hn) (hst m hm) ?_;exact (sortPerm l).trans (h.trans (sortPerm m).symm)
theorem ShL.length {l m:List Cl}(h:ShL l m):l.length=m.length:=by
 obtain ⟨l1,hp,ha⟩:=h;rw[← hp.length_eq,ha.length]
end Go.Proofs.YtmmghffoakhheaaGreatDoor
